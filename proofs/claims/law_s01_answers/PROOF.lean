import PyProof.Rows.All
import Wide.All
import OpenK.AllK
import Wide.FinOn
import PyProof.EqAt
import PyProof.EqKinds
import PyProof.TupleCall
import Open.SpecLaws
import KE.OsGo
import HandS.ForSpec
import HandS.Comp
import HandS.Dict
import HandS.WordsDict
import HandS.Iter
import HandS.Text
import HandS.WideBits
import HandS.NoneIn
import HandS.Rev
import PyFlatLaws
import PySem.Challenge.RW_hexgame_s01_answers
set_option Elab.async false
set_option linter.all false
set_option maxRecDepth 100000
set_option maxHeartbeats 4000000
/-! Hx, part 1: sets of cells as numbers. -/
namespace Hx
/-- the bit of the i-th cell -/
def bidx (n i : Nat) : Nat := i / n * (n + 1) + i % n
theorem bidx_rc {n r c : Nat} (hc : c < n) : bidx n (r * n + c) = r * (n + 1) + c := by
  unfold bidx
  have h0 : 0 < n := by omega
  rw [Nat.mul_comm r n, Nat.mul_add_div h0, Nat.div_eq_of_lt hc, Nat.mul_add_mod, Nat.mod_eq_of_lt hc, Nat.add_zero]
theorem cell_rc {n : Nat} (i : Nat) : i = i / n * n + i % n := by
  rw [Nat.mul_comm]; exact (Nat.div_add_mod i n).symm
theorem rc_div {n r c : Nat} (hc : c < n) : (r * n + c) / n = r := by
  have h0 : 0 < n := by omega
  rw [Nat.mul_comm r n, Nat.mul_add_div h0, Nat.div_eq_of_lt hc, Nat.add_zero]
theorem rc_mod {n r c : Nat} (hc : c < n) : (r * n + c) % n = c := by
  rw [Nat.mul_comm r n, Nat.mul_add_mod, Nat.mod_eq_of_lt hc]
theorem rc_lt {n r c : Nat} (hr : r < n) (hc : c < n) : r * n + c < n * n := by
  have : (r + 1) * n ≤ n * n := Nat.mul_le_mul_right n hr
  rw [Nat.succ_mul] at this
  omega
theorem row_lt {n i : Nat} (h : i < n * n) : i / n < n := Nat.div_lt_of_lt_mul h
theorem col_lt {n i : Nat} (h0 : 0 < n) : i % n < n := Nat.mod_lt _ h0
/-- one place, one row and column -/
theorem rc_inj {m a b a' b' : Nat} (hb : b < m) (hb' : b' < m) (h : a * m + b = a' * m + b') : a = a' ∧ b = b' := by
  have h1 : (a * m + b) / m = a := rc_div hb
  have h2 : (a' * m + b') / m = a' := rc_div hb'
  have h3 : (a * m + b) % m = b := rc_mod hb
  have h4 : (a' * m + b') % m = b' := rc_mod hb'
  rw [h] at h1 h3
  exact ⟨h1.symm.trans h2, h3.symm.trans h4⟩
theorem bidx_inj {n i j : Nat} (h0 : 0 < n) (h : bidx n i = bidx n j) : i = j := by
  unfold bidx at h
  have h1 := col_lt (i := i) h0
  have h2 := col_lt (i := j) h0
  obtain ⟨a, b⟩ := rc_inj (m := n + 1) (by omega) (by omega) h
  rw [cell_rc (n := n) i, cell_rc (n := n) j, a, b]
theorem bidx_lt {n i : Nat} (h : i < n * n) : bidx n i < n * (n + 1) := by
  have h0 : 0 < n := by
    cases n with
    | zero => simp at h
    | succ k => omega
  have h1 := row_lt h
  have h2 := col_lt (i := i) h0
  unfold bidx
  have : (i / n + 1) * (n + 1) ≤ n * (n + 1) := Nat.mul_le_mul_right _ h1
  rw [Nat.succ_mul] at this
  omega
/-- S has just the bits of the cells of p -/
def Bits (n S : Nat) (p : Nat → Bool) : Prop := ∀ k, S.testBit k = true ↔ ∃ i, i < n * n ∧ p i = true ∧ k = bidx n i
section
variable {n S T : Nat} {p q : Nat → Bool}
theorem Bits.cell (h : Bits n S p) {i : Nat} (hi : i < n * n) : S.testBit (bidx n i) = p i := by
  have h0 : 0 < n := by
    cases n with
    | zero => simp at hi
    | succ k => omega
  cases e : p i with
  | true => exact (h _).mpr ⟨i, hi, e, rfl⟩
  | false =>
    cases e' : S.testBit (bidx n i) with
    | false => rfl
    | true =>
      obtain ⟨j, _, hp, hj⟩ := (h _).mp e'
      rw [← bidx_inj h0 hj, e] at hp
      cases hp
theorem Bits.off (h : Bits n S p) {k : Nat} (hk : ∀ i, i < n * n → k ≠ bidx n i) : S.testBit k = false := by
  cases e : S.testBit k with
  | false => rfl
  | true =>
    obtain ⟨i, hi, _, e'⟩ := (h _).mp e
    exact absurd e' (hk i hi)
theorem Bits.of (h1 : ∀ i, i < n * n → S.testBit (bidx n i) = p i) (h2 : ∀ k, (∀ i, i < n * n → k ≠ bidx n i) → S.testBit k = false) : Bits n S p := by
  intro k
  by_cases c : ∃ i, i < n * n ∧ k = bidx n i
  · obtain ⟨i, hi, rfl⟩ := c
    constructor
    · intro e
      exact ⟨i, hi, by rw [← h1 i hi]; exact e, rfl⟩
    · rintro ⟨j, hj, hp, e⟩
      rw [e, h1 j hj]
      exact hp
  · have c' : ∀ i, i < n * n → k ≠ bidx n i := fun i hi e => c ⟨i, hi, e⟩
    rw [h2 k c']
    constructor
    · intro e; cases e
    · rintro ⟨j, hj, _, e⟩
      exact absurd e (c' j hj)
theorem Bits.congr (h : Bits n S p) (e : ∀ i, i < n * n → p i = q i) : Bits n S q :=
  .of (fun i hi => by rw [h.cell hi, e i hi]) (fun _ hk => h.off hk)
theorem Bits.ext (h : Bits n S p) (h' : Bits n T q) (e : ∀ i, i < n * n → p i = q i) : S = T := by
  apply Nat.eq_of_testBit_eq
  intro k
  by_cases c : ∃ i, i < n * n ∧ k = bidx n i
  · obtain ⟨i, hi, rfl⟩ := c
    rw [h.cell hi, h'.cell hi, e i hi]
  · have c' : ∀ i, i < n * n → k ≠ bidx n i := fun i hi e => c ⟨i, hi, e⟩
    rw [h.off c', h'.off c']
theorem Bits.same (h : Bits n S p) (h' : Bits n S q) {i : Nat} (hi : i < n * n) : p i = q i := by
  rw [← h.cell hi, h'.cell hi]
theorem Bits.and (h : Bits n S p) (h' : Bits n T q) : Bits n (S &&& T) (fun i => p i && q i) :=
  .of (fun i hi => by rw [Nat.testBit_and, h.cell hi, h'.cell hi]) (fun _ hk => by rw [Nat.testBit_and, h.off hk, Bool.false_and])
theorem Bits.or (h : Bits n S p) (h' : Bits n T q) : Bits n (S ||| T) (fun i => p i || q i) :=
  .of (fun i hi => by rw [Nat.testBit_or, h.cell hi, h'.cell hi]) (fun _ hk => by rw [Nat.testBit_or, h.off hk, h'.off hk, Bool.false_or])
theorem Bits.xor (h : Bits n S p) (h' : Bits n T q) : Bits n (S ^^^ T) (fun i => p i ^^ q i) :=
  .of (fun i hi => by rw [Nat.testBit_xor, h.cell hi, h'.cell hi]) (fun _ hk => by rw [Nat.testBit_xor, h.off hk, h'.off hk, Bool.xor_false])
theorem Bits.zero : Bits n 0 (fun _ => false) :=
  .of (fun _ _ => Nat.zero_testBit _) (fun _ _ => Nat.zero_testBit _)
theorem Bits.eq_zero (h : Bits n S p) : S = 0 ↔ ∀ i, i < n * n → p i = false := by
  constructor
  · intro e i hi
    rw [← h.cell hi, e, Nat.zero_testBit]
  · intro e
    exact h.ext .zero e
theorem Bits.ne_zero (h : Bits n S p) : S ≠ 0 ↔ ∃ i, i < n * n ∧ p i = true := by
  constructor
  · intro e
    apply Classical.byContradiction
    intro c
    apply e
    rw [h.eq_zero]
    intro i hi
    cases e' : p i with
    | false => rfl
    | true => exact absurd ⟨i, hi, e'⟩ c
  · rintro ⟨i, hi, e⟩ z
    rw [h.eq_zero.mp z i hi] at e
    cases e
theorem Bits.one {i : Nat} (h0 : 0 < n) (hi : i < n * n) : Bits n (2 ^ bidx n i) (fun j => j == i) :=
  .of (fun j hj => by
      rw [Nat.testBit_two_pow]
      by_cases c : j = i
      · subst c; simp
      · have : bidx n i ≠ bidx n j := fun e => c (bidx_inj h0 e).symm
        simp [c, this])
    (fun k hk => by
      rw [Nat.testBit_two_pow]
      exact decide_eq_false fun e => hk i hi e.symm)
theorem Bits.lt (h : Bits n S p) : S < 2 ^ (n * (n + 1)) := by
  apply Nat.lt_pow_two_of_testBit
  intro k hk
  apply h.off
  intro i hi e
  have := bidx_lt hi
  omega
end
theorem add_or {a b : Nat} (h : a &&& b = 0) : a + b = a ||| b := by
  have ha : a < 2 ^ (a + b + 1) := Nat.lt_of_le_of_lt (by omega : a ≤ a + b + 1) Nat.lt_two_pow_self
  have hb : b < 2 ^ (a + b + 1) := Nat.lt_of_le_of_lt (by omega : b ≤ a + b + 1) Nat.lt_two_pow_self
  have hab : a + b < 2 ^ (a + b + 1) := Nat.lt_of_le_of_lt (by omega : a + b ≤ a + b + 1) Nat.lt_two_pow_self
  have hz : BitVec.ofNat (a + b + 1) a &&& BitVec.ofNat (a + b + 1) b = 0#(a + b + 1) := by
    apply BitVec.eq_of_toNat_eq
    rw [BitVec.toNat_and, BitVec.toNat_ofNat, BitVec.toNat_ofNat, Nat.mod_eq_of_lt ha, Nat.mod_eq_of_lt hb, h]
    simp
  have e := congrArg BitVec.toNat (BitVec.add_eq_or_of_and_eq_zero _ _ hz)
  rw [BitVec.toNat_add, BitVec.toNat_or, BitVec.toNat_ofNat, BitVec.toNat_ofNat, Nat.mod_eq_of_lt ha, Nat.mod_eq_of_lt hb, Nat.mod_eq_of_lt hab] at e
  exact e
/-- the numbers of a list of cells -/
def pows (n : Nat) (l : List Nat) : List Nat := l.map fun i => 2 ^ bidx n i
theorem Bits.sum {n : Nat} (h0 : 0 < n) : ∀ {l : List Nat}, l.Nodup → (∀ i ∈ l, i < n * n) → Bits n (pows n l).sum (fun i => l.contains i)
  | [], _, _ => Bits.zero.congr fun _ _ => rfl
  | a :: l, hn, hl => by
    obtain ⟨ha, hn'⟩ := List.nodup_cons.mp hn
    have ih := Bits.sum h0 hn' fun i hi => hl i (List.mem_cons_of_mem _ hi)
    have h1 := Bits.one h0 (hl a List.mem_cons_self)
    have hz : 2 ^ bidx n a &&& (pows n l).sum = 0 := by
      rw [(h1.and ih).eq_zero]
      intro i hi
      by_cases c : i = a
      · subst c
        have : l.contains i = false := by simpa using ha
        rw [this, Bool.and_false]
      · simp [c]
    show Bits n (2 ^ bidx n a + (pows n l).sum) _
    rw [add_or hz]
    refine (h1.or ih).congr fun i _ => ?_
    rw [List.contains_cons]
/-! ### the board's own sets -/
/-- all cells, by their numbers, in order -/
def bitsL (n : Nat) : List Nat := pows n (List.range (n * n))
def allC (n : Nat) : Nat := (bitsL n).sum
theorem allC_bits {n : Nat} (h0 : 0 < n) : Bits n (allC n) (fun _ => true) :=
  (Bits.sum h0 List.nodup_range fun i hi => List.mem_range.mp hi).congr fun i hi => by simpa using hi
theorem Bits.compl {n S : Nat} {p : Nat → Bool} (h0 : 0 < n) (h : Bits n S p) : Bits n (allC n ^^^ S) (fun i => !p i) :=
  ((allC_bits h0).xor h).congr fun i _ => by cases p i <;> rfl
/-! ### neighbours -/
/-- the neighbours, by the specification -/
def nb (n i : Nat) : List Nat := Mu25.near ⟨n, []⟩ i
theorem nb_eq (B : Mu25.Board) (i : Nat) : Mu25.near B i = nb B.n i := rfl
def besideN (n A S : Nat) : Nat := (S <<< 1 ||| S >>> 1 ||| S <<< (n + 1) ||| S >>> (n + 1) ||| S <<< n ||| S >>> n) &&& A
section
variable {n S : Nat} {p : Nat → Bool}
theorem Bits.rc (h : Bits n S p) {r c : Nat} (hr : r < n) (hc : c < n) : S.testBit (r * (n + 1) + c) = p (r * n + c) := by
  rw [← bidx_rc hc, h.cell (rc_lt hr hc)]
theorem Bits.guard (h : Bits n S p) (r : Nat) : S.testBit (r * (n + 1) + n) = false := by
  apply h.off
  intro i hi e
  have h0 : 0 < n := by
    cases n with
    | zero => simp at hi
    | succ k => omega
  have h2 := col_lt (i := i) h0
  obtain ⟨_, b⟩ := rc_inj (m := n + 1) (by omega) (by omega) (show r * (n + 1) + n = i / n * (n + 1) + i % n from e)
  omega
theorem Bits.below (h : Bits n S p) {c : Nat} (k : Nat) (hk : n * (n + 1) ≤ k) (_ : c = c) : S.testBit k = false := by
  apply h.off
  intro i hi e
  have := bidx_lt hi
  omega
theorem nb_rc {r c : Nat} (hc : c < n) : nb n (r * n + c) = (if 0 < r then [r * n + c - n] else []) ++ (if 0 < r ∧ c + 1 < n then [r * n + c - n + 1] else []) ++ (if 0 < c then [r * n + c - 1] else []) ++ (if c + 1 < n then [r * n + c + 1] else []) ++ (if r + 1 < n ∧ 0 < c then [r * n + c + n - 1] else []) ++ (if r + 1 < n then [r * n + c + n] else []) := by
  show Mu25.near ⟨n, []⟩ (r * n + c) = _
  unfold Mu25.near
  have e1 : Mu25.row ⟨n, []⟩ (r * n + c) = r := rc_div hc
  have e2 : Mu25.col ⟨n, []⟩ (r * n + c) = c := rc_mod hc
  simp only [e1, e2]
theorem any_ite {c : Prop} [Decidable c] {x : Nat} {f : Nat → Bool} : (if c then [x] else []).any f = (decide c && f x) := by
  by_cases h : c <;> simp [h]
theorem Bits.beside (h : Bits n S p) (h0 : 0 < n) : Bits n (besideN n (allC n) S) (fun i => (nb n i).any p) := by
  refine .of (fun i hi => ?_) (fun k hk => ?_)
  · have hA := (allC_bits h0).cell hi
    unfold besideN
    rw [Nat.testBit_and, hA, Bool.and_true]
    have hr := row_lt hi
    have hc := col_lt (i := i) h0
    have ei := cell_rc (n := n) i
    generalize i / n = r at *
    generalize i % n = c at *
    subst ei
    rw [bidx_rc hc, nb_rc hc]
    simp only [List.any_append, any_ite]
    simp only [Nat.testBit_or, Nat.testBit_shiftLeft, Nat.testBit_shiftRight]
    -- one by one
    have s1 : (decide (r * (n + 1) + c ≥ 1) && S.testBit (r * (n + 1) + c - 1)) = (decide (0 < c) && p (r * n + c - 1)) := by
      by_cases z : 0 < c
      · have a1 : r * (n + 1) + c ≥ 1 := by omega
        have a2 : r * (n + 1) + c - 1 = r * (n + 1) + (c - 1) := by omega
        have a3 : r * n + c - 1 = r * n + (c - 1) := by omega
        rw [a2, h.rc hr (by omega), a3]
        simp [z, a1]
      · have z' : c = 0 := by omega
        subst z'
        cases r with
        | zero => simp
        | succ r' =>
          have a2 : (r' + 1) * (n + 1) + 0 - 1 = r' * (n + 1) + n := by rw [Nat.succ_mul]; omega
          rw [a2, h.guard]
          simp
    have s2 : S.testBit (1 + (r * (n + 1) + c)) = (decide (c + 1 < n) && p (r * n + c + 1)) := by
      have a2 : 1 + (r * (n + 1) + c) = r * (n + 1) + (c + 1) := by omega
      rw [a2]
      by_cases z : c + 1 < n
      · rw [h.rc hr z]
        simp [z, Nat.add_assoc]
      · have z' : c + 1 = n := by omega
        rw [z', h.guard]
        simp
    have s3 : (decide (r * (n + 1) + c ≥ n + 1) && S.testBit (r * (n + 1) + c - (n + 1))) = (decide (0 < r) && p (r * n + c - n)) := by
      cases r with
      | zero =>
        have : ¬ (0 * (n + 1) + c ≥ n + 1) := by omega
        rw [decide_eq_false this]
        simp
      | succ r' =>
        have a1 : (r' + 1) * (n + 1) + c ≥ n + 1 := by rw [Nat.succ_mul]; omega
        have a2 : (r' + 1) * (n + 1) + c - (n + 1) = r' * (n + 1) + c := by rw [Nat.succ_mul]; omega
        have a3 : (r' + 1) * n + c - n = r' * n + c := by rw [Nat.succ_mul]; omega
        rw [a2, a3, h.rc (by omega) hc]
        simp [a1]
    have s4 : S.testBit (n + 1 + (r * (n + 1) + c)) = (decide (r + 1 < n) && p (r * n + c + n)) := by
      have a2 : n + 1 + (r * (n + 1) + c) = (r + 1) * (n + 1) + c := by rw [Nat.succ_mul]; omega
      have a3 : r * n + c + n = (r + 1) * n + c := by rw [Nat.succ_mul]; omega
      rw [a2, a3]
      by_cases z : r + 1 < n
      · rw [h.rc z hc]
        simp [z]
      · have z' : r + 1 = n := by omega
        rw [h.below (c := 0) _ (by rw [z']; omega) rfl]
        simp [z]
    have s5 : (decide (r * (n + 1) + c ≥ n) && S.testBit (r * (n + 1) + c - n)) = (decide (0 < r ∧ c + 1 < n) && p (r * n + c - n + 1)) := by
      cases r with
      | zero =>
        have : ¬ (0 * (n + 1) + c ≥ n) := by omega
        rw [decide_eq_false this]
        simp
      | succ r' =>
        have a1 : (r' + 1) * (n + 1) + c ≥ n := by rw [Nat.succ_mul]; omega
        have a2 : (r' + 1) * (n + 1) + c - n = r' * (n + 1) + (c + 1) := by rw [Nat.succ_mul]; omega
        have a3 : (r' + 1) * n + c - n + 1 = r' * n + (c + 1) := by rw [Nat.succ_mul]; omega
        rw [a2, a3]
        by_cases z : c + 1 < n
        · rw [h.rc (by omega) z]
          simp [a1, z]
        · have z' : c + 1 = n := by omega
          rw [z', h.guard]
          simp
    have s6 : S.testBit (n + (r * (n + 1) + c)) = (decide (r + 1 < n ∧ 0 < c) && p (r * n + c + n - 1)) := by
      by_cases z : 0 < c
      · have a2 : n + (r * (n + 1) + c) = (r + 1) * (n + 1) + (c - 1) := by rw [Nat.succ_mul]; omega
        have a3 : r * n + c + n - 1 = (r + 1) * n + (c - 1) := by rw [Nat.succ_mul]; omega
        rw [a2, a3]
        by_cases y : r + 1 < n
        · rw [h.rc y (by omega)]
          simp [y, z]
        · have y' : r + 1 = n := by omega
          rw [h.below (c := 0) _ (by rw [y']; omega) rfl]
          simp [y]
      · have z' : c = 0 := by omega
        subst z'
        have a2 : n + (r * (n + 1) + 0) = r * (n + 1) + n := by omega
        rw [a2, h.guard]
        simp
    rw [s1, s2, s3, s4, s5, s6]
    generalize (decide (0 < c) && p (r * n + c - 1)) = x1
    generalize (decide (c + 1 < n) && p (r * n + c + 1)) = x2
    generalize (decide (0 < r) && p (r * n + c - n)) = x3
    generalize (decide (r + 1 < n) && p (r * n + c + n)) = x4
    generalize (decide (0 < r ∧ c + 1 < n) && p (r * n + c - n + 1)) = x5
    generalize (decide (r + 1 < n ∧ 0 < c) && p (r * n + c + n - 1)) = x6
    revert x1 x2 x3 x4 x5 x6
    decide
  · unfold besideN
    rw [Nat.testBit_and, (allC_bits h0).off hk, Bool.and_false]
/-- neighbours go both ways -/
theorem mem_nb_rc {r c r' c' : Nat} (hc : c < n) (hc' : c' < n) (hr : r < n) (hr' : r' < n) : r' * n + c' ∈ nb n (r * n + c) ↔ (r' + 1 = r ∧ c' = c) ∨ (r' + 1 = r ∧ c' = c + 1) ∨ (r' = r ∧ c' + 1 = c) ∨ (r' = r ∧ c' = c + 1) ∨ (r' = r + 1 ∧ c' + 1 = c) ∨ (r' = r + 1 ∧ c' = c) := by
  rw [nb_rc hc]
  simp only [List.mem_append]
  have m : ∀ {P : Prop} [Decidable P] {x : Nat}, r' * n + c' ∈ (if P then [x] else []) ↔ P ∧ r' * n + c' = x := by
    intro P _ x
    by_cases h : P <;> simp [h]
  simp only [m]
  have key : ∀ {a b : Nat}, b < n → (r' * n + c' = a * n + b ↔ r' = a ∧ c' = b) := fun hb =>
    ⟨fun e => rc_inj hc' hb e, fun ⟨e1, e2⟩ => by rw [e1, e2]⟩
  constructor
  · rintro (((((⟨h1, e⟩ | ⟨h1, e⟩) | ⟨h1, e⟩) | ⟨h1, e⟩) | ⟨h1, e⟩) | ⟨h1, e⟩)
    · obtain ⟨a, rfl⟩ : ∃ a, r = a + 1 := ⟨r - 1, by omega⟩
      have : (a + 1) * n + c - n = a * n + c := by rw [Nat.succ_mul]; omega
      rw [this, key hc] at e
      omega
    · obtain ⟨a, rfl⟩ : ∃ a, r = a + 1 := ⟨r - 1, by omega⟩
      have : (a + 1) * n + c - n + 1 = a * n + (c + 1) := by rw [Nat.succ_mul]; omega
      rw [this, key h1.2] at e
      omega
    · have : r * n + c - 1 = r * n + (c - 1) := by omega
      rw [this, key (by omega)] at e
      omega
    · rw [Nat.add_assoc, key h1] at e
      omega
    · have : r * n + c + n - 1 = (r + 1) * n + (c - 1) := by rw [Nat.succ_mul]; omega
      rw [this, key (by omega)] at e
      omega
    · have : r * n + c + n = (r + 1) * n + c := by rw [Nat.succ_mul]; omega
      rw [this, key hc] at e
      omega
  · rintro (⟨rfl, rfl⟩ | ⟨rfl, rfl⟩ | ⟨rfl, rfl⟩ | ⟨rfl, rfl⟩ | ⟨rfl, rfl⟩ | ⟨rfl, rfl⟩)
    · refine .inl (.inl (.inl (.inl (.inl ⟨by omega, ?_⟩))))
      rw [Nat.succ_mul]; omega
    · refine .inl (.inl (.inl (.inl (.inr ⟨⟨by omega, hc'⟩, ?_⟩))))
      rw [Nat.succ_mul]; omega
    · refine .inl (.inl (.inl (.inr ⟨by omega, ?_⟩)))
      omega
    · exact .inl (.inl (.inr ⟨hc', by omega⟩))
    · refine .inl (.inr ⟨⟨hr', by omega⟩, ?_⟩)
      rw [Nat.succ_mul]; omega
    · refine .inr ⟨hr', ?_⟩
      rw [Nat.succ_mul]; omega
theorem nb_symm {i j : Nat} (hi : i < n * n) (hj : j < n * n) : j ∈ nb n i ↔ i ∈ nb n j := by
  have h0 : 0 < n := by
    cases n with
    | zero => simp at hi
    | succ k => omega
  rw [cell_rc (n := n) i, cell_rc (n := n) j]
  rw [mem_nb_rc (col_lt h0) (col_lt h0) (row_lt hi) (row_lt hj), mem_nb_rc (col_lt h0) (col_lt h0) (row_lt hj) (row_lt hi)]
  omega
theorem nb_lt {i j : Nat} (hi : i < n * n) (hj : j ∈ nb n i) : j < n * n := by
  have h0 : 0 < n := by
    cases n with
    | zero => simp at hi
    | succ k => omega
  have hr := row_lt hi
  have hc := col_lt (i := i) h0
  rw [cell_rc (n := n) i, nb_rc hc] at hj
  generalize i / n = r at *
  generalize i % n = c at *
  simp only [List.mem_append] at hj
  have m : ∀ {P : Prop} [Decidable P] {x : Nat}, j ∈ (if P then [x] else []) ↔ P ∧ j = x := by
    intro P _ x
    by_cases h : P <;> simp [h]
  simp only [m] at hj
  have l0 := rc_lt hr hc
  have up : r + 1 < n → (r + 1) * n + c < n * n := fun h => rc_lt h hc
  rw [Nat.succ_mul] at up
  have l2 : c + 1 < n → r * n + (c + 1) < n * n := fun h => rc_lt hr h
  rcases hj with (((((⟨h1, e⟩ | ⟨h1, e⟩) | ⟨h1, e⟩) | ⟨h1, e⟩) | ⟨h1, e⟩) | ⟨h1, e⟩) <;> omega
end
end Hx
/-! Hx, part 2: what is come to from some cells; a side is joined. -/
namespace Hx
open Mu25 (Board)
/-- from the cells of st on, over cells of q -/
inductive Reach (n : Nat) (st q : Nat → Bool) : Nat → Prop
  | base {i : Nat} : i < n * n → st i = true → Reach n st q i
  | step {i j : Nat} : Reach n st q j → i ∈ nb n j → q i = true → Reach n st q i
theorem Reach.lt {n : Nat} {st q : Nat → Bool} {i : Nat} (h : Reach n st q i) : i < n * n := by
  induction h with
  | base h _ => exact h
  | step _ hi _ ih => exact nb_lt ih hi
theorem Reach.mono {n : Nat} {st q st' q' : Nat → Bool} (h1 : ∀ i, i < n * n → st i = true → st' i = true) (h2 : ∀ i, i < n * n → q i = true → q' i = true) {i : Nat} (h : Reach n st q i) : Reach n st' q' i := by
  induction h with
  | base hl hs => exact .base hl (h1 _ hl hs)
  | step h hi hq ih => exact .step ih hi (h2 _ (nb_lt h.lt hi) hq)
/-- a set that holds the start and is closed holds it all -/
theorem Reach.sub {n : Nat} {st q : Nat → Bool} {P : Nat → Prop} (h1 : ∀ i, i < n * n → st i = true → P i) (h2 : ∀ i j, j < n * n → P j → i ∈ nb n j → q i = true → P i) {i : Nat} (h : Reach n st q i) : P i := by
  induction h with
  | base hl hs => exact h1 _ hl hs
  | step h hi hq ih => exact h2 _ _ h.lt ih hi hq
open Classical in
/-- the set grown -/
noncomputable def grownP (n : Nat) (st q : Nat → Bool) : Nat → Bool := fun i => decide (Reach n st q i)
theorem grownP_iff {n : Nat} {st q : Nat → Bool} {i : Nat} : grownP n st q i = true ↔ Reach n st q i := by
  unfold grownP
  simp
theorem Reach.congr {n : Nat} {st q st' q' : Nat → Bool} (h1 : ∀ i, i < n * n → st i = st' i) (h2 : ∀ i, i < n * n → q i = q' i) {i : Nat} : Reach n st q i ↔ Reach n st' q' i :=
  ⟨Reach.mono (fun i hi e => by rw [← h1 i hi]; exact e) (fun i hi e => by rw [← h2 i hi]; exact e), Reach.mono (fun i hi e => by rw [h1 i hi]; exact e) (fun i hi e => by rw [h2 i hi]; exact e)⟩
/-! ### the loop of grown -/
def stepN (n A stones found : Nat) : Nat := found ||| besideN n A found &&& stones
/-- between two turns: the start is in it, and nothing that is not come to -/
def GrowIn (n : Nat) (st q : Nat → Bool) (found : Nat) : Prop := ∃ r : Nat → Bool, Bits n found r ∧ (∀ i, i < n * n → st i = true → r i = true) ∧ ∀ i, i < n * n → r i = true → Reach n st q i
theorem GrowIn.start {n S : Nat} {st q : Nat → Bool} (h : Bits n S st) : GrowIn n st q S := ⟨st, h, fun _ _ e => e, fun _ hi e => .base hi e⟩
theorem GrowIn.turn {n S found : Nat} {st q : Nat → Bool} (h0 : 0 < n) (hq : Bits n S q) (h : GrowIn n st q found) : GrowIn n st q (stepN n (allC n) S found) := by
  obtain ⟨r, hr, h1, h2⟩ := h
  refine ⟨_, hr.or ((hr.beside h0).and hq), fun i hi e => by rw [h1 i hi e, Bool.true_or], fun i hi e => ?_⟩
  rw [Bool.or_eq_true, Bool.and_eq_true, List.any_eq_true] at e
  rcases e with e | ⟨⟨j, hj, e⟩, e'⟩
  · exact h2 i hi e
  · have jl := nb_lt hi hj
    exact .step (h2 j jl e) ((nb_symm hi jl).mp hj) e'
theorem GrowIn.stop {n S found : Nat} {st q : Nat → Bool} (h0 : 0 < n) (hq : Bits n S q) (h : GrowIn n st q found) (e : stepN n (allC n) S found = found) : Bits n found (grownP n st q) := by
  obtain ⟨r, hr, h1, h2⟩ := h
  have hs := hr.or ((hr.beside h0).and hq)
  rw [show (found ||| besideN n (allC n) found &&& S) = found from e] at hs
  refine hr.congr fun i hi => ?_
  rw [Bool.eq_iff_iff, grownP_iff]
  refine ⟨h2 i hi, fun hR => ?_⟩
  refine Reach.sub (P := fun i => r i = true) (fun i hi e => h1 i hi e) (fun i j hj pj hij qi => ?_) hR
  have il := nb_lt hj hij
  rw [hr.same hs il, Bool.or_eq_true, Bool.and_eq_true, List.any_eq_true]
  exact .inr ⟨⟨j, (nb_symm hj il).mp hij, pj⟩, qi⟩
theorem stepN_ge (n A S found : Nat) : found ≤ stepN n A S found := Nat.left_le_or
/-! ### flood -/
theorem new_spec (m : Nat → Bool) (seen : List Nat) : ∀ (L acc : List Nat), acc.Nodup →
    (L.foldl (fun (l : List Nat) (j : Nat) => if m j = true ∧ seen.contains j = false ∧ l.contains j = false then l ++ [j] else l) acc).Nodup ∧
    ∀ j, j ∈ (L.foldl (fun (l : List Nat) (j : Nat) => if m j = true ∧ seen.contains j = false ∧ l.contains j = false then l ++ [j] else l) acc) ↔ j ∈ acc ∨ (j ∈ L ∧ m j = true ∧ j ∉ seen)
  | [], acc, hn => ⟨hn, fun j => by simp⟩
  | x :: L, acc, hn => by
    rw [List.foldl_cons]
    by_cases c : m x = true ∧ seen.contains x = false ∧ acc.contains x = false
    · rw [if_pos c]
      obtain ⟨c1, c2, c3⟩ := c
      have c2' : x ∉ seen := by simpa using c2
      have c3' : x ∉ acc := by simpa using c3
      have hn' : (acc ++ [x]).Nodup := by
        rw [List.nodup_append]
        refine ⟨hn, by simp, fun a ha b hb => ?_⟩
        rw [List.mem_singleton] at hb
        subst hb
        intro e
        subst e
        exact c3' ha
      obtain ⟨h1, h2⟩ := new_spec m seen L (acc ++ [x]) hn'
      refine ⟨h1, fun j => ?_⟩
      rw [h2 j, List.mem_append, List.mem_singleton, List.mem_cons]
      constructor
      · rintro ((h | rfl) | h)
        · exact .inl h
        · exact .inr ⟨.inl rfl, c1, c2'⟩
        · exact .inr ⟨.inr h.1, h.2⟩
      · rintro (h | ⟨rfl | h, h'⟩)
        · exact .inl (.inl h)
        · exact .inl (.inr rfl)
        · exact .inr ⟨h, h'⟩
    · rw [if_neg c]
      obtain ⟨h1, h2⟩ := new_spec m seen L acc hn
      refine ⟨h1, fun j => ?_⟩
      rw [h2 j, List.mem_cons]
      constructor
      · rintro (h | h)
        · exact .inl h
        · exact .inr ⟨.inr h.1, h.2⟩
      · rintro (h | ⟨rfl | h, h'⟩)
        · exact .inl h
        · refine .inl ?_
          apply Classical.byContradiction
          intro z
          exact c ⟨h'.1, by simpa using h'.2, by simpa using z⟩
        · exact .inr ⟨h, h'⟩
theorem flood_spec {B : Board} {w : Bool} {st : Nat → Bool} : ∀ (k : Nat) (seen now : List Nat), seen.Nodup → (∀ i ∈ seen, Reach B.n st (Mu25.mine B w) i) → (∀ i ∈ now, i ∈ seen) →
    (∀ j ∈ seen, j ∉ now → ∀ i ∈ nb B.n j, Mu25.mine B w i = true → i ∈ seen) → (now = [] ∨ B.n * B.n + 1 ≤ seen.length + k) →
    (Mu25.flood B w k seen now).Nodup ∧ (∀ i ∈ Mu25.flood B w k seen now, Reach B.n st (Mu25.mine B w) i) ∧ (∀ i ∈ seen, i ∈ Mu25.flood B w k seen now) ∧
    (∀ j ∈ Mu25.flood B w k seen now, ∀ i ∈ nb B.n j, Mu25.mine B w i = true → i ∈ Mu25.flood B w k seen now)
  | 0, seen, now, hn, hr, hs, hc, hk => by
    have e : Mu25.flood B w 0 seen now = seen := rfl
    rw [e]
    refine ⟨hn, hr, fun _ h => h, ?_⟩
    rcases hk with rfl | hk
    · exact fun j hj => hc j hj (by simp)
    · have := hn.length_le_of_subset (l₂ := List.range (B.n * B.n)) fun i hi => List.mem_range.mpr (hr i hi).lt
      rw [List.length_range] at this
      omega
  | k + 1, seen, now, hn, hr, hs, hc, hk => by
    obtain ⟨n1, n2⟩ := new_spec (Mu25.mine B w) seen (now.flatMap (Mu25.near B)) [] (by simp)
    have e : Mu25.flood B w (k + 1) seen now = if ((now.flatMap (Mu25.near B)).foldl (fun (l : List Nat) (j : Nat) => if Mu25.mine B w j = true ∧ seen.contains j = false ∧ l.contains j = false then l ++ [j] else l) []).isEmpty = true then seen else Mu25.flood B w k (seen ++ (now.flatMap (Mu25.near B)).foldl (fun (l : List Nat) (j : Nat) => if Mu25.mine B w j = true ∧ seen.contains j = false ∧ l.contains j = false then l ++ [j] else l) []) ((now.flatMap (Mu25.near B)).foldl (fun (l : List Nat) (j : Nat) => if Mu25.mine B w j = true ∧ seen.contains j = false ∧ l.contains j = false then l ++ [j] else l) []) := rfl
    rw [e]
    generalize (now.flatMap (Mu25.near B)).foldl (fun (l : List Nat) (j : Nat) => if Mu25.mine B w j = true ∧ seen.contains j = false ∧ l.contains j = false then l ++ [j] else l) [] = new at n1 n2
    have n2' : ∀ j, j ∈ new ↔ (∃ x ∈ now, j ∈ nb B.n x) ∧ Mu25.mine B w j = true ∧ j ∉ seen := by
      intro j
      rw [n2 j, List.mem_flatMap]
      simp [nb_eq]
    by_cases c : new.isEmpty = true
    · rw [if_pos c]
      have c' : new = [] := by simpa using c
      refine ⟨hn, hr, fun _ h => h, fun j hj i hi hm => ?_⟩
      by_cases z : j ∈ now
      · apply Classical.byContradiction
        intro y
        have := (n2' i).mpr ⟨⟨j, z, hi⟩, hm, y⟩
        rw [c'] at this
        cases this
      · exact hc j hj z i hi hm
    · rw [if_neg c]
      have c' : new ≠ [] := by simpa using c
      have hl : 0 < new.length := List.length_pos_iff.mpr c'
      have ih := flood_spec (B := B) (w := w) (st := st) k (seen ++ new) new ?_ ?_ ?_ ?_ ?_
      · obtain ⟨i1, i2, i3, i4⟩ := ih
        exact ⟨i1, i2, fun i hi => i3 i (List.mem_append_left _ hi), i4⟩
      · rw [List.nodup_append]
        refine ⟨hn, n1, fun a ha b hb => ?_⟩
        intro e
        subst e
        exact ((n2' a).mp hb).2.2 ha
      · intro i hi
        rcases List.mem_append.mp hi with h | h
        · exact hr i h
        · obtain ⟨⟨x, hx, hx'⟩, hm, _⟩ := (n2' i).mp h
          exact .step (hr x (hs x hx)) hx' hm
      · exact fun i hi => List.mem_append_right _ hi
      · intro j hj hj' i hi hm
        rcases List.mem_append.mp hj with h | h
        · by_cases z : j ∈ now
          · by_cases y : i ∈ seen
            · exact List.mem_append_left _ y
            · exact List.mem_append_right _ ((n2' i).mpr ⟨⟨j, z, hi⟩, hm, y⟩)
          · exact List.mem_append_left _ (hc j h z i hi hm)
        · exact absurd h hj'
      · refine .inr ?_
        rw [List.length_append]
        rcases hk with rfl | hk
        · exfalso
          obtain ⟨x, hx⟩ := List.exists_mem_of_ne_nil _ c'
          obtain ⟨⟨y, hy, _⟩, _⟩ := (n2' x).mp hx
          cases hy
        · omega
/-- flood from a list of cells -/
theorem flood_from {B : Board} {w : Bool} {st : List Nat} (hn : st.Nodup) (hl : ∀ i ∈ st, i < B.n * B.n) :
    (Mu25.flood B w (B.n * B.n) st st).Nodup ∧ ∀ i, i ∈ Mu25.flood B w (B.n * B.n) st st ↔ Reach B.n (fun i => st.contains i) (Mu25.mine B w) i := by
  obtain ⟨h1, h2, h3, h4⟩ := flood_spec (B := B) (w := w) (st := fun i => st.contains i) (B.n * B.n) st st hn (fun i hi => .base (hl i hi) (by simpa using hi)) (fun _ h => h) (fun j hj hj' => absurd hj hj') (by
    cases st with
    | nil => exact .inl rfl
    | cons a l =>
      refine .inr ?_
      rw [List.length_cons]
      omega)
  exact ⟨h1, fun i => ⟨h2 i, fun h => Reach.sub (P := fun i => i ∈ Mu25.flood B w (B.n * B.n) st st) (fun i _ e => h3 i (by simpa using e)) (fun i j _ pj hij qi => h4 j pj i hij qi) h⟩⟩
/-! ### joined -/
def firstP (n : Nat) (w : Bool) (i : Nat) : Bool := Mu25.first ⟨n, []⟩ w i
def otherP (n : Nat) (w : Bool) (i : Nat) : Bool := Mu25.other ⟨n, []⟩ w i
theorem first_eq (B : Board) (w : Bool) (i : Nat) : Mu25.first B w i = firstP B.n w i := rfl
theorem other_eq (B : Board) (w : Bool) (i : Nat) : Mu25.other B w i = otherP B.n w i := rfl
def JoinP (n : Nat) (w : Bool) (p : Nat → Bool) : Prop := ∃ i, Reach n (fun i => p i && firstP n w i) p i ∧ otherP n w i = true
theorem JoinP.congr {n : Nat} {w : Bool} {p q : Nat → Bool} (h : ∀ i, i < n * n → p i = q i) : JoinP n w p ↔ JoinP n w q := by
  unfold JoinP
  refine exists_congr fun i => ?_
  rw [Reach.congr (fun i hi => by rw [h i hi]) h]
open Classical in
noncomputable def joinB (n : Nat) (w : Bool) (p : Nat → Bool) : Bool := decide (JoinP n w p)
theorem joinB_iff {n : Nat} {w : Bool} {p : Nat → Bool} : joinB n w p = true ↔ JoinP n w p := by
  unfold joinB
  simp
theorem joinB_congr {n : Nat} {w : Bool} {p q : Nat → Bool} (h : ∀ i, i < n * n → p i = q i) : joinB n w p = joinB n w q := by
  rw [Bool.eq_iff_iff, joinB_iff, joinB_iff, JoinP.congr h]
theorem startOf_mem {B : Board} {w : Bool} {i : Nat} : i ∈ Mu25.startOf B w ↔ i < B.n * B.n ∧ (Mu25.mine B w i && firstP B.n w i) = true := by
  unfold Mu25.startOf
  rw [List.mem_filter]
  unfold Mu25.cells
  rw [List.mem_range]
  rfl
theorem startOf_nodup {B : Board} {w : Bool} : (Mu25.startOf B w).Nodup := List.Pairwise.filter _ List.nodup_range
theorem joined_eq (B : Board) (w : Bool) : Mu25.joined B w = joinB B.n w (Mu25.mine B w) := by
  rw [Bool.eq_iff_iff, joinB_iff]
  unfold Mu25.joined JoinP
  rw [List.any_eq_true]
  obtain ⟨_, h⟩ := flood_from (B := B) (w := w) (st := Mu25.startOf B w) startOf_nodup (fun i hi => (startOf_mem.mp hi).1)
  refine exists_congr fun i => ?_
  rw [h i]
  refine and_congr (Reach.congr (fun j hj => ?_) fun _ _ => rfl) Iff.rfl
  rw [Bool.eq_iff_iff, List.contains_iff_mem, startOf_mem]
  simp [hj]
/-- what the program asks: the grown set meets the other edge -/
theorem grown_join {n R O : Nat} {w : Bool} {p : Nat → Bool} (hR : Bits n R (grownP n (fun i => p i && firstP n w i) p)) (hO : Bits n O (otherP n w)) : (decide (R &&& O ≠ 0)) = joinB n w p := by
  rw [Bool.eq_iff_iff, joinB_iff, decide_eq_true_iff, (hR.and hO).ne_zero]
  unfold JoinP
  refine exists_congr fun i => ?_
  rw [Bool.and_eq_true, grownP_iff]
  exact ⟨fun h => h.2, fun h => ⟨h.1.lt, h⟩⟩
end Hx
/-! Hx, part 3: fewest stones, shortest chains: the least cost of a way from some cells. -/
namespace Hx
open Mu25 (Board lesser)
theorem exists_least {P : Nat → Prop} (h : ∃ x, P x) : ∃ x, P x ∧ ∀ y, P y → x ≤ y := by
  obtain ⟨x, hx⟩ := h
  induction x using Nat.strongRecOn with
  | _ x ih =>
    by_cases c : ∃ y, y < x ∧ P y
    · obtain ⟨y, hy, py⟩ := c
      exact ih y hy py
    · refine ⟨x, hx, fun y py => ?_⟩
      apply Classical.byContradiction
      intro z
      exact c ⟨y, by omega, py⟩
/-- a way of k cells that ends at i and costs x; it begins at a cell of ini -/
inductive Path (n : Nat) (cost : Nat → Option Nat) (ini : Nat → Bool) : Nat → Nat → Nat → Prop
  | base {i c : Nat} : i < n * n → ini i = true → cost i = some c → Path n cost ini 1 i c
  | step {k i j x c : Nat} : Path n cost ini k j x → i ∈ nb n j → cost i = some c → Path n cost ini (k + 1) i (x + c)
section
variable {n : Nat} {cost : Nat → Option Nat} {ini : Nat → Bool}
theorem Path.lt {k i x : Nat} (h : Path n cost ini k i x) : i < n * n := by
  induction h with
  | base h _ _ => exact h
  | step _ hi _ ih => exact nb_lt ih hi
theorem Path.pos {k i x : Nat} (h : Path n cost ini k i x) : 1 ≤ k := by
  cases h with
  | base _ _ _ => exact Nat.le_refl _
  | step _ _ _ => exact Nat.succ_le_succ (Nat.zero_le _)
/-- i can be had for x -/
def Had (n : Nat) (cost : Nat → Option Nat) (ini : Nat → Bool) (i x : Nat) : Prop := ∃ k, Path n cost ini k i x
/-- .. and for no less -/
def Best (n : Nat) (cost : Nat → Option Nat) (ini : Nat → Bool) (i x : Nat) : Prop := Had n cost ini i x ∧ ∀ y, Had n cost ini i y → x ≤ y
def BestK (n : Nat) (cost : Nat → Option Nat) (ini : Nat → Bool) (i x k : Nat) : Prop := Path n cost ini k i x ∧ Best n cost ini i x ∧ ∀ m, Path n cost ini m i x → k ≤ m
theorem Had.best {i x : Nat} (h : Had n cost ini i x) : ∃ y, y ≤ x ∧ Best n cost ini i y := by
  obtain ⟨y, hy, hm⟩ := exists_least ⟨x, h⟩
  exact ⟨y, hm x h, hy, hm⟩
theorem Best.least {i x : Nat} (h : Best n cost ini i x) : ∃ k, BestK n cost ini i x k := by
  obtain ⟨k, hk, hm⟩ := exists_least (P := fun k => Path n cost ini k i x) h.1
  exact ⟨k, hk, h, hm⟩
theorem Best.eq {i x y : Nat} (h : Best n cost ini i x) (h' : Best n cost ini i y) : x = y := Nat.le_antisymm (h.2 y h'.1) (h'.2 x h.1)
theorem BestK.before {i x k : Nat} (h : BestK n cost ini i x (k + 1)) (hk : 1 ≤ k) : ∃ j y, BestK n cost ini j y k := by
  obtain ⟨hp, hb, hm⟩ := h
  cases hp with
  | base _ _ _ => omega
  | @step _ _ j x0 c hp hi hc =>
    obtain ⟨y, hy, by'⟩ := Had.best ⟨k, hp⟩
    obtain ⟨k2, b2⟩ := by'.least
    have p2 : Path n cost ini (k2 + 1) i (y + c) := .step b2.1 hi hc
    have e1 : x0 + c ≤ y + c := hb.2 _ ⟨_, p2⟩
    have e2 : y = x0 := by omega
    subst e2
    have e3 : k2 ≤ k := b2.2.2 k hp
    have e4 : k + 1 ≤ k2 + 1 := hm _ p2
    have e5 : k2 = k := by omega
    subst e5
    exact ⟨j, y, b2⟩
theorem BestK.chain : ∀ (k i x : Nat), BestK n cost ini i x k → ∃ l : List Nat, l.length = k ∧ l.Nodup ∧ ∀ j ∈ l, j < n * n ∧ ∃ y m, BestK n cost ini j y m ∧ m ≤ k
  | 0, i, x, h => absurd h.1.pos (by omega)
  | k + 1, i, x, h => by
    by_cases hk : 1 ≤ k
    · obtain ⟨j, y, hj⟩ := h.before hk
      obtain ⟨l, hl, hn, hm⟩ := BestK.chain k j y hj
      refine ⟨i :: l, by rw [List.length_cons, hl], List.nodup_cons.mpr ⟨fun hi => ?_, hn⟩, fun a ha => ?_⟩
      · obtain ⟨_, y', m, hb, hle⟩ := hm i hi
        have e := h.2.1.eq hb.2.1
        subst e
        have := h.2.2 m hb.1
        omega
      · rcases List.mem_cons.mp ha with rfl | ha
        · exact ⟨h.1.lt, x, k + 1, h, Nat.le_refl _⟩
        · obtain ⟨h1, y', m, hb, hle⟩ := hm a ha
          exact ⟨h1, y', m, hb, by omega⟩
    · have e : k = 0 := by omega
      subst e
      refine ⟨[i], rfl, by simp, fun a ha => ?_⟩
      rw [List.mem_singleton] at ha
      subst ha
      exact ⟨h.1.lt, x, 1, h, Nat.le_refl _⟩
theorem BestK.le {i x k : Nat} (h : BestK n cost ini i x k) : k ≤ n * n := by
  obtain ⟨l, hl, hn, hm⟩ := BestK.chain k i x h
  have := hn.length_le_of_subset (l₂ := List.range (n * n)) fun j hj => List.mem_range.mpr (hm j hj).1
  rw [List.length_range, hl] at this
  exact this
/-! ### lesser -/
theorem fold_lesser_le : ∀ (l : List (Option Nat)) (a : Option Nat) (y : Nat), some y ∈ a :: l → ∃ z, z ≤ y ∧ l.foldl lesser a = some z
  | [], a, y, h => by
    rw [List.mem_singleton] at h
    exact ⟨y, Nat.le_refl _, h.symm⟩
  | b :: l, a, y, h => by
    rw [List.foldl_cons]
    rcases List.mem_cons.mp h with h | h
    · subst h
      have : ∃ z, z ≤ y ∧ lesser (some y) b = some z := by
        cases b with
        | none => exact ⟨y, Nat.le_refl _, rfl⟩
        | some b => exact ⟨min y b, Nat.min_le_left _ _, rfl⟩
      obtain ⟨z, hz, e⟩ := this
      rw [e]
      obtain ⟨u, hu, e'⟩ := fold_lesser_le l (some z) z List.mem_cons_self
      exact ⟨u, by omega, e'⟩
    · rcases List.mem_cons.mp h with h | h
      · subst h
        have : ∃ z, z ≤ y ∧ lesser a (some y) = some z := by
          cases a with
          | none => exact ⟨y, Nat.le_refl _, rfl⟩
          | some a => exact ⟨min a y, Nat.min_le_right _ _, rfl⟩
        obtain ⟨z, hz, e⟩ := this
        rw [e]
        obtain ⟨u, hu, e'⟩ := fold_lesser_le l (some z) z List.mem_cons_self
        exact ⟨u, by omega, e'⟩
      · exact fold_lesser_le l _ y (List.mem_cons_of_mem _ h)
theorem fold_lesser_mem : ∀ (l : List (Option Nat)) (a : Option Nat) (z : Nat), l.foldl lesser a = some z → some z ∈ a :: l
  | [], a, z, h => by rw [List.mem_singleton]; exact h.symm
  | b :: l, a, z, h => by
    rw [List.foldl_cons] at h
    rcases List.mem_cons.mp (fold_lesser_mem l _ z h) with e | e
    · cases a with
      | none =>
        have : lesser none b = b := rfl
        rw [this] at e
        rw [e]
        exact List.mem_cons_of_mem _ List.mem_cons_self
      | some a =>
        cases b with
        | none =>
          have : lesser (some a) none = some a := rfl
          rw [this] at e
          rw [e]
          exact List.mem_cons_self
        | some b =>
          have : lesser (some a) (some b) = some (min a b) := rfl
          rw [this] at e
          have e' := Option.some.inj e
          rcases Nat.le_total a b with h | h
          · rw [Nat.min_eq_left h] at e'
            rw [e']
            exact List.mem_cons_self
          · rw [Nat.min_eq_right h] at e'
            rw [e']
            exact List.mem_cons_of_mem _ List.mem_cons_self
    · exact List.mem_cons_of_mem _ (List.mem_cons_of_mem _ e)
/-! ### one round, many rounds -/
def relaxG (n : Nat) (cost : Nat → Option Nat) (ini : Nat → Bool) (d : List (Option Nat)) : List (Option Nat) := (List.range (n * n)).map fun i => match cost i with
  | none => none
  | some c => (((nb n i).map fun j => d.getD j none).foldl lesser (if ini i = true then some 0 else none)).map fun x => x + c
def iterG (n : Nat) (cost : Nat → Option Nat) (ini : Nat → Bool) : Nat → List (Option Nat) → List (Option Nat)
  | 0, d => d
  | k + 1, d => iterG n cost ini k (relaxG n cost ini d)
theorem iterG_fix {d : List (Option Nat)} (h : relaxG n cost ini d = d) : ∀ k, iterG n cost ini k d = d
  | 0 => rfl
  | k + 1 => by
    show iterG n cost ini k (relaxG n cost ini d) = d
    rw [h]
    exact iterG_fix h k
theorem iterG_succ : ∀ (k : Nat) (d : List (Option Nat)), iterG n cost ini (k + 1) d = relaxG n cost ini (iterG n cost ini k d)
  | 0, d => rfl
  | k + 1, d => iterG_succ k (relaxG n cost ini d)
def noneL (n : Nat) : List (Option Nat) := (List.range (n * n)).map fun _ => none
theorem noneL_get (n i : Nat) : (noneL n).getD i none = none := by
  unfold noneL
  rw [List.getD_eq_getElem?_getD, List.getElem?_map]
  cases (List.range (n * n))[i]? <;> rfl
theorem relaxG_get {d : List (Option Nat)} {i : Nat} (hi : i < n * n) : (relaxG n cost ini d).getD i none = match cost i with
  | none => none
  | some c => (((nb n i).map fun j => d.getD j none).foldl lesser (if ini i = true then some 0 else none)).map fun x => x + c := by
  unfold relaxG
  rw [List.getD_eq_getElem?_getD, List.getElem?_map, List.getElem?_range hi]
  rfl
theorem relaxG_out {d : List (Option Nat)} {i : Nat} (hi : ¬ i < n * n) : (relaxG n cost ini d).getD i none = none := by
  unfold relaxG
  rw [List.getD_eq_getElem?_getD, List.getElem?_eq_none (by rw [List.length_map, List.length_range]; omega)]
  rfl
theorem iter_sound : ∀ (k i x : Nat), (iterG n cost ini k (noneL n)).getD i none = some x → Had n cost ini i x
  | 0, i, x, h => by
    have h' : (noneL n).getD i none = some x := h
    rw [noneL_get] at h'
    cases h'
  | k + 1, i, x, h => by
    rw [iterG_succ] at h
    by_cases hi : i < n * n
    · rw [relaxG_get hi] at h
      cases hc : cost i with
      | none =>
        rw [hc] at h
        cases h
      | some c =>
        rw [hc] at h
        dsimp only at h
        cases e : ((nb n i).map fun j => (iterG n cost ini k (noneL n)).getD j none).foldl lesser (if ini i = true then some 0 else none) with
        | none =>
          rw [e] at h
          cases h
        | some z =>
          rw [e] at h
          have hz : z + c = x := Option.some.inj h
          rcases List.mem_cons.mp (fold_lesser_mem _ _ _ e) with h1 | h1
          · by_cases c1 : ini i = true
            · rw [if_pos c1] at h1
              have : z = 0 := Option.some.inj h1
              subst this
              rw [Nat.zero_add] at hz
              subst hz
              exact ⟨1, .base hi c1 hc⟩
            · rw [if_neg c1] at h1
              cases h1
          · obtain ⟨j, hj, ej⟩ := List.mem_map.mp h1
            obtain ⟨m, hm⟩ := iter_sound k j z ej
            subst hz
            exact ⟨m + 1, .step hm ((nb_symm hi (nb_lt hi hj)).mp hj) hc⟩
    · rw [relaxG_out hi] at h
      cases h
theorem iter_full : ∀ (k m i x : Nat), m ≤ k → Path n cost ini m i x → ∃ y, y ≤ x ∧ (iterG n cost ini k (noneL n)).getD i none = some y
  | 0, m, i, x, hm, h => absurd h.pos (by omega)
  | k + 1, m, i, x, hm, h => by
    rw [iterG_succ]
    have hi := h.lt
    rw [relaxG_get hi]
    cases h with
    | base _ h1 hc =>
      rw [hc]
      obtain ⟨z, hz, e⟩ := fold_lesser_le ((nb n i).map fun j => (iterG n cost ini k (noneL n)).getD j none) (if ini i = true then some 0 else none) 0 (by rw [if_pos h1]; exact List.mem_cons_self)
      dsimp only
      rw [e]
      exact ⟨z + x, by omega, rfl⟩
    | @step m' _ j x0 c hp hij hc =>
      obtain ⟨y, hy, e⟩ := iter_full k m' j x0 (by omega) hp
      rw [hc]
      obtain ⟨z, hz, e'⟩ := fold_lesser_le ((nb n i).map fun j => (iterG n cost ini k (noneL n)).getD j none) (if ini i = true then some 0 else none) y
        (List.mem_cons_of_mem _ (List.mem_map.mpr ⟨j, (nb_symm hp.lt hi).mp hij, e⟩))
      dsimp only
      rw [e']
      exact ⟨z + c, by omega, rfl⟩
/-- enough rounds -/
theorem iter_best (i x : Nat) : (iterG n cost ini (n * n + 1) (noneL n)).getD i none = some x ↔ Best n cost ini i x := by
  constructor
  · intro h
    refine ⟨iter_sound _ _ _ h, fun y hy => ?_⟩
    obtain ⟨z, hz, hb⟩ := hy.best
    obtain ⟨k, hk⟩ := hb.least
    obtain ⟨u, hu, e⟩ := iter_full (n * n + 1) k i z (by have := hk.le; omega) hk.1
    rw [h] at e
    have := Option.some.inj e
    omega
  · intro h
    obtain ⟨k, hk⟩ := h.least
    obtain ⟨u, hu, e⟩ := iter_full (n * n + 1) k i x (by have := hk.le; omega) hk.1
    have := h.2 u (iter_sound _ _ _ e)
    rw [e]
    exact congrArg some (by omega)
theorem iter_len : ∀ (k : Nat) (d : List (Option Nat)), d.length = n * n → (iterG n cost ini k d).length = n * n
  | 0, d, h => h
  | k + 1, d, h => iter_len k _ (by unfold relaxG; rw [List.length_map, List.length_range])
end
/-! ### the specification's rounds are these -/
theorem relax_eq (B : Board) (w : Bool) (d : List (Option Nat)) : Mu25.relax B w d = relaxG B.n (Mu25.cost B w) (firstP B.n w) d := rfl
theorem relaxed_eq (B : Board) (w : Bool) : ∀ (k : Nat) (d : List (Option Nat)), Mu25.relaxed B w k d = iterG B.n (Mu25.cost B w) (firstP B.n w) k d
  | 0, d => rfl
  | k + 1, d => by
    show (if Mu25.relax B w d = d then d else Mu25.relaxed B w k (Mu25.relax B w d)) = iterG B.n (Mu25.cost B w) (firstP B.n w) k (relaxG B.n (Mu25.cost B w) (firstP B.n w) d)
    rw [relax_eq]
    by_cases c : relaxG B.n (Mu25.cost B w) (firstP B.n w) d = d
    · rw [if_pos c, c, iterG_fix c]
    · rw [if_neg c, relaxed_eq B w k]
theorem dists_best (B : Board) (w : Bool) (i x : Nat) : (Mu25.dists B w).getD i none = some x ↔ Best B.n (Mu25.cost B w) (firstP B.n w) i x := by
  unfold Mu25.dists
  rw [relaxed_eq]
  exact iter_best i x
/-- the least of the other edge -/
def LackIs (n : Nat) (cost : Nat → Option Nat) (ini oth : Nat → Bool) : Option Nat → Prop
  | some x => (∃ i, i < n * n ∧ oth i = true ∧ Had n cost ini i x) ∧ ∀ i y, oth i = true → Had n cost ini i y → x ≤ y
  | none => ∀ i y, oth i = true → ¬ Had n cost ini i y
theorem LackIs.eq {n : Nat} {cost : Nat → Option Nat} {ini oth : Nat → Bool} {a b : Option Nat} (h : LackIs n cost ini oth a) (h' : LackIs n cost ini oth b) : a = b := by
  cases a with
  | none =>
    cases b with
    | none => rfl
    | some y =>
      obtain ⟨⟨i, _, ho, hh⟩, _⟩ := h'
      exact absurd hh (h i y ho)
  | some x =>
    cases b with
    | none =>
      obtain ⟨⟨i, _, ho, hh⟩, _⟩ := h
      exact absurd hh (h' i x ho)
    | some y =>
      obtain ⟨⟨i, _, ho, hh⟩, hm⟩ := h
      obtain ⟨⟨j, _, ho', hh'⟩, hm'⟩ := h'
      exact congrArg some (Nat.le_antisymm (hm j y ho' hh') (hm' i x ho hh))
theorem lacks_is (B : Board) (w : Bool) : LackIs B.n (Mu25.cost B w) (firstP B.n w) (otherP B.n w) (Mu25.lacks B w) := by
  have e : Mu25.lacks B w = ((((List.range (B.n * B.n)).filter (otherP B.n w)).map fun i => (Mu25.dists B w).getD i none).foldl lesser none) := by
    unfold Mu25.lacks
    rw [List.foldl_map]
    rfl
  rw [e]
  generalize hl : (((List.range (B.n * B.n)).filter (otherP B.n w)).map fun i => (Mu25.dists B w).getD i none) = l
  have low : ∀ i y, otherP B.n w i = true → Had B.n (Mu25.cost B w) (firstP B.n w) i y → ∃ z, z ≤ y ∧ l.foldl lesser none = some z := by
    intro i y ho hh
    obtain ⟨x, hx, hb⟩ := hh.best
    obtain ⟨k, hk⟩ := hh
    have e' := (dists_best B w i x).mpr hb
    obtain ⟨z, hz, e2⟩ := fold_lesser_le l none x (List.mem_cons_of_mem _ (by
      rw [← hl]
      exact List.mem_map.mpr ⟨i, List.mem_filter.mpr ⟨List.mem_range.mpr hk.lt, ho⟩, e'⟩))
    exact ⟨z, by omega, e2⟩
  cases f : l.foldl lesser none with
  | none =>
    intro i y ho hh
    obtain ⟨z, _, e2⟩ := low i y ho hh
    rw [f] at e2
    cases e2
  | some x =>
    constructor
    · rcases List.mem_cons.mp (fold_lesser_mem _ _ _ f) with h | h
      · cases h
      · rw [← hl] at h
        obtain ⟨i, hi, ei⟩ := List.mem_map.mp h
        obtain ⟨h1, h2⟩ := List.mem_filter.mp hi
        exact ⟨i, List.mem_range.mp h1, h2, ((dists_best B w i x).mp ei).1⟩
    · intro i y ho hh
      obtain ⟨z, hz, e2⟩ := low i y ho hh
      rw [f] at e2
      have := Option.some.inj e2
      omega
end Hx
/-! Hx, part 4: what fewest's loop does. -/
namespace Hx
open Mu25 (Board)
/-- what a cell costs: nothing where a stone of one's own is, one where it is empty -/
def costP (p e : Nat → Bool) (i : Nat) : Option Nat := if p i = true then some 0 else if e i = true then some 1 else none
theorem cost_eq (B : Board) (w : Bool) : Mu25.cost B w = costP (Mu25.mine B w) fun i => (Mu25.place B i).isNone := by
  funext i
  unfold Mu25.cost costP Mu25.mine
  cases h : Mu25.place B i with
  | none => simp [h]
  | some x => cases x <;> cases w <;> simp [h]
section
variable {n : Nat} {p e : Nat → Bool} {ini oth : Nat → Bool}
open Classical in
/-- the cells that can be had for k at most -/
noncomputable def levB (n : Nat) (p e ini : Nat → Bool) (k i : Nat) : Bool := decide (∃ y, y ≤ k ∧ Had n (costP p e) ini i y)
theorem levB_iff {k i : Nat} : levB n p e ini k i = true ↔ ∃ y, y ≤ k ∧ Had n (costP p e) ini i y := by
  unfold levB
  simp
theorem costP_own {i : Nat} (h : p i = true) : costP p e i = some 0 := if_pos h
theorem costP_emp {i : Nat} (h : p i = false) (h' : e i = true) : costP p e i = some 1 := by
  unfold costP
  rw [h, if_neg Bool.false_ne_true, if_pos h']
theorem costP_cases {i c : Nat} (h : costP p e i = some c) : (p i = true ∧ c = 0) ∨ (p i = false ∧ e i = true ∧ c = 1) := by
  unfold costP at h
  cases hp : p i with
  | true =>
    rw [hp, if_pos rfl] at h
    exact .inl ⟨rfl, (Option.some.inj h).symm⟩
  | false =>
    rw [hp, if_neg Bool.false_ne_true] at h
    cases he : e i with
    | true =>
      rw [he, if_pos rfl] at h
      exact .inr ⟨rfl, rfl, (Option.some.inj h).symm⟩
    | false =>
      rw [he, if_neg Bool.false_ne_true] at h
      cases h
theorem Had.own {i j y : Nat} (h : Had n (costP p e) ini j y) (hi : i ∈ nb n j) (hp : p i = true) : Had n (costP p e) ini i y := by
  obtain ⟨k, hk⟩ := h
  exact ⟨k + 1, .step hk hi (costP_own hp)⟩
theorem Had.emp {i j y : Nat} (h : Had n (costP p e) ini j y) (hi : i ∈ nb n j) (hp : p i = false) (he : e i = true) : Had n (costP p e) ini i (y + 1) := by
  obtain ⟨k, hk⟩ := h
  exact ⟨k + 1, .step hk hi (costP_emp hp he)⟩
theorem Had.rec' {P : Nat → Nat → Prop} (h1 : ∀ i, i < n * n → ini i = true → p i = true → P i 0) (h2 : ∀ i, i < n * n → ini i = true → p i = false → e i = true → P i 1)
    (h3 : ∀ i j y, j < n * n → P j y → i ∈ nb n j → p i = true → P i y) (h4 : ∀ i j y, j < n * n → P j y → i ∈ nb n j → p i = false → e i = true → P i (y + 1)) {i y : Nat} (h : Had n (costP p e) ini i y) : P i y := by
  obtain ⟨k, hk⟩ := h
  induction hk with
  | base hl hs hc =>
    rcases costP_cases hc with ⟨a, rfl⟩ | ⟨a, b, rfl⟩
    · exact h1 _ hl hs a
    · exact h2 _ hl hs a b
  | step hp hi hc ih =>
    rcases costP_cases hc with ⟨a, rfl⟩ | ⟨a, b, rfl⟩
    · exact h3 _ _ _ hp.lt ih hi a
    · exact h4 _ _ _ hp.lt ih hi a b
/-- ahead of the loop -/
theorem few_start {i : Nat} : grownP n (fun i => p i && ini i) p i = levB n p e ini 0 i := by
  rw [Bool.eq_iff_iff, grownP_iff, levB_iff]
  constructor
  · intro h
    refine ⟨0, Nat.le_refl _, Reach.sub (P := fun i => Had n (costP p e) ini i 0) (fun i hi e' => ?_) (fun i j _ pj hij qi => pj.own hij qi) h⟩
    rw [Bool.and_eq_true] at e'
    exact ⟨1, .base hi e'.2 (costP_own e'.1)⟩
  · rintro ⟨y, hy, h⟩
    have hy0 : y = 0 := by omega
    have : y = 0 → Reach n (fun i => p i && ini i) p i := by
      refine Had.rec' (P := fun i y => y = 0 → Reach n (fun i => p i && ini i) p i) (fun i hi a b _ => .base hi (by simp [a, b])) (fun _ _ _ _ _ z => by omega) (fun i j y _ ih hij a z => .step (ih z) hij a) (fun i j y _ ih hij a b z => by omega) h
    exact this hy0
/-- what is fresh behind level k -/
noncomputable def freshB (n : Nat) (p e ini : Nat → Bool) (k i : Nat) : Bool := (((nb n i).any (levB n p e ini k) || ini i) && e i) && !(levB n p e ini k i)
theorem few_turn (hpe : ∀ i, i < n * n → e i = true → p i = false) {k i : Nat} : grownP n (fun i => levB n p e ini k i || freshB n p e ini k i) p i = levB n p e ini (k + 1) i := by
  rw [Bool.eq_iff_iff, grownP_iff, levB_iff]
  constructor
  · intro h
    refine Reach.sub (P := fun i => ∃ y, y ≤ k + 1 ∧ Had n (costP p e) ini i y) (fun i hi e' => ?_) (fun i j _ ⟨y, hy, hj⟩ hij qi => ⟨y, hy, hj.own hij qi⟩) h
    rw [Bool.or_eq_true] at e'
    rcases e' with e' | e'
    · obtain ⟨y, hy, hh⟩ := levB_iff.mp e'
      exact ⟨y, by omega, hh⟩
    · unfold freshB at e'
      rw [Bool.and_eq_true, Bool.and_eq_true, Bool.or_eq_true, List.any_eq_true] at e'
      obtain ⟨⟨h1, h2⟩, _⟩ := e'
      rcases h1 with ⟨j, hj, hl⟩ | h1
      · obtain ⟨y, hy, hh⟩ := levB_iff.mp hl
        exact ⟨y + 1, by omega, hh.emp ((nb_symm hi (nb_lt hi hj)).mp hj) (hpe i hi h2) h2⟩
      · exact ⟨1, by omega, 1, .base hi h1 (costP_emp (hpe i hi h2) h2)⟩
  · rintro ⟨y, hy, h⟩
    have old : ∀ {i : Nat}, i < n * n → levB n p e ini k i = true → Reach n (fun i => levB n p e ini k i || freshB n p e ini k i) p i := fun hi e' => .base hi (by simp [e'])
    have new : ∀ {i : Nat}, i < n * n → ((nb n i).any (levB n p e ini k) || ini i) = true → e i = true → Reach n (fun i => levB n p e ini k i || freshB n p e ini k i) p i := by
      intro i hi h1 h2
      cases hl : levB n p e ini k i with
      | true => exact old hi hl
      | false =>
        refine .base hi ?_
        unfold freshB
        rw [hl, h1, h2]
        rfl
    have : y ≤ k + 1 → Reach n (fun i => levB n p e ini k i || freshB n p e ini k i) p i := by
      refine (Had.rec' (P := fun i y => Had n (costP p e) ini i y ∧ (y ≤ k + 1 → Reach n (fun i => levB n p e ini k i || freshB n p e ini k i) p i)) (fun i hi a b => ?_) (fun i hi a b c => ?_) (fun i j y hj ih hij a => ?_) (fun i j y hj ih hij a b => ?_) h).2
      · have hh : Had n (costP p e) ini i 0 := ⟨1, .base hi a (costP_own b)⟩
        exact ⟨hh, fun _ => old hi (levB_iff.mpr ⟨0, by omega, hh⟩)⟩
      · exact ⟨⟨1, .base hi a (costP_emp b c)⟩, fun _ => new hi (by simp [a]) c⟩
      · exact ⟨ih.1.own hij a, fun z => .step (ih.2 z) hij a⟩
      · refine ⟨ih.1.emp hij a b, fun z => ?_⟩
        have hi := nb_lt hj hij
        refine new hi ?_ b
        rw [Bool.or_eq_true, List.any_eq_true]
        exact .inl ⟨j, (nb_symm hj hi).mp hij, levB_iff.mpr ⟨y, by omega, ih.1⟩⟩
    exact this hy
/-- nothing fresh: no more can be had -/
theorem few_none {k : Nat} (hf : ∀ i, i < n * n → freshB n p e ini k i = false) (ho : ∀ i, i < n * n → (levB n p e ini k i && oth i) = false) : LackIs n (costP p e) ini oth none := by
  intro i y hoi h
  have all : levB n p e ini k i = true := by
    have new : ∀ {i : Nat}, i < n * n → ((nb n i).any (levB n p e ini k) || ini i) = true → e i = true → levB n p e ini k i = true := by
      intro i hi h1 h2
      have := hf i hi
      unfold freshB at this
      rw [h1, h2] at this
      simpa using this
    refine Had.rec' (P := fun i _ => levB n p e ini k i = true) (fun i hi a b => levB_iff.mpr ⟨0, by omega, 1, .base hi a (costP_own b)⟩) (fun i hi a b c => new hi (by simp [a]) c) (fun i j y hj ih hij a => ?_) (fun i j y hj ih hij a b => ?_) h
    · obtain ⟨z, hz, hh⟩ := levB_iff.mp ih
      exact levB_iff.mpr ⟨z, hz, hh.own hij a⟩
    · have hi := nb_lt hj hij
      refine new hi ?_ b
      rw [Bool.or_eq_true, List.any_eq_true]
      exact .inl ⟨j, (nb_symm hj hi).mp hij, ih⟩
  obtain ⟨m, hm⟩ := h
  have := ho i hm.lt
  rw [all, hoi] at this
  cases this
/-- the first level that meets the other edge -/
theorem few_some {k : Nat} (hk : ∃ i, i < n * n ∧ (levB n p e ini k i && oth i) = true) (hb : ∀ j, j < k → ∀ i, i < n * n → (levB n p e ini j i && oth i) = false) : LackIs n (costP p e) ini oth (some k) := by
  obtain ⟨i, hi, h⟩ := hk
  rw [Bool.and_eq_true] at h
  have low : ∀ i y, oth i = true → Had n (costP p e) ini i y → k ≤ y := by
    intro i y ho hh
    apply Classical.byContradiction
    intro c
    have hl : i < n * n := by
      obtain ⟨m, hm⟩ := hh
      exact hm.lt
    have := hb y (by omega) i hl
    rw [ho, levB_iff.mpr ⟨y, Nat.le_refl _, hh⟩] at this
    cases this
  obtain ⟨y, hy, hh⟩ := levB_iff.mp h.1
  have := low i y h.2 hh
  have e' : y = k := by omega
  subst e'
  exact ⟨⟨i, hi, h.2, hh⟩, low⟩
end
end Hx
/-! Hx, part 5: the shortest chain. -/
namespace Hx
open Mu25 (Board lesser)
def cost1 (p : Nat → Bool) (i : Nat) : Option Nat := if p i = true then some 1 else none
theorem cost1_some {p : Nat → Bool} {i c : Nat} (h : cost1 p i = some c) : p i = true ∧ c = 1 := by
  unfold cost1 at h
  by_cases z : p i = true
  · rw [if_pos z] at h
    exact ⟨z, (Option.some.inj h).symm⟩
  · rw [if_neg z] at h
    cases h
theorem cost1_own {p : Nat → Bool} {i : Nat} (h : p i = true) : cost1 p i = some 1 := if_pos h
theorem steps_eq (B : Board) (w : Bool) (d : List (Option Nat)) : Mu25.steps B w d = relaxG B.n (cost1 (Mu25.mine B w)) (otherP B.n w) d := by
  unfold Mu25.steps relaxG Mu25.cells
  refine List.map_congr_left fun i _ => ?_
  unfold cost1
  by_cases h : Mu25.mine B w i = true
  · rw [if_pos h, if_neg (by rw [h]; decide)]
    by_cases ho : Mu25.other B w i = true
    · rw [if_pos ho]
      have ho' : otherP B.n w i = true := ho
      rw [if_pos ho']
      obtain ⟨z, hz, e⟩ := fold_lesser_le ((nb B.n i).map fun j => d.getD j none) (some 0) 0 List.mem_cons_self
      have : z = 0 := by omega
      subst this
      dsimp only
      rw [e]
      rfl
    · have ho' : ¬ otherP B.n w i = true := ho
      rw [if_neg ho, if_neg ho']
      rfl
  · have h' : Mu25.mine B w i = false := by simpa using h
    rw [if_neg h, if_pos h']
theorem stepped_eq (B : Board) (w : Bool) : ∀ (k : Nat) (d : List (Option Nat)), Mu25.stepped B w k d = iterG B.n (cost1 (Mu25.mine B w)) (otherP B.n w) k d
  | 0, _ => rfl
  | k + 1, d => by
    show (if Mu25.steps B w d = d then d else Mu25.stepped B w k (Mu25.steps B w d)) = iterG B.n (cost1 (Mu25.mine B w)) (otherP B.n w) k (relaxG B.n (cost1 (Mu25.mine B w)) (otherP B.n w) d)
    rw [steps_eq]
    by_cases c : relaxG B.n (cost1 (Mu25.mine B w)) (otherP B.n w) d = d
    · rw [if_pos c, c, iterG_fix c]
    · rw [if_neg c, stepped_eq B w k]
theorem toOther_best (B : Board) (w : Bool) (i x : Nat) : (Mu25.toOther B w).getD i none = some x ↔ Best B.n (cost1 (Mu25.mine B w)) (otherP B.n w) i x := by
  unfold Mu25.toOther
  rw [stepped_eq]
  exact iter_best i x
section
variable {n : Nat} {p ini : Nat → Bool}
theorem path1 {k i x : Nat} (h : Path n (cost1 p) ini k i x) : x = k ∧ p i = true := by
  induction h with
  | base _ _ hc => exact ⟨(cost1_some hc).2, (cost1_some hc).1⟩
  | step _ _ hc ih =>
    obtain ⟨a, b⟩ := cost1_some hc
    subst b
    exact ⟨by rw [ih.1], a⟩
theorem Had.p1 {i x : Nat} (h : Had n (cost1 p) ini i x) : p i = true := by
  obtain ⟨k, hk⟩ := h
  exact (path1 hk).2
theorem Had.lt1 {i x : Nat} (h : Had n (cost1 p) ini i x) : i < n * n := by
  obtain ⟨k, hk⟩ := h
  exact hk.lt
theorem Had.pos1 {i x : Nat} (h : Had n (cost1 p) ini i x) : 1 ≤ x := by
  obtain ⟨k, hk⟩ := h
  rw [(path1 hk).1]
  exact hk.pos
theorem Had.next1 {i j x : Nat} (h : Had n (cost1 p) ini j x) (hi : i ∈ nb n j) (hp : p i = true) : Had n (cost1 p) ini i (x + 1) := by
  obtain ⟨k, hk⟩ := h
  exact ⟨k + 1, .step hk hi (cost1_own hp)⟩
theorem Best.le1 {i x : Nat} (h : Best n (cost1 p) ini i x) : x ≤ n * n := by
  obtain ⟨k, hk⟩ := h.least
  rw [(path1 hk.1).1]
  exact hk.le
theorem Best.ini1 {i : Nat} (h : Best n (cost1 p) ini i 1) : ini i = true := by
  obtain ⟨k, hk⟩ := h.1
  have e := (path1 hk).1
  have key : ∀ {k i x : Nat}, Path n (cost1 p) ini k i x → k = 1 → ini i = true := by
    intro k i x hp
    cases hp with
    | base _ h1 _ => exact fun _ => h1
    | step hq _ _ =>
      have := hq.pos
      exact fun z => by omega
  exact key hk e.symm
theorem Best.of_ini {i : Nat} (hi : i < n * n) (h1 : ini i = true) (h2 : p i = true) : Best n (cost1 p) ini i 1 := ⟨⟨1, .base hi h1 (cost1_own h2)⟩, fun _ hy => hy.pos1⟩
/-- one further away: a neighbour of one that is next -/
theorem Best.before {i x : Nat} (h : Best n (cost1 p) ini i (x + 1)) (hx : 1 ≤ x) : ∃ j, Best n (cost1 p) ini j x ∧ j ∈ nb n i := by
  obtain ⟨k, hk⟩ := h.1
  have hl := hk.lt
  generalize hk1 : x + 1 = k1 at hk
  cases hk with
  | base _ _ hc =>
    have := (cost1_some hc).2
    omega
  | @step k' _ j y c hp hij hc =>
    have e := (cost1_some hc).2
    subst e
    have e' : y = x := by omega
    subst e'
    refine ⟨j, ⟨⟨k', hp⟩, fun z hz => ?_⟩, (nb_symm hp.lt hl).mp hij⟩
    have := h.2 _ (hz.next1 hij (cost1_some hc).1)
    omega
open Classical in
noncomputable def layB (n : Nat) (p ini : Nat → Bool) (k i : Nat) : Bool := decide (Best n (cost1 p) ini i k)
theorem layB_iff {k i : Nat} : layB n p ini k i = true ↔ Best n (cost1 p) ini i k := by
  unfold layB
  simp
open Classical in
noncomputable def seenB (n : Nat) (p ini : Nat → Bool) (k i : Nat) : Bool := decide (∃ y, y ≤ k ∧ Best n (cost1 p) ini i y)
theorem seenB_iff {k i : Nat} : seenB n p ini k i = true ↔ ∃ y, y ≤ k ∧ Best n (cost1 p) ini i y := by
  unfold seenB
  simp
theorem lay_one {i : Nat} (hi : i < n * n) : (p i && ini i) = layB n p ini 1 i := by
  rw [Bool.eq_iff_iff, layB_iff, Bool.and_eq_true]
  exact ⟨fun ⟨a, b⟩ => .of_ini hi b a, fun h => ⟨h.1.p1, h.ini1⟩⟩
theorem seen_one {i : Nat} : layB n p ini 1 i = seenB n p ini 1 i := by
  rw [Bool.eq_iff_iff, layB_iff, seenB_iff]
  constructor
  · exact fun h => ⟨1, Nat.le_refl _, h⟩
  · rintro ⟨y, hy, h⟩
    have := h.1.pos1
    have e : y = 1 := by omega
    subst e
    exact h
theorem lay_next {k i : Nat} (hk : 1 ≤ k) (hi : i < n * n) : (((nb n i).any (layB n p ini k) && p i) && !(seenB n p ini k i)) = layB n p ini (k + 1) i := by
  rw [Bool.eq_iff_iff, layB_iff, Bool.and_eq_true, Bool.and_eq_true, List.any_eq_true, Bool.not_eq_true', Bool.eq_false_iff]
  constructor
  · rintro ⟨⟨⟨j, hj, hl⟩, hp⟩, hs⟩
    have hb := layB_iff.mp hl
    have hh := hb.1.next1 ((nb_symm hi (nb_lt hi hj)).mp hj) hp
    obtain ⟨y, hy, hby⟩ := hh.best
    have : ¬ y ≤ k := fun z => hs (seenB_iff.mpr ⟨y, z, hby⟩)
    have e : y = k + 1 := by omega
    subst e
    exact hby
  · intro h
    obtain ⟨j, hj, hij⟩ := h.before hk
    refine ⟨⟨⟨j, hij, layB_iff.mpr hj⟩, h.1.p1⟩, fun z => ?_⟩
    obtain ⟨y, hy, hby⟩ := seenB_iff.mp z
    have := h.eq hby
    omega
theorem seen_next {k i : Nat} : (seenB n p ini k i || layB n p ini (k + 1) i) = seenB n p ini (k + 1) i := by
  rw [Bool.eq_iff_iff, Bool.or_eq_true, layB_iff, seenB_iff, seenB_iff]
  constructor
  · rintro (⟨y, hy, h⟩ | h)
    · exact ⟨y, by omega, h⟩
    · exact ⟨k + 1, Nat.le_refl _, h⟩
  · rintro ⟨y, hy, h⟩
    by_cases c : y ≤ k
    · exact .inl ⟨y, c, h⟩
    · have e : y = k + 1 := by omega
      subst e
      exact .inr h
/-- a joined side: some cell of its first edge has a way to the other one -/
theorem JoinP.had {w : Bool} (h : JoinP n w p) : ∃ i x, firstP n w i = true ∧ Best n (cost1 p) (otherP n w) i x := by
  obtain ⟨i, hr, ho⟩ := h
  have key : p i = true ∧ ∀ y, Had n (cost1 p) (otherP n w) i y → ∃ a y, firstP n w a = true ∧ Had n (cost1 p) (otherP n w) a y := by
    refine Reach.sub (P := fun i => p i = true ∧ ∀ y, Had n (cost1 p) (otherP n w) i y → ∃ a y, firstP n w a = true ∧ Had n (cost1 p) (otherP n w) a y) (fun i _ e => ?_) (fun i j hj pj hij qi => ⟨qi, fun y hy => ?_⟩) hr
    · rw [Bool.and_eq_true] at e
      exact ⟨e.1, fun y hy => ⟨i, y, e.2, hy⟩⟩
    · exact pj.2 _ (hy.next1 ((nb_symm hj (nb_lt hj hij)).mp hij) pj.1)
  obtain ⟨a, y, hf, hh⟩ := key.2 1 ⟨1, .base hr.lt ho (cost1_own key.1)⟩
  obtain ⟨x, _, hb⟩ := hh.best
  exact ⟨a, x, hf, hb⟩
/-- how many layers -/
def MostIs (n : Nat) (w : Bool) (p : Nat → Bool) (m : Nat) : Prop := (∃ i, firstP n w i = true ∧ Best n (cost1 p) (otherP n w) i m) ∧ ∀ i x, firstP n w i = true → Best n (cost1 p) (otherP n w) i x → m ≤ x
theorem JoinP.most {w : Bool} (h : JoinP n w p) : ∃ m, MostIs n w p m := by
  obtain ⟨i, x, hf, hb⟩ := h.had
  obtain ⟨m, ⟨j, hj⟩, hm⟩ := exists_least (P := fun x => ∃ i, firstP n w i = true ∧ Best n (cost1 p) (otherP n w) i x) ⟨x, i, hf, hb⟩
  exact ⟨m, ⟨j, hj⟩, fun i x hf hb => hm x ⟨i, hf, hb⟩⟩
theorem MostIs.pos {w : Bool} {m : Nat} (h : MostIs n w p m) : 1 ≤ m := by
  obtain ⟨⟨i, _, hb⟩, _⟩ := h
  exact hb.1.pos1
theorem MostIs.le {w : Bool} {m : Nat} (h : MostIs n w p m) : m ≤ n * n := by
  obtain ⟨⟨i, _, hb⟩, _⟩ := h
  exact hb.le1
end
/-! ### the first of the shortest -/
theorem sf_keep {d : List (Option Nat)} {i x : Nat} (hi : d.getD i none = some x) : ∀ (l : List Nat), (∀ j ∈ l, ∀ y, d.getD j none = some y → x ≤ y) → l.foldl (fun (m : Option Nat) (i : Nat) => match m, d.getD i none with
  | none, some _ => some i
  | some j, some x => (match d.getD j none with
    | some y => if x < y then some i else some j
    | none => some i)
  | m, none => m) (some i) = some i
  | [], _ => rfl
  | a :: l, h => by
    rw [List.foldl_cons]
    have e : (match some i, d.getD a none with
      | none, some _ => some a
      | some j, some x => (match d.getD j none with
        | some y => if x < y then some a else some j
        | none => some a)
      | m, none => m) = some i := by
      cases ha : d.getD a none with
      | none => rfl
      | some y =>
        have := h a List.mem_cons_self y ha
        dsimp only
        rw [hi]
        dsimp only
        rw [if_neg (by omega)]
    rw [e]
    exact sf_keep hi l fun j hj => h j (List.mem_cons_of_mem _ hj)
theorem sf_pre {d : List (Option Nat)} {x : Nat} : ∀ (l : List Nat) (m : Option Nat), (∀ j ∈ l, ∀ y, d.getD j none = some y → x < y) → (∀ j, m = some j → ∃ y, d.getD j none = some y ∧ x < y) →
    ∀ j, l.foldl (fun (m : Option Nat) (i : Nat) => match m, d.getD i none with
  | none, some _ => some i
  | some j, some x => (match d.getD j none with
    | some y => if x < y then some i else some j
    | none => some i)
  | m, none => m) m = some j → ∃ y, d.getD j none = some y ∧ x < y
  | [], m, _, hm, j, h => hm j h
  | a :: l, m, hl, hm, j, h => by
    rw [List.foldl_cons] at h
    refine sf_pre l _ (fun j hj => hl j (List.mem_cons_of_mem _ hj)) (fun b hb => ?_) j h
    cases ha : d.getD a none with
    | none =>
      rw [ha] at hb
      cases m with
      | none => cases hb
      | some c => exact hm b hb
    | some y =>
      have hy := hl a List.mem_cons_self y ha
      rw [ha] at hb
      cases m with
      | none =>
        have : a = b := Option.some.inj hb
        subst this
        exact ⟨y, ha, hy⟩
      | some c =>
        obtain ⟨z, hz, hxz⟩ := hm c rfl
        dsimp only at hb
        rw [hz] at hb
        dsimp only at hb
        by_cases q : y < z
        · rw [if_pos q] at hb
          have : a = b := Option.some.inj hb
          subst this
          exact ⟨y, ha, hy⟩
        · rw [if_neg q] at hb
          have : c = b := Option.some.inj hb
          subst this
          exact ⟨z, hz, hxz⟩
theorem sf_first {d : List (Option Nat)} {l : List Nat} {i x : Nat} (hs : l.Pairwise (· < ·)) (hi : i ∈ l) (hd : d.getD i none = some x) (hm : ∀ j ∈ l, ∀ y, d.getD j none = some y → x ≤ y) (hf : ∀ j ∈ l, d.getD j none = some x → i ≤ j) : Mu25.shortestFrom d l = some i := by
  obtain ⟨pre, post, rfl⟩ := List.append_of_mem hi
  have hpre : ∀ j ∈ pre, ∀ y, d.getD j none = some y → x < y := by
    intro j hj y hy
    have h1 := hm j (List.mem_append_left _ hj) y hy
    have h2 : j < i := (List.pairwise_append.mp hs).2.2 j hj i List.mem_cons_self
    by_cases c : y = x
    · subst c
      have := hf j (List.mem_append_left _ hj) hy
      omega
    · omega
  unfold Mu25.shortestFrom
  rw [List.foldl_append, List.foldl_cons]
  have key := sf_pre (d := d) (x := x) pre none hpre (fun j h => by cases h)
  generalize List.foldl _ none pre = m at key ⊢
  replace key : ∀ j, m = some j → ∃ y, d.getD j none = some y ∧ x < y := key
  have e : (fun (m : Option Nat) (i : Nat) => match m, d.getD i none with
      | none, some _ => some i
      | some j, some x => (match d.getD j none with
        | some y => if x < y then some i else some j
        | none => some i)
      | m, none => m) m i = some i := by
    dsimp only
    rw [hd]
    cases m with
    | none => rfl
    | some j =>
      obtain ⟨y, hy, hxy⟩ := key j rfl
      dsimp only
      rw [hy]
      dsimp only
      rw [if_pos hxy]
  refine Eq.trans (congrArg (fun z => List.foldl _ z post) e) ?_
  exact sf_keep hd post fun j hj => hm j (List.mem_append_right _ (List.mem_cons_of_mem _ hj))
theorem nb_sorted {n i : Nat} (hn : 2 ≤ n) (hi : i < n * n) : (nb n i).Pairwise (· < ·) := by
  have h0 : 0 < n := by omega
  have hr := row_lt hi
  have hc := col_lt (i := i) h0
  rw [cell_rc (n := n) i, nb_rc hc]
  generalize i / n = r at *
  generalize i % n = c at *
  have up : 0 < r → n ≤ r * n := fun h => by
    obtain ⟨a, rfl⟩ : ∃ a, r = a + 1 := ⟨r - 1, by omega⟩
    rw [Nat.succ_mul]
    omega
  by_cases h1 : 0 < r <;> by_cases h2 : c + 1 < n <;> by_cases h3 : 0 < c <;> by_cases h4 : r + 1 < n <;> simp [h1, h2, h3, h4] <;> (try have := up h1) <;> omega
/-- the first cell of a set -/
def IsFirst (n : Nat) (P : Nat → Bool) (i : Nat) : Prop := i < n * n ∧ P i = true ∧ ∀ j, j < n * n → P j = true → i ≤ j
theorem isFirst_of {n : Nat} {P : Nat → Bool} {i : Nat} {r : List Nat} (h : (List.range (n * n)).filter P = i :: r) : IsFirst n P i := by
  have hi : i ∈ (List.range (n * n)).filter P := by rw [h]; exact List.mem_cons_self
  obtain ⟨h1, h2⟩ := List.mem_filter.mp hi
  refine ⟨List.mem_range.mp h1, h2, fun j hj pj => ?_⟩
  have hs : ((List.range (n * n)).filter P).Pairwise (· < ·) := List.Pairwise.filter _ List.pairwise_lt_range
  have hj' : j ∈ (List.range (n * n)).filter P := List.mem_filter.mpr ⟨List.mem_range.mpr hj, pj⟩
  rw [h] at hs hj'
  rcases List.mem_cons.mp hj' with rfl | hj'
  · exact Nat.le_refl _
  · exact Nat.le_of_lt (List.rel_of_pairwise_cons hs hj')
/-- chain's first cell -/
theorem chain_start {B : Board} {w : Bool} {m i : Nat} (hm : MostIs B.n w (Mu25.mine B w) m) (hi : IsFirst B.n (fun i => layB B.n (Mu25.mine B w) (otherP B.n w) m i && firstP B.n w i) i) : Mu25.chain B w = Mu25.follow B w (Mu25.toOther B w) (B.n * B.n) i ∧ Best B.n (cost1 (Mu25.mine B w)) (otherP B.n w) i m := by
  obtain ⟨h1, h2, h3⟩ := hi
  rw [Bool.and_eq_true, layB_iff] at h2
  refine ⟨?_, h2.1⟩
  have e : Mu25.shortestFrom (Mu25.toOther B w) (Mu25.startOf B w) = some i := by
    refine sf_first (x := m) (List.Pairwise.filter _ List.pairwise_lt_range) (startOf_mem.mpr ⟨h1, by simp [h2.1.1.p1, h2.2]⟩) ((toOther_best B w i m).mpr h2.1) (fun j hj y hy => ?_) (fun j hj hy => ?_)
    · have := (startOf_mem.mp hj).2
      rw [Bool.and_eq_true] at this
      exact hm.2 j y this.2 ((toOther_best B w j y).mp hy)
    · obtain ⟨a, b⟩ := startOf_mem.mp hj
      rw [Bool.and_eq_true] at b
      exact h3 j a (by rw [Bool.and_eq_true, layB_iff]; exact ⟨(toOther_best B w j m).mp hy, b.2⟩)
  unfold Mu25.chain
  dsimp only
  rw [e]
/-- chain's next cell -/
theorem chain_next {B : Board} {w : Bool} {k x i j : Nat} (hn : 2 ≤ B.n) (hx : 1 ≤ x) (hb : Best B.n (cost1 (Mu25.mine B w)) (otherP B.n w) i (x + 1)) (hj : IsFirst B.n (fun j => layB B.n (Mu25.mine B w) (otherP B.n w) x j && (nb B.n j).any fun a => a == i) j) :
    Mu25.follow B w (Mu25.toOther B w) (k + 1) i = i :: Mu25.follow B w (Mu25.toOther B w) k j ∧ Best B.n (cost1 (Mu25.mine B w)) (otherP B.n w) j x := by
  obtain ⟨h1, h2, h3⟩ := hj
  have hl := hb.1.lt1
  have adj : ∀ {j : Nat}, j < B.n * B.n → (((nb B.n j).any fun a => a == i) = true ↔ j ∈ nb B.n i) := by
    intro j hj
    rw [List.any_eq_true, nb_symm hl hj]
    constructor
    · rintro ⟨a, ha, e⟩
      rw [beq_iff_eq] at e
      subst e
      exact ha
    · exact fun h => ⟨i, h, by simp⟩
  rw [Bool.and_eq_true, layB_iff, adj h1] at h2
  refine ⟨?_, h2.1⟩
  have ho : Mu25.other B w i = false := by
    cases e : Mu25.other B w i with
    | false => rfl
    | true =>
      have := hb.eq (Best.of_ini hl e hb.1.p1)
      omega
  have e : Mu25.shortestFrom (Mu25.toOther B w) ((Mu25.near B i).filter (Mu25.mine B w)) = some j := by
    refine sf_first (x := x) (List.Pairwise.filter _ (nb_sorted hn hl)) (List.mem_filter.mpr ⟨h2.2, h2.1.1.p1⟩) ((toOther_best B w j x).mpr h2.1) (fun a ha y hy => ?_) (fun a ha hy => ?_)
    · obtain ⟨ha1, _⟩ := List.mem_filter.mp ha
      have := hb.2 _ ((((toOther_best B w a y).mp hy).1).next1 ((nb_symm hl (nb_lt hl ha1)).mp ha1) hb.1.p1)
      omega
    · obtain ⟨ha1, _⟩ := List.mem_filter.mp ha
      have hal := nb_lt hl ha1
      exact h3 a hal (by rw [Bool.and_eq_true, layB_iff, adj hal]; exact ⟨(toOther_best B w a x).mp hy, ha1⟩)
  show (if Mu25.other B w i = true then [i] else match Mu25.shortestFrom (Mu25.toOther B w) ((Mu25.near B i).filter (Mu25.mine B w)) with
    | some j => i :: Mu25.follow B w (Mu25.toOther B w) k j
    | none => [i]) = _
  rw [ho, e]
  rfl
theorem chain_end {B : Board} {w : Bool} {k i : Nat} (hb : Best B.n (cost1 (Mu25.mine B w)) (otherP B.n w) i 1) : Mu25.follow B w (Mu25.toOther B w) (k + 1) i = [i] := by
  have ho : Mu25.other B w i = true := hb.ini1
  show (if Mu25.other B w i = true then [i] else _) = _
  rw [if_pos ho]
end Hx
/-! Hx, part 6: groups. -/
namespace Hx
open Mu25 (Board)
def gStep (B : Board) (w : Bool) (l : List (List Nat)) (i : Nat) : List (List Nat) := if Mu25.mine B w i = false ∨ l.any (fun (g : List Nat) => g.contains i) = true then l else l ++ [(Mu25.flood B w (B.n * B.n) [i] [i]).mergeSort fun (a b : Nat) => decide (a ≤ b)]
theorem groupsOf_eq (B : Board) (w : Bool) : Mu25.groupsOf B w = (List.range (B.n * B.n)).foldl (gStep B w) [] := rfl
def leftB (B : Board) (w : Bool) (gs : List (List Nat)) (i : Nat) : Bool := Mu25.mine B w i && !(gs.any fun (g : List Nat) => g.contains i)
theorem gStep_skip {B : Board} {w : Bool} {gs : List (List Nat)} {i : Nat} (h : leftB B w gs i = false) : gStep B w gs i = gs := by
  unfold gStep
  rw [if_pos]
  unfold leftB at h
  cases hm : Mu25.mine B w i with
  | false => exact .inl rfl
  | true =>
    rw [hm, Bool.true_and] at h
    exact .inr (by simpa using h)
theorem gStep_new {B : Board} {w : Bool} {gs : List (List Nat)} {i : Nat} (h : leftB B w gs i = true) : gStep B w gs i = gs ++ [(Mu25.flood B w (B.n * B.n) [i] [i]).mergeSort fun (a b : Nat) => decide (a ≤ b)] := by
  unfold gStep
  rw [if_neg]
  unfold leftB at h
  rw [Bool.and_eq_true, Bool.not_eq_true'] at h
  rintro (z | z)
  · rw [h.1] at z
    cases z
  · rw [h.2] at z
    cases z
theorem fold_skip {B : Board} {w : Bool} {gs : List (List Nat)} : ∀ {l : List Nat}, (∀ i ∈ l, leftB B w gs i = false) → l.foldl (gStep B w) gs = gs
  | [], _ => rfl
  | a :: l, h => by
    rw [List.foldl_cons, gStep_skip (h a List.mem_cons_self)]
    exact fold_skip fun i hi => h i (List.mem_cons_of_mem _ hi)
theorem range_split {m k : Nat} (h : m ≤ k) : ∃ l, List.range k = List.range m ++ l ∧ ∀ i ∈ l, m ≤ i ∧ i < k := by
  refine ⟨(List.range (k - m)).map (m + ·), ?_, fun i hi => ?_⟩
  · have e : k = m + (k - m) := by omega
    conv => lhs; rw [e, List.range_add]
  · obtain ⟨a, ha, rfl⟩ := List.mem_map.mp hi
    have := List.mem_range.mp ha
    omega
/-- between two turns: the first m cells are gone through -/
structure GrpIn (B : Board) (w : Bool) (gs : List (List Nat)) (m : Nat) : Prop where
  fold : (List.range m).foldl (gStep B w) [] = gs
  le : m ≤ B.n * B.n
  closed : ∀ g ∈ gs, ∀ j ∈ g, j < B.n * B.n ∧ ∀ i ∈ nb B.n j, Mu25.mine B w i = true → i ∈ g
  done : ∀ i, i < m → leftB B w gs i = false
theorem GrpIn.start (B : Board) (w : Bool) : GrpIn B w [] 0 := ⟨rfl, Nat.zero_le _, fun _ hg => (nomatch hg), fun _ hi => absurd hi (Nat.not_lt_zero _)⟩
theorem GrpIn.skip {B : Board} {w : Bool} {gs : List (List Nat)} {m k : Nat} (h : GrpIn B w gs m) (hk : m ≤ k) (hl : ∀ i, i < k → leftB B w gs i = false) : (List.range k).foldl (gStep B w) [] = gs := by
  obtain ⟨l, e, hl'⟩ := range_split hk
  rw [e, List.foldl_append, h.fold]
  exact fold_skip fun i hi => hl i (hl' i hi).2
theorem GrpIn.stop {B : Board} {w : Bool} {gs : List (List Nat)} {m : Nat} (h : GrpIn B w gs m) (hl : ∀ i, i < B.n * B.n → leftB B w gs i = false) : Mu25.groupsOf B w = gs := by
  rw [groupsOf_eq]
  exact h.skip h.le hl
def groupOf (B : Board) (w : Bool) (i : Nat) : List Nat := (Mu25.flood B w (B.n * B.n) [i] [i]).mergeSort fun (a b : Nat) => decide (a ≤ b)
theorem groupOf_mem {B : Board} {w : Bool} {i : Nat} (hi : i < B.n * B.n) : (groupOf B w i).Nodup ∧ ∀ j, j ∈ groupOf B w i ↔ Reach B.n (fun a => a == i) (Mu25.mine B w) j := by
  obtain ⟨h1, h2⟩ := flood_from (B := B) (w := w) (st := [i]) (by simp) (fun a ha => by rw [List.mem_singleton] at ha; subst ha; exact hi)
  have hp := List.mergeSort_perm (Mu25.flood B w (B.n * B.n) [i] [i]) fun (a b : Nat) => decide (a ≤ b)
  refine ⟨hp.nodup_iff.mpr h1, fun j => ?_⟩
  unfold groupOf
  rw [hp.mem_iff, h2 j]
  refine Reach.congr (fun a _ => ?_) fun _ _ => rfl
  rw [List.contains_cons]
  simp
theorem nodup_len {a b : List Nat} (ha : a.Nodup) (hb : b.Nodup) (h : ∀ i, i ∈ a ↔ i ∈ b) : a.length = b.length :=
  Nat.le_antisymm (ha.length_le_of_subset fun i hi => (h i).mp hi) (hb.length_le_of_subset fun i hi => (h i).mpr hi)
theorem groupOf_len {B : Board} {w : Bool} {i : Nat} (hi : i < B.n * B.n) : (groupOf B w i).length = ((List.range (B.n * B.n)).filter (grownP B.n (fun a => a == i) (Mu25.mine B w))).length := by
  obtain ⟨h1, h2⟩ := groupOf_mem (B := B) (w := w) hi
  refine nodup_len h1 (List.Pairwise.filter _ List.nodup_range) fun j => ?_
  rw [h2 j, List.mem_filter, List.mem_range, grownP_iff]
  exact ⟨fun h => ⟨h.lt, h⟩, fun h => h.2⟩
theorem GrpIn.turn {B : Board} {w : Bool} {gs : List (List Nat)} {m i0 : Nat} (h : GrpIn B w gs m) (hi : IsFirst B.n (leftB B w gs) i0) :
    GrpIn B w (gs ++ [groupOf B w i0]) (i0 + 1) ∧ m ≤ i0 ∧ ∀ i, i < B.n * B.n → (leftB B w gs i ^^ grownP B.n (fun a => a == i0) (Mu25.mine B w) i) = leftB B w (gs ++ [groupOf B w i0]) i := by
  obtain ⟨h1, h2, h3⟩ := hi
  have hm : m ≤ i0 := by
    apply Classical.byContradiction
    intro c
    rw [h.done i0 (by omega)] at h2
    cases h2
  obtain ⟨_, gm⟩ := groupOf_mem (B := B) (w := w) h1
  have left_of : ∀ {i : Nat}, leftB B w gs i = true ↔ Mu25.mine B w i = true ∧ ∀ g ∈ gs, i ∉ g := by
    intro i
    unfold leftB
    rw [Bool.and_eq_true, Bool.not_eq_true', List.any_eq_false]
    simp
  -- the group lies in what is left
  have sub : ∀ {i : Nat}, Reach B.n (fun a => a == i0) (Mu25.mine B w) i → leftB B w gs i = true := by
    intro i hr
    refine Reach.sub (P := fun i => leftB B w gs i = true) (fun i hl e => ?_) (fun i j hj pj hij qi => ?_) hr
    · have e' : i = i0 := by simpa using e
      rw [e']
      exact h2
    · rw [left_of] at pj ⊢
      refine ⟨qi, fun g hg z => ?_⟩
      have il := nb_lt hj hij
      exact pj.2 g hg ((h.closed g hg i z).2 j ((nb_symm hj il).mp hij) pj.1)
  have eqn : ∀ i, i < B.n * B.n → (leftB B w gs i ^^ grownP B.n (fun a => a == i0) (Mu25.mine B w) i) = leftB B w (gs ++ [groupOf B w i0]) i := by
    intro i il
    have e1 : leftB B w (gs ++ [groupOf B w i0]) i = (leftB B w gs i && !(grownP B.n (fun a => a == i0) (Mu25.mine B w) i)) := by
      unfold leftB
      rw [List.any_append]
      have e2 : ([groupOf B w i0].any fun (g : List Nat) => g.contains i) = grownP B.n (fun a => a == i0) (Mu25.mine B w) i := by
        rw [Bool.eq_iff_iff, grownP_iff, ← gm i]
        simp
      rw [e2]
      cases Mu25.mine B w i <;> cases (gs.any fun (g : List Nat) => g.contains i) <;> cases grownP B.n (fun a => a == i0) (Mu25.mine B w) i <;> rfl
    rw [e1]
    cases hg : grownP B.n (fun a => a == i0) (Mu25.mine B w) i with
    | false => simp
    | true =>
      rw [sub (grownP_iff.mp hg)]
      rfl
  refine ⟨⟨?_, ?_, ?_, ?_⟩, hm, eqn⟩
  · have e : List.range (i0 + 1) = List.range i0 ++ [i0] := List.range_succ
    have ef : (List.range i0).foldl (gStep B w) [] = gs := h.skip hm fun i hi => by
      cases hl : leftB B w gs i with
      | false => rfl
      | true =>
        have := h3 i (by omega) hl
        omega
    rw [e, List.foldl_append, ef, List.foldl_cons, List.foldl_nil, gStep_new h2]
    rfl
  · omega
  · intro g hg j hj
    rcases List.mem_append.mp hg with hg | hg
    · exact h.closed g hg j hj
    · rw [List.mem_singleton] at hg
      subst hg
      have hr := (gm j).mp hj
      exact ⟨hr.lt, fun i hi hmi => (gm i).mpr (.step hr hi hmi)⟩
  · intro i hi
    have il : i < B.n * B.n := by omega
    rw [← eqn i il]
    by_cases c : i = i0
    · subst c
      rw [h2, grownP_iff.mpr (.base il (by simp))]
      rfl
    · have hl : leftB B w gs i = false := by
        cases hl : leftB B w gs i with
        | false => rfl
        | true =>
          have := h3 i il hl
          omega
      have hg : grownP B.n (fun a => a == i0) (Mu25.mine B w) i = false := by
        cases hg : grownP B.n (fun a => a == i0) (Mu25.mine B w) i with
        | false => rfl
        | true =>
          rw [sub (grownP_iff.mp hg)] at hl
          cases hl
      rw [hl, hg]
      rfl
end Hx
/-! Hx, part 7: games, boards, who can win. -/
namespace Hx
open Mu25 (Board Game)
theorem place_put {B : Board} {i : Nat} {w : Bool} (hi : i < B.on.length) (j : Nat) : Mu25.place (Mu25.put B i w) j = if j = i then some w else Mu25.place B j := by
  unfold Mu25.place Mu25.put
  dsimp only
  rw [List.getElem?_set]
  by_cases c : i = j
  · subst c
    rw [if_pos rfl, if_pos hi, if_pos rfl]
    rfl
  · rw [if_neg c, if_neg fun e => c e.symm]
theorem place_out {B : Board} {i : Nat} (h : ¬ i < B.on.length) : Mu25.place B i = none := by
  unfold Mu25.place
  rw [List.getElem?_eq_none (by omega)]
  rfl
/-- every other one, from the first on -/
def evens : List Nat → List Nat
  | [] => []
  | [a] => [a]
  | a :: _ :: l => a :: evens l
theorem evens_cons (a : Nat) (l : List Nat) : evens (a :: l) = a :: evens l.tail := by
  cases l with
  | nil => rfl
  | cons b l => rfl
theorem mem_evens : ∀ (l : List Nat) (i : Nat), i ∈ evens l ∨ i ∈ evens l.tail ↔ i ∈ l
  | [], i => by simp [evens]
  | a :: l, i => by
    rw [evens_cons, List.tail_cons, List.mem_cons, List.mem_cons, ← mem_evens l i]
    constructor
    · rintro ((h | h) | h)
      · exact .inl h
      · exact .inr (.inr h)
      · exact .inr (.inl h)
    · rintro (h | h | h)
      · exact .inl (.inl h)
      · exact .inr h
      · exact .inl (.inr h)
theorem evens_disj : ∀ {l : List Nat}, l.Nodup → ∀ i, i ∈ evens l → i ∈ evens l.tail → False
  | [], _, i, h, _ => by cases h
  | a :: l, hn, i, h, h' => by
    rw [evens_cons, List.mem_cons] at h
    rw [List.tail_cons] at h'
    obtain ⟨ha, hn'⟩ := List.nodup_cons.mp hn
    rcases h with rfl | h
    · exact ha ((mem_evens l i).mp (.inl h'))
    · exact evens_disj hn' i h' h
theorem evens_sub : ∀ (l : List Nat), List.Sublist (evens l) l
  | [] => .slnil
  | [_] => List.Sublist.refl _
  | _ :: b :: l => .cons_cons _ (.cons b (evens_sub l))
theorem place_boardOf {n : Nat} : ∀ (l : List Nat) (w : Bool) (B : Board), l.Nodup → (∀ i ∈ l, i < B.on.length) → ∀ i, Mu25.place (Mu25.boardOf n l w B) i = if i ∈ evens l then some w else if i ∈ evens l.tail then some (!w) else Mu25.place B i
  | [], w, B, _, _, i => by simp [evens, Mu25.boardOf]
  | a :: l, w, B, hn, hl, i => by
    obtain ⟨ha, hn'⟩ := List.nodup_cons.mp hn
    show Mu25.place (Mu25.boardOf n l (!w) (Mu25.put B a w)) i = _
    rw [place_boardOf l (!w) (Mu25.put B a w) hn' (fun i hi => by
      show i < (B.on.set a (some w)).length
      rw [List.length_set]
      exact hl i (List.mem_cons_of_mem _ hi)) i, evens_cons, List.tail_cons, place_put (hl a List.mem_cons_self)]
    by_cases h1 : i ∈ evens l
    · rw [if_pos h1]
      have h2 : ¬ i ∈ a :: evens l.tail := by
        intro z
        rcases List.mem_cons.mp z with rfl | z
        · exact ha ((mem_evens l i).mp (.inl h1))
        · exact evens_disj hn' i h1 z
      rw [if_neg h2, if_pos h1]
    · rw [if_neg h1]
      by_cases h2 : i ∈ evens l.tail
      · rw [if_pos h2, if_pos (List.mem_cons_of_mem _ h2), Bool.not_not]
      · rw [if_neg h2]
        by_cases h3 : i = a
        · rw [if_pos h3, if_pos (by rw [h3]; exact List.mem_cons_self)]
        · rw [if_neg h3, if_neg (by rw [List.mem_cons]; exact fun z => z.elim h3 h2), if_neg h1]
theorem boardOf_len {n : Nat} : ∀ (l : List Nat) (w : Bool) (B : Board), (Mu25.boardOf n l w B).on.length = B.on.length ∧ (Mu25.boardOf n l w B).n = B.n
  | [], _, _ => ⟨rfl, rfl⟩
  | a :: l, w, B => by
    obtain ⟨h1, h2⟩ := boardOf_len l (!w) (Mu25.put B a w)
    refine ⟨h1.trans ?_, h2⟩
    show (B.on.set a (some w)).length = _
    rw [List.length_set]
/-- a game as it may stand -/
structure GOk (G : Game) : Prop where
  n2 : 2 ≤ G.n
  n11 : G.n ≤ 11
  nd : G.moves.Nodup
  lt : ∀ i ∈ G.moves, i < G.n * G.n
theorem board_n (G : Game) : (Mu25.board G).n = G.n := (boardOf_len _ _ _).2
theorem board_len (G : Game) : (Mu25.board G).on.length = G.n * G.n := by
  refine (boardOf_len _ _ _).1.trans ?_
  show (List.replicate (G.n * G.n) (none : Option Bool)).length = _
  rw [List.length_replicate]
/-- a side's moves -/
def movesOf (w : Bool) (l : List Nat) : List Nat := if w = true then evens l.tail else evens l
theorem GOk.pos {G : Game} (h : GOk G) : 0 < G.n := by have := h.n2; omega
theorem GOk.place {G : Game} (h : GOk G) (i : Nat) : Mu25.place (Mu25.board G) i = if i ∈ evens G.moves then some false else if i ∈ evens G.moves.tail then some true else none := by
  unfold Mu25.board
  rw [place_boardOf _ _ _ h.nd (fun i hi => by
    show i < (List.replicate (G.n * G.n) (none : Option Bool)).length
    rw [List.length_replicate]
    exact h.lt i hi)]
  have e : Mu25.place (Mu25.emptyBoard G.n) i = none := by
    unfold Mu25.place Mu25.emptyBoard
    dsimp only
    rw [List.getElem?_replicate]
    by_cases c : i < G.n * G.n
    · rw [if_pos c]; rfl
    · rw [if_neg c]; rfl
  rw [e]
  rfl
theorem GOk.mine {G : Game} (h : GOk G) (w : Bool) (i : Nat) : Mu25.mine (Mu25.board G) w i = (movesOf w G.moves).contains i := by
  unfold Mu25.mine movesOf
  rw [h.place i, Bool.eq_iff_iff, List.contains_iff_mem]
  by_cases h1 : i ∈ evens G.moves
  · rw [if_pos h1]
    cases w
    · simp [h1]
    · have : ¬ i ∈ evens G.moves.tail := fun z => evens_disj h.nd i h1 z
      simp [this]
  · rw [if_neg h1]
    by_cases h2 : i ∈ evens G.moves.tail
    · rw [if_pos h2]
      cases w <;> simp [h1, h2]
    · rw [if_neg h2]
      cases w <;> simp [h1, h2]
theorem GOk.empty {G : Game} (h : GOk G) (i : Nat) : (Mu25.place (Mu25.board G) i).isNone = !(G.moves.contains i) := by
  rw [h.place i, Bool.eq_iff_iff, Bool.not_eq_true', Bool.eq_false_iff, Ne, List.contains_iff_mem, ← mem_evens G.moves i]
  by_cases h1 : i ∈ evens G.moves
  · simp [h1]
  · by_cases h2 : i ∈ evens G.moves.tail
    · simp [h1, h2]
    · simp [h1, h2]
theorem movesOf_sub (w : Bool) (l : List Nat) : List.Sublist (movesOf w l) l := by
  unfold movesOf
  by_cases c : w = true
  · rw [if_pos c]
    exact (evens_sub _).trans (List.tail_sublist l)
  · rw [if_neg c]
    exact evens_sub l
theorem GOk.stones {G : Game} (h : GOk G) (w : Bool) : Bits G.n (pows G.n (movesOf w G.moves)).sum (Mu25.mine (Mu25.board G) w) :=
  (Bits.sum h.pos (h.nd.sublist (movesOf_sub w _)) fun i hi => h.lt i ((movesOf_sub w _).subset hi)).congr fun i _ => (h.mine w i).symm
theorem GOk.emptyBits {G : Game} (h : GOk G) : Bits G.n (allC G.n ^^^ (pows G.n G.moves).sum) (fun i => (Mu25.place (Mu25.board G) i).isNone) :=
  ((Bits.sum h.pos h.nd h.lt).compl h.pos).congr fun i _ => (h.empty i).symm
theorem GOk.add {G : Game} (h : GOk G) {i : Nat} (hi : i < G.n * G.n) (he : (Mu25.place (Mu25.board G) i).isSome = false) : GOk { G with moves := G.moves ++ [i] } := by
  have hm : i ∉ G.moves := by
    have := h.empty i
    intro z
    rw [List.contains_iff_mem.mpr z] at this
    cases hp : Mu25.place (Mu25.board G) i with
    | none => rw [hp] at this; cases this
    | some x => rw [hp] at he; cases he
  refine ⟨h.n2, h.n11, ?_, fun j hj => ?_⟩
  · show (G.moves ++ [i]).Nodup
    rw [List.nodup_append]
    refine ⟨h.nd, by simp, fun a ha b hb => ?_⟩
    rw [List.mem_singleton] at hb
    subst hb
    intro e
    subst e
    exact hm ha
  · rcases List.mem_append.mp hj with z | z
    · exact h.lt j z
    · rw [List.mem_singleton] at z
      subst z
      exact hi
theorem GOk.back {G : Game} (h : GOk G) (s : Bool) : GOk { G with moves := G.moves.take (G.moves.length - 1), swapped := s } :=
  ⟨h.n2, h.n11, h.nd.sublist (List.take_sublist _ _), fun i hi => h.lt i (List.mem_of_mem_take hi)⟩
theorem GOk.fresh {n : Nat} (h2 : 2 ≤ n) (h11 : n ≤ 11) : GOk ⟨n, [], false⟩ := ⟨h2, h11, List.nodup_nil, fun _ hi => nomatch hi⟩
theorem GOk.swap {G : Game} (h : GOk G) (s : Bool) : GOk { G with swapped := s } := ⟨h.n2, h.n11, h.nd, h.lt⟩
/-! ### who can win -/
/-- a board of n rows -/
structure BOk (n : Nat) (B : Board) : Prop where
  bn : B.n = n
  len : B.on.length = n * n
theorem GOk.bok {G : Game} (_ : GOk G) : BOk G.n (Mu25.board G) := ⟨board_n G, board_len G⟩
theorem BOk.put {n : Nat} {B : Board} (h : BOk n B) (i : Nat) (w : Bool) : BOk n (Mu25.put B i w) := ⟨h.bn, by
  show (B.on.set i (some w)).length = _
  rw [List.length_set, h.len]⟩
theorem empties_mem {n : Nat} {B : Board} (h : BOk n B) {i : Nat} : i ∈ Mu25.empties B ↔ i < n * n ∧ (Mu25.place B i).isNone = true := by
  unfold Mu25.empties Mu25.cells
  rw [List.mem_filter, List.mem_range, h.bn]
theorem BOk.mine_put {n : Nat} {B : Board} (h : BOk n B) {i : Nat} (hi : i < n * n) (he : (Mu25.place B i).isNone = true) (w v : Bool) (j : Nat) : Mu25.mine (Mu25.put B i w) v j = (Mu25.mine B v j || (v == w && j == i)) := by
  unfold Mu25.mine
  rw [place_put (by rw [h.len]; exact hi)]
  by_cases c : j = i
  · subst c
    rw [if_pos rfl]
    have : Mu25.place B j = none := by simpa using he
    rw [this]
    cases v <;> cases w <;> simp
  · rw [if_neg c]
    simp [c]
theorem BOk.empties_put {n : Nat} {B : Board} (h : BOk n B) {i : Nat} (hi : i ∈ Mu25.empties B) (w : Bool) : (Mu25.empties (Mu25.put B i w)).length + 1 = (Mu25.empties B).length := by
  obtain ⟨hl, he⟩ := (empties_mem h).mp hi
  have nd : (Mu25.empties (Mu25.put B i w)).Nodup := List.Pairwise.filter _ List.nodup_range
  have nd' : (Mu25.empties B).Nodup := List.Pairwise.filter _ List.nodup_range
  have mem : ∀ j, j ∈ Mu25.empties B ↔ j ∈ i :: Mu25.empties (Mu25.put B i w) := by
    intro j
    rw [List.mem_cons, empties_mem h, empties_mem (h.put i w), place_put (by rw [h.len]; exact hl)]
    by_cases c : j = i
    · subst c
      simp [hl, he]
    · rw [if_neg c]
      simp [c]
  have hni : i ∉ Mu25.empties (Mu25.put B i w) := by
    intro z
    obtain ⟨_, z⟩ := (empties_mem (h.put i w)).mp z
    rw [place_put (by rw [h.len]; exact hl), if_pos rfl] at z
    cases z
  have := nodup_len nd' (List.nodup_cons.mpr ⟨hni, nd⟩) mem
  rw [List.length_cons] at this
  exact this.symm
theorem find_some_any {p : Nat → Bool} : ∀ (l : List Nat), (l.find? p).isSome = l.any p
  | [] => rfl
  | a :: l => by
    rw [List.find?_cons, List.any_cons]
    cases h : p a with
    | true => rfl
    | false => rw [Bool.false_or]; exact find_some_any l
theorem any_congr {p q : Nat → Bool} : ∀ {l : List Nat}, (∀ i ∈ l, p i = q i) → l.any p = l.any q
  | [], _ => rfl
  | a :: l, h => by
    rw [List.any_cons, List.any_cons, h a List.mem_cons_self, any_congr fun i hi => h i (List.mem_cons_of_mem _ hi)]
/-- enough turns: who wins has a first cell by which -/
theorem wins_eq {n : Nat} {B : Board} (h : BOk n B) (w : Bool) : Mu25.wins (Mu25.empties B).length B w = (Mu25.winner B w).isSome := by
  unfold Mu25.winner
  rw [find_some_any]
  cases e : (Mu25.empties B).length with
  | zero =>
    have : Mu25.empties B = [] := List.length_eq_zero_iff.mp e
    rw [this]
    rfl
  | succ k =>
    show ((Mu25.empties B).any fun (i : Nat) => let C := Mu25.put B i w; Mu25.joined C w || !(Mu25.wins k C !w)) = _
    refine any_congr fun i hi => ?_
    have := h.empties_put hi w
    have e' : (Mu25.empties (Mu25.put B i w)).length = k := by omega
    dsimp only
    rw [e']
/-- one look at a cell -/
theorem winner_test {n : Nat} {B : Board} (h : BOk n B) (w : Bool) : Mu25.winner B w = (Mu25.empties B).find? fun i => Mu25.joined (Mu25.put B i w) w || (Mu25.winner (Mu25.put B i w) (!w)).isNone := by
  show (Mu25.empties B).find? (fun (i : Nat) => Mu25.joined (Mu25.put B i w) w || !(Mu25.wins (Mu25.empties (Mu25.put B i w)).length (Mu25.put B i w) !w)) = _
  congr 1
  funext i
  rw [show (Mu25.winner (Mu25.put B i w) !w).isNone = !(Mu25.winner (Mu25.put B i w) !w).isSome by cases Mu25.winner (Mu25.put B i w) !w <;> rfl, ← wins_eq (h.put i w)]
/-- what the search hands back -/
def winVal (n : Nat) : Option Nat → Nat
  | some i => 2 ^ bidx n i
  | none => 0
theorem winVal_zero {n : Nat} {o : Option Nat} : winVal n o = 0 ↔ o = none := by
  cases o with
  | none => simp [winVal]
  | some i =>
    have : 0 < 2 ^ bidx n i := Nat.two_pow_pos _
    simp [winVal]
/-- a board by its numbers -/
def boardBits (n : Nat) (w : Bool) (m y : Nat) : Board := ⟨n, (List.range (n * n)).map fun i => if m.testBit (bidx n i) = true then some w else if y.testBit (bidx n i) = true then some (!w) else none⟩
theorem boardBits_eq {n m y : Nat} {B : Board} {w : Bool} (h : BOk n B) (hm : Bits n m (Mu25.mine B w)) (hy : Bits n y (Mu25.mine B !w)) : boardBits n w m y = B := by
  obtain ⟨bn, on⟩ := B
  obtain ⟨hn, hl⟩ := h
  dsimp only at hn hl
  subst hn
  unfold boardBits
  congr 1
  apply List.ext_getElem?
  intro i
  rw [List.getElem?_map]
  by_cases hi : i < bn * bn
  · rw [List.getElem?_range hi, Option.map_some, hm.cell hi, hy.cell hi]
    unfold Mu25.mine Mu25.place
    dsimp only
    rw [List.getElem?_eq_getElem (by omega : i < on.length)]
    cases on[i] with
    | none => rfl
    | some x => cases x <;> cases w <;> rfl
  · rw [List.getElem?_eq_none (by rw [List.length_range]; omega), List.getElem?_eq_none (by omega)]
    rfl
end Hx
/-! Hx, part 8: how many positions lie under one. -/
namespace Hx
open Mu25 (Board)
theorem board_ext {n : Nat} {B C : Board} (hB : BOk n B) (hC : BOk n C) (h : ∀ i, i < n * n → Mu25.place B i = Mu25.place C i) : B = C := by
  obtain ⟨bn, bo⟩ := B
  obtain ⟨cn, co⟩ := C
  obtain ⟨h1, h2⟩ := hB
  obtain ⟨h3, h4⟩ := hC
  dsimp only at h1 h2 h3 h4
  subst h1
  subst h3
  congr 1
  apply List.ext_getElem?
  intro i
  by_cases hi : i < cn * cn
  · have e := h i hi
    unfold Mu25.place at e
    dsimp only at e
    rw [List.getElem?_eq_getElem (by omega : i < bo.length), List.getElem?_eq_getElem (by omega : i < co.length)] at e ⊢
    exact congrArg some e
  · rw [List.getElem?_eq_none (by omega), List.getElem?_eq_none (by omega)]
/-- all boards that come of B by stones on some cells of a list -/
def exts : List Nat → Board → List Board
  | [], B => [B]
  | i :: E, B => exts E B ++ (exts E (Mu25.put B i false) ++ exts E (Mu25.put B i true))
theorem exts_len : ∀ (E : List Nat) (B : Board), (exts E B).length = 3 ^ E.length
  | [], _ => rfl
  | i :: E, B => by
    show (exts E B ++ (exts E (Mu25.put B i false) ++ exts E (Mu25.put B i true))).length = 3 ^ (E.length + 1)
    rw [List.length_append, List.length_append, exts_len E, exts_len E, exts_len E, Nat.pow_succ]
    omega
theorem exts_mem {n : Nat} : ∀ (E : List Nat) (B C : Board), BOk n B → BOk n C → (∀ i ∈ E, i < n * n) → (∀ j, j < n * n → Mu25.place C j = Mu25.place B j ∨ (Mu25.place B j = none ∧ j ∈ E)) → C ∈ exts E B
  | [], B, C, hB, hC, _, h => by
    have : C = B := board_ext hC hB fun i hi => (h i hi).elim id fun z => nomatch z.2
    rw [this]
    exact List.mem_singleton.mpr rfl
  | i :: E, B, C, hB, hC, hE, h => by
    have hi := hE i List.mem_cons_self
    have hE' : ∀ i ∈ E, i < n * n := fun a ha => hE a (List.mem_cons_of_mem _ ha)
    show C ∈ exts E B ++ (exts E (Mu25.put B i false) ++ exts E (Mu25.put B i true))
    rw [List.mem_append, List.mem_append]
    by_cases c : Mu25.place C i = Mu25.place B i
    · refine .inl (exts_mem E B C hB hC hE' fun j hj => ?_)
      by_cases z : j = i
      · subst z; exact .inl c
      · rcases h j hj with e | ⟨e1, e2⟩
        · exact .inl e
        · rcases List.mem_cons.mp e2 with e2 | e2
          · exact absurd e2 z
          · exact .inr ⟨e1, e2⟩
    · have step : ∀ x, Mu25.place C i = some x → C ∈ exts E (Mu25.put B i x) := by
        intro x hx
        refine exts_mem E _ C (hB.put i x) hC hE' fun j hj => ?_
        rw [place_put (by rw [hB.len]; exact hi)]
        by_cases z : j = i
        · subst z
          rw [if_pos rfl]
          exact .inl hx
        · rw [if_neg z]
          rcases h j hj with e | ⟨e1, e2⟩
          · exact .inl e
          · rcases List.mem_cons.mp e2 with e2 | e2
            · exact absurd e2 z
            · exact .inr ⟨e1, e2⟩
      cases hx : Mu25.place C i with
      | none =>
        rcases h i hi with e | ⟨e, _⟩
        · exact absurd e c
        · rw [hx, e] at c
          exact absurd rfl c
      | some x =>
        cases x with
        | false => exact .inr (.inl (step false hx))
        | true => exact .inr (.inr (step true hx))
/-- C has all stones of B -/
def ExtB (n : Nat) (B C : Board) : Prop := BOk n C ∧ ∀ i, i < n * n → (Mu25.place B i).isSome = true → Mu25.place C i = Mu25.place B i
theorem ExtB.refl {n : Nat} {B : Board} (h : BOk n B) : ExtB n B B := ⟨h, fun _ _ _ => rfl⟩
theorem ExtB.trans {n : Nat} {B C D : Board} (h : ExtB n B C) (h' : ExtB n C D) : ExtB n B D := ⟨h'.1, fun i hi e => by
  have e1 := h.2 i hi e
  rw [h'.2 i hi (by rw [e1]; exact e), e1]⟩
theorem ExtB.put {n : Nat} {B : Board} (h : BOk n B) {j : Nat} (hj : j ∈ Mu25.empties B) (w : Bool) : ExtB n B (Mu25.put B j w) := by
  obtain ⟨hl, he⟩ := (empties_mem h).mp hj
  refine ⟨h.put j w, fun i hi e => ?_⟩
  rw [place_put (by rw [h.len]; exact hl)]
  by_cases c : i = j
  · subst c
    cases hp : Mu25.place B i with
    | none => rw [hp] at e; cases e
    | some x => rw [hp] at he; cases he
  · rw [if_neg c]
theorem ExtB.mem {n : Nat} {B C : Board} (hB : BOk n B) (h : ExtB n B C) : C ∈ exts (Mu25.empties B) B := by
  refine exts_mem _ B C hB h.1 (fun i hi => ((empties_mem hB).mp hi).1) fun j hj => ?_
  cases hp : Mu25.place B j with
  | none => exact .inr ⟨rfl, (empties_mem hB).mpr ⟨hj, by rw [hp]; rfl⟩⟩
  | some x =>
    have := h.2 j hj (by rw [hp]; rfl)
    rw [hp] at this
    exact .inl this
/-- the number of a set -/
def numOf (n : Nat) (p : Nat → Bool) : Nat := (pows n ((List.range (n * n)).filter p)).sum
theorem numOf_bits {n : Nat} (h0 : 0 < n) (p : Nat → Bool) : Bits n (numOf n p) p :=
  (Bits.sum h0 (List.Pairwise.filter _ List.nodup_range) fun i hi => List.mem_range.mp (List.mem_filter.mp hi).1).congr fun i hi => by
    rw [Bool.eq_iff_iff, List.contains_iff_mem, List.mem_filter, List.mem_range]
    exact ⟨fun h => h.2, fun h => ⟨hi, h⟩⟩
theorem numOf_eq {n S : Nat} {p : Nat → Bool} (h0 : 0 < n) (h : Bits n S p) : S = numOf n p := h.ext (numOf_bits h0 p) fun _ _ => rfl
/-- empty cells by the two sides' numbers -/
theorem emptyPred {B : Board} (w : Bool) (i : Nat) : ((!(Mu25.mine B w i)) ^^ Mu25.mine B (!w) i) = (Mu25.place B i).isNone := by
  unfold Mu25.mine
  cases Mu25.place B i with
  | none => rfl
  | some x => cases x <;> cases w <;> rfl
theorem find_none_take {p : Nat → Bool} {l : List Nat} (h : ∀ j ∈ l, p j = false) : l.find? p = none := by
  rw [List.find?_eq_none]
  intro x hx
  rw [h x hx]
  exact Bool.false_ne_true
theorem find_at {p : Nat → Bool} {l : List Nat} {i j : Nat} (hj : l[i]? = some j) (hb : ∀ a ∈ l.take i, p a = false) (hp : p j = true) : l.find? p = some j := by
  have hlt : i < l.length := (List.getElem?_eq_some_iff.mp hj).1
  have e : l = l.take i ++ l.drop i := (List.take_append_drop i l).symm
  have ed : l.drop i = j :: l.drop (i + 1) := by
    rw [List.drop_eq_getElem_cons hlt]
    rw [List.getElem?_eq_getElem hlt] at hj
    rw [Option.some.inj hj]
  rw [e, List.find?_append, find_none_take hb, ed, List.find?_cons, hp]
  rfl
end Hx
/-! W1: short rules over the layer. -/
namespace Hx
open PySem PySem.Spec PyProof.Rows L2
/-! ### defs by facts -/
structure Df (K : PySem.W.Frag) (x qual : Str) (st : Stmt) (f : Addr) (ps : List Str) : Prop where
  ex : ∃ fd : FuncData, Fun K x qual st f fd ∧ Binds K fd ps []
structure Kp (P : Program) (w : World) (K : PySem.W.Frag) (mg : Str → Option Value) (base : Heap) (CX : CXT) (k : Nat) (f : Addr) (ps : List Str) (sp : Sp) : Prop where
  ex : ∃ fd : FuncData, FnOk P w K mg base CX k f fd ps sp ∧ Binds K fd ps [] ∧ PySem.W.keepIn K (.ref f) = true
section
variable {P : Program} {w : World} {K : PySem.W.Frag} {mg : Str → Option Value} {base : Heap}
theorem Df.ok {x qual : Str} {st : Stmt} {f : Addr} {N ps : List Str} {k : Nat} {sp : Sp} (D : Df K x qual st f ps) (S : FnScope N ps (defScope st)) (len : ∀ vs H Q E, sp vs H Q E → vs.length = ps.length)
    (hbody : ∀ (cdv : Value) (A : Around) (outer : List Env) (s : Shared) (H : Hp) (vs : List V) (Q : VK) (E : XK), Room k (A.deeper (envOfC qual (defScope st) s.heap.objs.size f cdv)) → sp vs H Q E →
      ∃ t, PSs (cxOf CX0 P w K mg base N qual (defScope st) f cdv A outer s H E).nox (defBody st) t ∧ t { nx := fun _ H' => Q .non H', rt := Q } (start N vs) H) : Kp P w K mg base CX0 (k + 1) f ps sp := by
  obtain ⟨fd, F, b⟩ := D.ex
  exact ⟨fd, F.ok S len hbody, b, F.kp⟩
theorem Df.okX {x qual : Str} {st : Stmt} {f : Addr} {N ps : List Str} {k : Nat} {sp : Sp} (D : Df K x qual st f ps) (S : FnScope N ps (defScope st)) (len : ∀ vs H Q E, sp vs H Q E → vs.length = ps.length)
    (hbody : ∀ (cdv : Value) (A : Around) (outer : List Env) (s : Shared) (H : Hp) (vs : List V) (Q : VK) (E : XK), Room k (A.deeper (envOfC qual (defScope st) s.heap.objs.size f cdv)) → sp vs H Q E →
      ∃ t, PSs (cxOf (L2.CX P w) P w K mg base N qual (defScope st) f cdv A outer s H E) (defBody st) t ∧ t { nx := fun _ H' => Q .non H', rt := Q } (start N vs) H) : Kp P w K mg base (L2.CX P w) (k + 1) f ps sp := by
  obtain ⟨fd, F, b⟩ := D.ex
  exact ⟨fd, F.okX S len hbody, b, F.kp⟩
theorem Kp.mono {CX : CXT} {j k : Nat} {f : Addr} {ps : List Str} {sp : Sp} (F : Kp P w K mg base CX j f ps sp) (h : j ≤ k) : Kp P w K mg base CX k f ps sp := by
  obtain ⟨fd, F, b, kp⟩ := F.ex
  exact ⟨fd, F.mono h, b, kp⟩
/-- what lets nothing out lets out nothing but .. -/
theorem Kp.up {CX : CXT} {k : Nat} {f : Addr} {ps : List Str} {sp : Sp} (F : Kp P w K mg base CX0 k f ps sp) : Kp P w K mg base CX k f ps sp := by
  obtain ⟨fd, F, b, kp⟩ := F.ex
  refine ⟨fd, ⟨F.len, fun A outer s H args us vs Q E hr he hb hv hs => ?_⟩, b, kp⟩
  refine codeAny_mono (F.run A outer s H args us vs Q E hr he hb hv hs) fun r s' hq => ?_
  cases r with
  | error e => exact False.elim hq
  | ok fl =>
    cases fl with
    | ret u => exact hq
    | next => exact False.elim hq
    | brk => exact False.elim hq
    | cont => exact False.elim hq
end
section
variable {X : Cx} {CX : CXT} {j k : Nat} {f C : Addr} {ps : List Str} {sp : Sp} {x m : Str} {p pos apos : Pos} {e o : Expr} {es : List Expr} {ta : TE} {t : TA} {E : XK}
/-- f(e, ..), f a def of the module -/
theorem pc (F : Kp X.prog X.w X.K X.mg X.base CX0 j f ps sp) (hm : X.mg x = some (.ref f)) (hr : Room k X.A) (ha : PA X (e :: es) t) (hjk : j ≤ k := by decide) (hg : Gl X x := by rfl) (hdb : (x == ("__debug__" : Str)) = false := by decide)
    (he : starEach (e :: es) X.env = (false, eval e X.env) :: starEach es X.env := by rfl) (hpl : (backTo pos (starEach es X.env)).any (·.1) = false := by rfl) : PE X (.Call (.Name x p) (e :: es) [] pos) (tCall sp [] E0 t) := by
  obtain ⟨fd, F, b, kp⟩ := F.ex
  exact pe_call F (hr.mono hjk) hg hm kp b .nil pass0 ha hdb he hpl
/-- o.m(e, ..) -/
theorem pm (he : PE X o ta) (c : Cls X.K C) (hm : Meth X.K C m f) (F : Kp X.prog X.w X.K X.mg X.base CX0 j f ps sp) (hr : Room k X.A) (ha : PA X (e :: es) t) (hjk : j ≤ k := by decide) {pl : Sem Bool}
    (hst : starEach (e :: es) X.env = (false, eval e X.env) :: starEach es X.env := by rfl) (hpl : (backTo pos (starEach es X.env)).any (·.1) = false := by rfl)
    (ht : eval (.Call (.Attribute o m apos) (e :: es) [] pos) X.env = (do
      let ov ← eval o X.env
      standAt apos.atName
      let (f, first) ← holding [ov] (getMethod ov m pl)
      callWith pos f first (backTo pos (starEach (e :: es) X.env)) (backToKw pos (keywordEach [] X.env))) := by rfl) : PE X (.Call (.Attribute o m apos) (e :: es) [] pos) (tMeth C m sp [] E0 ta t) := by
  obtain ⟨fd, F, b, kp⟩ := F.ex
  exact pe_meth he c hm F (hr.mono hjk) b .nil pass0 ha (hst := hst) (hpl := hpl) (ht := ht)
end
section
variable {X : Cx} {CX : CXT} {j k : Nat} {f C : Addr} {ps : List Str} {sp : Sp} {x m : Str} {p pos apos : Pos} {e o : Expr} {es : List Expr} {ta : TE} {t : TA} {E : XK}
/-- o.m() -/
theorem pm0 (he : PE X o ta) (c : Cls X.K C) (hm : Meth X.K C m f) (F : Kp X.prog X.w X.K X.mg X.base CX0 j f ps sp) (hr : Room k X.A) (hjk : j ≤ k := by decide) {pl : Sem Bool}
    (ht : eval (.Call (.Attribute o m apos) [] [] pos) X.env = (do
      let ov ← eval o X.env
      standAt apos.atName
      let (f, first) ← holding [ov] (getMethod ov m pl)
      callWith pos f first (backTo pos (starEach [] X.env)) (backToKw pos (keywordEach [] X.env))) := by rfl) : PE X (.Call (.Attribute o m apos) [] [] pos) (tMeth C m sp [] E0 ta tNil) := by
  obtain ⟨fd, F, b, kp⟩ := F.ex
  exact pe_meth0 he c hm F (hr.mono hjk) b .nil pass0 (ht := ht)
/-- C(e, ..) -/
theorem pk (M : Mk X.K C f) (F : Kp X.prog X.w X.K X.mg X.base CX0 j f ps sp) (hm : X.mg x = some (.ref C)) (hr : Room k X.A) (ha : PA X (e :: es) t) (hjk : j + 1 ≤ k := by decide) (hg : Gl X x := by rfl) (hdb : (x == ("__debug__" : Str)) = false := by decide)
    (he : starEach (e :: es) X.env = (false, eval e X.env) :: starEach es X.env := by rfl) (hpl : (backTo pos (starEach es X.env)).any (·.1) = false := by rfl) : PE X (.Call (.Name x p) (e :: es) [] pos) (tMake C sp [] E0 t) := by
  obtain ⟨fd, F, b, kp⟩ := F.ex
  exact pe_make M F (hr.mono hjk) hg hm b .nil pass0 ha hdb he hpl
/-- C() -/
theorem pk0 (M : Mk X.K C f) (F : Kp X.prog X.w X.K X.mg X.base CX0 j f ps sp) (hm : X.mg x = some (.ref C)) (hr : Room k X.A) (hjk : j + 1 ≤ k := by decide) (hg : Gl X x := by rfl) (hdb : (x == ("__debug__" : Str)) = false := by decide) :
    PE X (.Call (.Name x p) [] [] pos) (tMake C sp [] E0 tNil) := by
  obtain ⟨fd, F, b, kp⟩ := F.ex
  exact pe_make0 M F (hr.mono hjk) hg hm b .nil pass0 hdb
/-- f(e, ..) that may raise, within a def that lets it out -/
theorem pcX (F : Kp X.prog X.w X.K X.mg X.base (L2.CX X.prog X.w) j f ps sp) (hm : X.mg x = some (.ref f)) (hr : Room k X.A) (tk : Takes X fun cls d _ H => E cls d H) (ha : PA X (e :: es) t) (hjk : j ≤ k := by decide) (hg : Gl X x := by rfl) (hdb : (x == ("__debug__" : Str)) = false := by decide)
    (he : starEach (e :: es) X.env = (false, eval e X.env) :: starEach es X.env := by rfl) (hpl : (backTo pos (starEach es X.env)).any (·.1) = false := by rfl) : PE X (.Call (.Name x p) (e :: es) [] pos) (tCall sp [] E t) := by
  obtain ⟨fd, F, b, kp⟩ := F.ex
  exact pe_call F (hr.mono hjk) hg hm kp b .nil (passes_call tk fun _ _ _ _ h => h) ha hdb he hpl
/-- .. within a try -/
theorem pcS {W : WX} (F : Kp X.prog X.w X.K X.mg X.base (L2.CX X.prog X.w) j f ps sp) (hm : X.mg x = some (.ref f)) (hr : Room k X.A) (tk : Takes X W) (ha : PA X (e :: es) t) (hjk : j ≤ k := by decide) (hg : Gl X x := by rfl) (hdb : (x == ("__debug__" : Str)) = false := by decide)
    (he : starEach (e :: es) X.env = (false, eval e X.env) :: starEach es X.env := by rfl) (hpl : (backTo pos (starEach es X.env)).any (·.1) = false := by rfl) : PE X (.Call (.Name x p) (e :: es) [] pos) (tCallS sp (WE W) t) := by
  obtain ⟨fd, F, b, kp⟩ := F.ex
  exact pe_callS F (hr.mono hjk) hg hm kp b (fun σ => passAt tk σ) ha hdb he hpl
/-- a local that holds one of several defs, called within a try -/
def tCallM (i : Nat) (S : Addr → Option Sp) (E : L2.St → XK) (t : TA) : TE := fun σ H Q => ∃ f sp, σ[i]? = some (some (.ref f)) ∧ S f = some sp ∧ t σ H fun vs H1 => sp vs H1 Q (E σ)
theorem pcM {W : WX} {i : Nat} {S : Addr → Option Sp} {psS : List Str} (A : ∀ f sp, S f = some sp → Kp X.prog X.w X.K X.mg X.base (L2.CX X.prog X.w) j f psS sp) (hr : Room k X.A) (tk : Takes X W) (hN : X.N[i]? = some x) (hv : Vis X.env.scope x) (ha : PA X (e :: es) t) (hjk : j ≤ k := by decide)
    (hdb : (x == ("__debug__" : Str)) = false := by decide) (hcd : (x == ("__classdict__" : Str)) = false := by decide)
    (he : starEach (e :: es) X.env = (false, eval e X.env) :: starEach es X.env := by rfl) (hpl : (backTo pos (starEach es X.env)).any (·.1) = false := by rfl) : PE X (.Call (.Name x p) (e :: es) [] pos) (tCallM i S (WE W) t) := by
  refine ⟨fun pins s σ H Q I h => ?_⟩
  obtain ⟨f, sp, hs, hS, ht⟩ := h
  obtain ⟨fd, F, hb, hk⟩ := (A f sp hS).ex
  refine wpAny_Call_Name_kw (thn ((pe_var (pos := p) hN hv hdb hcd).run pins s σ H (fun v H1 => v = .ref f ∧ H1 = H) I ⟨.ref f, hs, rfl, rfl⟩) fun u s1 ⟨v, H1, I1, r1, q1⟩ => ?_)
  obtain ⟨rfl, rfl⟩ := q1
  cases r1
  refine PySem.W.callWith_K (h₀ := X.base) I.ok.mod.kin hk (thn (ha.run pos pins s1 σ _ _ I1 ht) fun us s2 ⟨vs, H2, I2, r, q⟩ => ⟨I2.kIn, ?_⟩) he hpl
  exact run_fnS F (hr.mono hjk) hb (passAt tk σ) I2 r q
end
/-! ### xs[lo:hi:step] -/
def pickL {α : Type} (xs : List α) (lo hi st : Option Int) : List α := (sliceRange (sliceBounds lo hi st xs.length).1 (sliceBounds lo hi st xs.length).2.1 (sliceBounds lo hi st xs.length).2.2).filterMap (xs[·]?)
theorem Vals.pick {xs : List V} {us : List Value} (r : Vals xs us) : ∀ l : List Nat, Vals (l.filterMap (xs[·]?)) (l.filterMap (us[·]?))
  | [] => .nil
  | a :: l => by
    have ih := Vals.pick r l
    have key : (∃ x u, xs[a]? = some x ∧ us[a]? = some u ∧ RelV x u) ∨ (xs[a]? = none ∧ us[a]? = none) := by
      clear ih
      induction r generalizing a with
      | nil => exact .inr ⟨by simp, by simp⟩
      | cons rv rt ih =>
        cases a with
        | zero => exact .inl ⟨_, _, rfl, rfl, rv⟩
        | succ a => simpa using ih a
    rw [List.filterMap_cons, List.filterMap_cons]
    rcases key with ⟨x, u, e1, e2, rv⟩ | ⟨e1, e2⟩
    · rw [e1, e2]
      exact .cons rv ih
    · rw [e1, e2]
      exact ih
theorem pickL_len {α : Type} (xs : List α) (lo : Option Int) (c : Int) (hc : 0 < c) (hi : Option Int) : (pickL xs lo hi (some c)).length ≤ xs.length := by
  refine Nat.le_trans (List.length_filterMap_le _ _) ?_
  refine sliceRange_length_le _ _ _ _ (fun _ => ?_) fun h => ?_
  · unfold sliceBounds
    have hc' : c > 0 := hc
    simp only [Option.getD_some, hc', if_true]
    constructor
    · cases lo with
      | none => exact Int.le_refl _
      | some i => exact Int.le_max_left _ _
    · cases hi with
      | none => exact Int.le_refl _
      | some i => simp only []; omega
  · exact absurd hc (by simpa [sliceBounds] using h)
section
variable {X : Cx} {e st : Expr} {te ts : TE} {lo hi : Option Expr} {tl th : TO} {p2 pos : Pos}
def tSlS (K : PySem.W.Frag) (te : TE) (tl th : TO) (ts : TE) : TE := fun σ H Q => te σ H fun x H1 => tl σ H1 fun l H2 => th σ H2 fun u H3 => ts σ H3 fun y H4 => ∃ a xs c, x = .ref a ∧ y = .int c ∧ 0 < c ∧ SqL K H4 a xs ∧ ∀ p, H4 p = none → Q (.ref p) (upd H4 p (.lst (pickL xs l u (some c))))
theorem pe_sliceS (he : PE X e te) (hl : PO X lo tl) (hu : PO X hi th) (hst : PE X st ts) : PE X (.Subscript e (.Slice lo hi (some st) p2) pos) (tSlS X.K te tl th ts) := by
  refine ⟨fun pins s σ H Q I h => ?_⟩
  refine Subscript_ (thn (he.run pins s σ H _ I h) fun v s1 ⟨x, H1, I1, r1, q1⟩ => ?_)
  refine wpAny_Slice (thn (hl.run pins s1 σ H1 _ I1 q1) fun vl s2 ⟨l, H2, I2, pl, q2⟩ => thn (hu.run pins s2 σ H2 _ I2 q2) fun vu s3 ⟨u, H3, I3, pu, q3⟩ => ?_)
  rw [evalPart_some]
  refine thn (hst.run pins s3 σ H3 _ I3 q3) fun vs s4 ⟨y, H4, I4, r4, q4⟩ => ?_
  obtain ⟨a, xs, c, ex, ey, hc, hx, q⟩ := q4
  subst ex ey
  cases r1
  obtain ⟨tk, rfl⟩ := r4
  have I5 : Inv X pins σ H4 { s4 with heap := s4.heap.push { cls := .type "slice", data := .fields #[vl, vu, .int c tk] } } := I4.kept (t' := s4.toks) fun b ob q => Heap.get?_push_of_some _ q
  obtain ⟨its, r, ht, hz⟩ := I5.list hx
  have hlen := r.length
  show wpAny (model X.prog X.w) X.A (subscriptTail e (.Slice lo hi (some st) p2) (.ref a) (.ref s4.heap.objs.size)) (EP X pins σ Q) X.xe { s4 with heap := s4.heap.push { cls := .type "slice", data := .fields #[vl, vu, .int c tk] } }
  refine tail_any (ops := [.ref a, .ref s4.heap.objs.size]) ht.isList.typeIs (PySem.slot_list_getitem.lookup) ?_ (by with_unfolding_all rfl)
  refine wpAny_getItem_list_slice ht.isList (Heap.IsSliceOf.new _ vl vu _) pl pu (.int c tk) (by intro z; have := Option.some.inj z; omega) ?_ (by rw [List.size_toArray]; omega)
  have ep : slicePick its.toArray l u (some c) = (pickL its l u (some c)).toArray := by
    unfold slicePick pickL
    simp
  rw [ep]
  refine ⟨.ref _, _, I5.laid (t' := s4.toks) (o := .lst (pickL xs l u (some c))) (fun b ob q => Heap.get?_push_of_some _ q) (Nat.le_refl _) ?_, rfl, q _ (I5.hok.fresh (Nat.le_refl _))⟩
  refine ⟨Nat.le_trans (pickL_len xs l c hc u) hz, _, 0, ?_, Heap.get?_push_size _ rfl⟩
  have := Vals.pick r (sliceRange (sliceBounds l u (some c) xs.length).1 (sliceBounds l u (some c) xs.length).2.1 (sliceBounds l u (some c) xs.length).2.2)
  unfold pickL
  rw [← hlen]
  exact this
end
end Hx
/-! W2: the error, the text by places, what the top has written. -/
namespace PySem
namespace RefX
open PySem.W PySem.Calls PyProof.Rows PySem.HandSPX
/-! ### the text of __init__ -/
def iA (p1 p2 : Pos) : Arguments := { posonlyargs := [], args := [{ arg := "self", annotation := none, pos := p1 }, { arg := "number", annotation := none, pos := p2 }], vararg := none, kwonlyargs := [], kw_defaults := [], kwarg := none, defaults := [] }
def iB (q1 q2 q3 q4 : Pos) : List Stmt := [.Assign [.Attribute (.Name "self" q1) "number" q2] (.Name "number" q3) q4]
def iS : Scope := { kind := .function, names := [(PySem.Str.ofString "self", .local), (PySem.Str.ofString "number", .local)], isGenerator := false, isCoroutine := false, more := [] }
/-- what the written part says of Refusal, at C, and of its __init__, at fI -/
structure RefTxt (K : Frag) (mg : Str → Option Value) (C fI : Addr) : Prop where
  gC : mg "Refusal" = some (.ref C)
  cls : ∃ nm q N bs bm sn sub ab col dd k0 k1 k2 k3 k5, K.lookup C = some (excClassObj nm q C N bs bm true sn sub ab col dd k0 k1 k2 k3 k5 "ValueError.__new__") ∧ refsVE bm = true
  sa : findIn K (.ref C) "__setattr__" = some (some (.builtin "object.__setattr__"))
  ga : findIn K (.ref C) "__getattribute__" = some (some (.builtin "BaseException.__getattribute__"))
  gg : findIn K (.ref C) "__getattr__" = some none
  noN : findIn K (.ref C) "number" = some none
  iC : findIn K (.ref C) "__init__" = some (some (.ref fI))
  tC : typeIn K (.ref fI) = some (.type "function")
  kC : keepIn K (.ref C) = true
  exC : subIn K (.ref C) (.type "BaseException") = some true
  tyC : typeIn K (.ref C) = some (.type "type")
  hdC : hasDictIn K C = true
  te : exmOne K (.ref C) (.ref C) = some true
  fn : ∃ (oc : Value) (od : Option Addr) (doc pm : Value) (an : Option Addr) (cdv ct : Value) (osl : Array (Option Value)) (p1 p2 q1 q2 q3 q4 : Pos),
    K.lookup fI = some ⟨oc, od, .func (fnOf "__init__" "Refusal.__init__" (iA p1 p2) (iB q1 q2 q3 q4) iS .none .none doc pm an cdv ct), osl⟩ ∧ codeIn K cdv "Refusal.__init__" = true
theorem one_size (v : Value) : [v].length ≤ sizeLine := by
  rw [sizeLine_eq]
  exact (by decide : 1 ≤ 16777216)
theorem kept_but {K : Frag} {h h' : Heap} {x : Addr} (X : K.In h) (hx : K.lookup x = none) (k : ∀ b o, b ≠ x → h.get? b = some o → h'.get? b = some o) : K.In h' := fun a o e =>
  k a o (fun z => by rw [z, hx] at e; cases e) (X a o e)
theorem ldC {M : Model} {s : Shared} {name : Str} {scope : Scope} {L a : Addr} {cd : Value} {m : Str → Option Value} {x : Str} {pos : Pos} {v : Value} {Q : Value → Shared → Prop} {A : Around} {E : Value → Shared → Prop} (hn : s.heap.Ns L m) (hv : m x = some v) (h : Q v s)
    (hk : scope.kind = .function := by rfl) (hl : (envOfC name scope L a cd).kindOf x = some .local := by rfl) (hd : (x == ("__debug__" : Str)) = false := by decide) :
    wpAny M A (eval (.Name x pos) (envOfC name scope L a cd)) Q E s := wpAny_Name (wpAny_loadName_local hk hl hn hv h) hd
/-- what __init__ leaves of a fresh exception at x -/
structure InitEnd (h h' : Heap) (x C dx t1 : Addr) (v : Value) : Prop where
  keep : ∀ b o, b ≠ x → h.get? b = some o → h'.get? b = some o
  obj : h'.get? x = some { cls := .ref C, dict := some dx, data := .fields #[.ref t1, .none, .none, .none, .bool false, .none] }
  dbig : h.objs.size ≤ dx
  dne : dx ≠ x
  ns : h'.Ns1 dx (fun y => if y = "number" then some v else none)
/-- a made Refusal -/
structure OwnMade (h h' : Heap) (e C d : Addr) (v : Value) : Prop where
  keep : ∀ b o, h.get? b = some o → h'.get? b = some o
  new : h.objs.size ≤ e
  obj : ∃ oe vs, h'.get? e = some oe ∧ oe.cls = .ref C ∧ oe.dict = some d ∧ oe.data = .fields vs ∧ vs[1]? = some .none
  dbig : h.objs.size ≤ d
  dne : d ≠ e
  ns : h'.Ns1 d (fun y => if y = "number" then some v else none)
section
variable {prog : Program} {w : World} {A : Around} {E : Value → Shared → Prop} {R : Result → Shared → Prop} {s : Shared} {K : Frag} {mg : Str → Option Value} {C fI : Addr}
theorem ref_init (T : RefTxt K mg C fI) {x t0 : Addr} {v : Value} (X : K.In s.heap) (hlim : s.heap.NoLimit) (hx : s.heap.get? x = some (excO C t0)) (hnx : K.lookup x = none) (hroom : A.depth < recursionLimit)
    (hq : ∀ h' tk dx, InitEnd s.heap h' x C dx t0 v → R (.ok (.ret .none)) { s with heap := h', toks := tk }) :
    codeAny (model prog w) A (.call (.ref fI) ⟨[.ref x, v], []⟩) R s := by
  obtain ⟨oc, od, doc, pm, an, cdv, ct, osl, p1, p2, q1, q2, q3, q4, ho, hcd⟩ := T.fn
  obtain ⟨nm, q, N, bs, bm, sn, sub, ab, col, dd, k0, k1, k2, k3, k5, hC, hbm⟩ := T.cls
  have hcl : clsIn K C = some { name := nm, bases := bs, mro := .ref C :: bm, ns := N, qualname := q, hasDict := true, slotNames := sn, subclasses := sub, abstract := ab, collection := col, hasDel := false } := by unfold clsIn; rw [hC] <;> rfl
  refine Att.call_fn (binds := [("self", .ref x), ("number", v)]) X hlim ho hcd hroom (BindsTo.of_eq (by first | rfl | with_unfolding_all rfl)) (by first | rfl | decide | with_unfolding_all rfl) (fun s₁ IC => ?_) rfl rfl rfl
  obtain ⟨h₁, tk₁, rfl⟩ := IC.toInCall.same
  have k : ∀ b o, s.heap.get? b = some o → h₁.get? b = some o := IC.toInCall.keep
  have hn := IC.toInCall.ns
  have hxL : s.heap.objs.size ≠ x := Nat.ne_of_gt (Heap.lt_size hx)
  have X₁ : K.In h₁ := X.keeps k
  have hx₁ := k _ _ hx
  -- self.number = number
  show wpAny _ _ (execs _ _) _ _ _
  refine wpAny_execs_cons (plainObj_wpAny_Assign_Attribute ?_)
  refine ldC (v := v) hn (by first | rfl | with_unfolding_all rfl | kernel_rfl) (ldC (v := .ref x) hn (by first | rfl | with_unfolding_all rfl | kernel_rfl) ?_)
  refine set_plain X₁ (ox := excO C t0) (od := none) ⟨hx₁, rfl, rfl, trivial⟩ T.sa ?_
  refine exc_osa X₁ hx₁ hcl (show refsVE (.ref C :: bm) = true from hbm) rfl T.noN (fun h₃ tk₃ dx k₃ dn dne hx₃ hn₃ => ?_)
  show wpAny _ _ (execs _ _) _ _ _
  have z : s.heap.objs.size < h₁.objs.size := hn.lt
  exact wpAny_execs_nil (hq h₃ tk₃ dx ⟨fun b o hb e => k₃ b o hb (k b o e), hx₃, Nat.le_of_lt (Nat.lt_of_lt_of_le z dn), dne, hn₃⟩)
theorem ref_made (T : RefTxt K mg C fI) {v : Value} (X : K.In s.heap) (hlim : s.heap.NoLimit) (hroom : A.depth + 1 < recursionLimit)
    (hq : ∀ h' tk e d, OwnMade s.heap h' e C d v → R (.ok (.ret (.ref e))) { s with heap := h', toks := tk }) :
    codeAny (model prog w) A (.call (.ref C) ⟨[v], []⟩) R s := by
  obtain ⟨nm, q, N, bs, bm, sn, sub, ab, col, dd, k0, k1, k2, k3, k5, hC, hbm⟩ := T.cls
  obtain ⟨hp, g, dr, tk, os⟩ := s
  have k : ∀ b o, hp.get? b = some o → ((hp.push (kdv_tup [v])).push (excO C hp.objs.size)).get? b = some o := fun b o e => Heap.get?_push_of_some _ (Heap.get?_push_of_some _ e)
  have hget : ((hp.push (kdv_tup [v])).push (excO C hp.objs.size)).get? (hp.objs.size + 1) = some (excO C hp.objs.size) := by heap_get
  have hnx : K.lookup (hp.objs.size + 1) = none := by
    cases e : K.lookup (hp.objs.size + 1) with
    | none => rfl
    | some o =>
      have z : hp.get? (hp.objs.size + 1) = some o := X _ _ e
      exact absurd (Nat.lt_of_succ_lt (Heap.lt_size z)) (Nat.lt_irrefl _)
  refine call_own F.excBase_ValueError (fun X => refsVE_contains X bm hbm) (X _ _ hC) (looks_findIn X T.iC) (fun self => bind_fn X self T.tC) (one_size v) ?_
  refine ref_init (s := ⟨(hp.push (kdv_tup [v])).push (excO C hp.objs.size), g, dr, tk, os⟩) T (X.keeps k) (hlim.keeps k) hget hnx ?_ fun h' tk' dx ⟨k', hx, dn, dne, hns⟩ => ?_
  · show A.depth + 1 < recursionLimit
    exact hroom
  · have old : ∀ b o, hp.get? b = some o → h'.get? b = some o := fun b o e => k' b o (Nat.ne_of_lt (Nat.lt_succ_of_lt (Heap.lt_size e))) (k b o e)
    have z : hp.objs.size + 1 + 1 ≤ dx := by
      first
        | (simpa only [Heap.size_push] using dn)
        | exact dn
        | (have q := dn; rw [Heap.size_push, Heap.size_push] at q; exact q)
    exact ⟨rfl, hq h' tk' (hp.objs.size + 1) dx ⟨old, Nat.le_succ _, ⟨_, _, hx, rfl, rfl, rfl, rfl⟩, Nat.le_trans (Nat.le_trans (Nat.le_succ _) (Nat.le_succ _)) z, dne, hns⟩⟩
end
end RefX
end PySem
namespace L2
open PySem PySem.Spec PyProof.Rows
theorem relO_ref {v : V} {v' : Value} (r : RelV v v') (f : Str) : RelO (List.lookup f [(("number" : Str), v)]) (if f = "number" then some v' else none) := by
  by_cases hw : f = "number"
  · subst hw
    rw [if_pos rfl]
    have q : List.lookup ("number" : Str) [(("number" : Str), v)] = some v := by simp [List.lookup]
    rw [q]
    exact r
  · rw [if_neg hw]
    have qw : (f == ("number" : Str)) = false := by simpa using hw
    have q2 : List.lookup f [(("number" : Str), v)] = none := by simp [List.lookup, qw]
    rw [q2]
    trivial
section
variable {X : Cx} {C fI : Addr}
/-- Refusal(e) -/
def tMkRef (C : Addr) (ta : TA) : St → Hp → XK → Prop := fun σ H Q => ta σ H fun vs H1 => ∃ v, vs = [v] ∧ ∀ d, H1 d = none → Q (.ref C) (some d) (upd H1 d (.xd [(("number" : Str), v)]))
theorem pmk_ref {a : Expr} {ta : TA} {p pos : Pos} {k : Nat} (T : PySem.RefX.RefTxt X.K X.mg C fI) (hr : Room k X.A) (ha : PA X [a] ta) (hg : Gl X "Refusal" := by rfl)
    (he : starEach (a :: []) X.env = (false, eval a X.env) :: starEach [] X.env := by rfl) (hpl : (backTo pos (starEach [] X.env)).any (·.1) = false := by rfl) :
    PMk X (.Call (.Name "Refusal" p) [a] [] pos) (tMkRef C ta) := by
  intro pins s σ H Q I h
  refine wpAny_Call_Name_kw (ld_glob I hg T.gC ?_)
  refine PySem.W.callWith_K (h₀ := X.base) I.ok.mod.kin T.kC (thn (ha.run pos pins s σ H _ I h) fun us s1 hh => ?_) he hpl
  obtain ⟨vs, H1, I1, r1, v, ev, q1⟩ := hh
  subst ev
  refine ⟨I1.kIn, ?_⟩
  cases r1 with
  | cons rv rn =>
    rename_i v' us'
    cases rn
    show wpAny _ _ (call (.ref C) [v']) _ _ _
    have hlim := I1.nolimit
    obtain ⟨hp, g, dr, tk, os⟩ := s1
    refine wpAny_call (PySem.RefX.ref_made T I1.kIn hlim (by have := hr.dp; omega) fun h' tk' e d M => ?_)
    show MkP X pins σ Q (.ref e) ⟨h', g, dr, tk', os⟩
    obtain ⟨oe, fv, hoe, hc, hd, hdat, h1⟩ := M.obj
    have hns := M.ns
    obtain ⟨G', g1, g2⟩ := restrict h' fun b => decide (b ≠ e)
    have gk : ∀ b, b ≠ e → G'.get? b = h'.get? b := fun b hb => g1 b (decide_eq_true hb)
    have ge : G'.get? e = none := g2 e (by simp)
    have old : ∀ b o, hp.get? b = some o → G'.get? b = some o := fun b o q => (gk b (Nat.ne_of_lt (Nat.lt_of_lt_of_le (Heap.lt_size q) M.new))).trans (M.keep b o q)
    have ob : ObjOk X.prog X.w (upd H1 d (.xd [(("number" : Str), v)])) G' d (.xd [(("number" : Str), v)]) :=
      ⟨_, hns.at (fun o q => (gk d M.dne).trans q), fun f => relO_ref rv f⟩
    have J : Inv X pins σ (upd H1 d (.xd [(("number" : Str), v)])) ⟨G', g, dr, tk', os⟩ := I1.laid (t' := tk') old M.dbig ob
    refine ⟨e, oe, fv, ⟨G', g, dr, tk', os⟩, _, .ref C, some d, rfl, J, fun b o q => ?_, ge, hoe, ⟨hc, hd⟩, hdat, h1, ?_, rfl, I1.bare, raises_own T.exC T.tyC, q1 d (I1.hok.fresh M.dbig)⟩
    · by_cases hb : b = e
      · have q' : G'.get? b = some o := q
        rw [hb, ge] at q'; cases q'
      · exact (gk b hb).symm.trans q
    · rw [upd_ne (Ne.symm M.dne)]
      exact I1.hok.fresh M.new
/-- raise Refusal(e) -/
def tRaiseRef (C : Addr) (W : WX) (ta : TA) : TS := fun _ σ H => tMkRef C ta σ H fun cls d H' => W cls d σ H'
theorem ps_raiseRef {a : Expr} {ta : TA} {W : WX} {p pos pos2 : Pos} {k : Nat} (hc : X.calm = true) (T : PySem.RefX.RefTxt X.K X.mg C fI) (hr : Room k X.A) (tk : Takes X W) (ha : PA X [a] ta) (hg : Gl X "Refusal" := by rfl)
    (he : starEach (a :: []) X.env = (false, eval a X.env) :: starEach [] X.env := by rfl) (hpl : (backTo pos (starEach [] X.env)).any (·.1) = false := by rfl) :
    PS X (.Raise (some (.Call (.Name "Refusal" p) [a] [] pos)) none pos2) (tRaiseRef C W ta) := ps_raise hc tk (pmk_ref T hr ha hg he hpl)
/-- refusal.number, low the exception that the suite holds (at a; its class cls, its dict d) -/
def tNumRef (C : Addr) (a : Addr) (cls : Value) (d : Option Addr) (te : TE) : TE := fun σ H Q => te σ H fun x H1 => x = .ref a ∧ cls = .ref C ∧ ∃ (dd : Addr) (v : V), d = some dd ∧ H1 dd = some (.xd [(("number" : Str), v)]) ∧ Q v H1
theorem pe_numRef {a : Addr} {oe : Obj} {cls : Value} {d : Option Addr} {pn : List (Addr × Obj)} {e : Expr} {te : TE} {pos : Pos} (T : PySem.RefX.RefTxt X.K X.mg C fI) (hz : Zc cls d oe) (hf : ∃ vs, oe.data = .fields vs) (he : PE (X.suite a ((a, oe) :: pn)) e te)
    (hb : attributeBase e "number" X.env (eval e X.env) = eval e X.env := by rfl) :
    PE (X.suite a ((a, oe) :: pn)) (.Attribute e "number" pos) (tNumRef C a cls d te) := by
  refine ⟨fun pins s σ H Q I h => ?_⟩
  refine attr_of hb (thn (he.run pins s σ H _ I h) fun u s1 hh => ?_)
  obtain ⟨x, H1, I1, rx, ex, ec, dd, v, ed, ea, q⟩ := hh
  subst ex
  obtain rfl : u = Value.ref a := rx
  subst ec
  subst ed
  obtain ⟨ha, _⟩ := I1.pin (a, oe) (List.mem_append_left _ List.mem_cons_self)
  obtain ⟨vs, hd⟩ := hf
  have hx : ObjOk X.prog X.w H1 s1.heap dd (.xd [(("number" : Str), v)]) := I1.hok dd _ ea
  obtain ⟨mA, hns, hr⟩ := hx
  obtain ⟨od, ho, hl⟩ := lookIn_ns hns
  have l : List.lookup ("number" : Str) [(("number" : Str), v)] = some v := by simp [List.lookup]
  obtain ⟨u, hu, ru⟩ := RelO.some_of (v := v) (o := mA "number") (by rw [← l]; exact hr "number")
  have J : PySem.W.InstAt s1.heap a oe C (some od) := ⟨ha, hz.1, by unfold PySem.W.notCls; rw [hd] <;> rfl, by rw [hz.2]; exact ho⟩
  exact HandSPX.exc_get I1.kIn J T.ga T.gg T.exC (PySem.W.findObj_own T.hdC T.noN rfl (by rw [hl, hu])) (handed_of ru) ⟨v, H1, I1.tok _, ru, q⟩
end
end L2
namespace L2
open PySem PySem.Spec PyProof.Rows
/-- an if whose test is known -/
theorem if_true_of {c : Bool} {A B : Prop} (hc : c = true) (h : A) : if c = true then A else B := by
  rw [if_pos hc]
  exact h
theorem if_false_of {c : Bool} {A B : Prop} (hc : c = false) (h : B) : if c = true then A else B := by
  rw [hc, if_neg Bool.false_ne_true]
  exact h
end L2
namespace Hx
open PySem PySem.Spec PyProof.Rows L2
/-- an error of the class at S is what «except S» names -/
theorem exm_self {K : PySem.W.Frag} {S : Addr} (h1 : PySem.W.subIn K (.ref S) (.type "BaseException") = some true) (h2 : PySem.W.isClsIn K S = true) (h3 : PySem.W.typeIn K (.ref S) = some (.type "type")) (h4 : PySem.W.subIn K (.ref S) (.ref S) = some true) :
    PySem.W.exmOne K (.ref S) (.ref S) = some true := by
  have e1 : (PySem.W.subIn K (.ref S) (.type "BaseException") == some true) = true := by rw [h1] <;> rfl
  have e2 : ((PySem.W.clsIn K S).isSome && PySem.W.typeIn K (.ref S) == some (.type "type")) = true := by
    have h2' : (PySem.W.clsIn K S).isSome = true := h2
    rw [h2', h3] <;> rfl
  show (if (PySem.W.subIn K (.ref S) (.type "BaseException") == some true) = true then (if ((PySem.W.clsIn K S).isSome && PySem.W.typeIn K (.ref S) == some (.type "type")) = true then PySem.W.subIn K (.ref S) (.ref S) else none) else none) = some true
  rw [if_pos e1, if_pos e2]
  exact h4
def top (i : Nat) : Stmt := PySem.Challenge.pw_hexgame_s01_answers.main.body.getD i (.Pass ⟨0, 0, 0, 0⟩)
abbrev s_field_init : Stmt := inClass (top 1) 0
abbrev s_field_bit : Stmt := inClass (top 1) 1
abbrev s_field_place_of : Stmt := inClass (top 1) 2
abbrev s_field_has : Stmt := inClass (top 1) 3
abbrev s_field_beside : Stmt := inClass (top 1) 4
abbrev s_field_grown : Stmt := inClass (top 1) 5
abbrev s_field_is_joined : Stmt := inClass (top 1) 6
abbrev s_field_cells_in : Stmt := inClass (top 1) 7
abbrev s_bits_of : Stmt := top 2
abbrev s_fewest : Stmt := top 3
abbrev s_layers_to : Stmt := top 4
abbrev s_shortest_chain : Stmt := top 5
abbrev s_group_sizes : Stmt := top 6
abbrev s_joining_cells : Stmt := top 7
abbrev s_game_init : Stmt := inClass (top 10) 0
abbrev s_game_side : Stmt := inClass (top 10) 1
abbrev s_game_stones : Stmt := inClass (top 10) 2
abbrev s_game_empty : Stmt := inClass (top 10) 3
abbrev s_game_player_of : Stmt := inClass (top 10) 4
abbrev s_game_winner : Stmt := inClass (top 10) 5
abbrev s_game_standing : Stmt := inClass (top 10) 6
abbrev s_game_copy : Stmt := inClass (top 10) 7
abbrev s_game_can_put : Stmt := inClass (top 10) 8
abbrev s_game_put_stone : Stmt := inClass (top 10) 9
abbrev s_game_take_back : Stmt := inClass (top 10) 10
abbrev s_searcher_init : Stmt := inClass (top 11) 0
abbrev s_searcher_first_win : Stmt := inClass (top 11) 1
abbrev s_searcher_looked_for : Stmt := inClass (top 11) 2
abbrev s_keeper_init : Stmt := inClass (top 18) 0
abbrev s_need : Stmt := top 20
abbrev s_cells_told : Stmt := top 21
abbrev s_call_begin : Stmt := top 22
abbrev s_call_play : Stmt := top 23
abbrev s_call_swap : Stmt := top 24
abbrev s_call_undo : Stmt := top 25
abbrev s_call_look : Stmt := top 26
abbrev s_call_rows : Stmt := top 27
abbrev s_call_lacks : Stmt := top 28
abbrev s_call_chain : Stmt := top 29
abbrev s_call_groups : Stmt := top 30
abbrev s_call_threats : Stmt := top 31
abbrev s_call_best : Stmt := top 32
abbrev s_call_try : Stmt := top 33
abbrev s_answered : Stmt := top 38
abbrev s_answers : Stmt := top 39
/-- where things stand -/
structure Ad where
  cField : Addr
  cGame : Addr
  cSearcher : Addr
  cKeeper : Addr
  cRefusal : Addr
  f_field_init : Addr
  f_field_bit : Addr
  f_field_place_of : Addr
  f_field_has : Addr
  f_field_beside : Addr
  f_field_grown : Addr
  f_field_is_joined : Addr
  f_field_cells_in : Addr
  f_bits_of : Addr
  f_fewest : Addr
  f_layers_to : Addr
  f_shortest_chain : Addr
  f_group_sizes : Addr
  f_joining_cells : Addr
  f_game_init : Addr
  f_game_side : Addr
  f_game_stones : Addr
  f_game_empty : Addr
  f_game_player_of : Addr
  f_game_winner : Addr
  f_game_standing : Addr
  f_game_copy : Addr
  f_game_can_put : Addr
  f_game_put_stone : Addr
  f_game_take_back : Addr
  f_searcher_init : Addr
  f_searcher_first_win : Addr
  f_searcher_looked_for : Addr
  f_keeper_init : Addr
  f_refusal_init : Addr
  f_need : Addr
  f_cells_told : Addr
  f_call_begin : Addr
  f_call_play : Addr
  f_call_swap : Addr
  f_call_undo : Addr
  f_call_look : Addr
  f_call_rows : Addr
  f_call_lacks : Addr
  f_call_chain : Addr
  f_call_groups : Addr
  f_call_threats : Addr
  f_call_best : Addr
  f_call_try : Addr
  f_answered : Addr
  f_answers : Addr
  tLENGTHS : Addr
  tCALLS : Addr
/-- what the top has written -/
structure Txt (K : PySem.W.Frag) (mg : Str → Option Value) (A : Ad) : Prop where
  clField : Cls K A.cField
  mkField : Mk K A.cField A.f_field_init
  gField : mg "Field" = some (.ref A.cField)
  nField_size : NoAttr K A.cField "size"
  nField_bits : NoAttr K A.cField "bits"
  nField_all_cells : NoAttr K A.cField "all_cells"
  nField_firsts : NoAttr K A.cField "firsts"
  nField_others : NoAttr K A.cField "others"
  clGame : Cls K A.cGame
  mkGame : Mk K A.cGame A.f_game_init
  gGame : mg "Game" = some (.ref A.cGame)
  nGame_field : NoAttr K A.cGame "field"
  nGame_put : NoAttr K A.cGame "put"
  nGame_is_swapped : NoAttr K A.cGame "is_swapped"
  clSearcher : Cls K A.cSearcher
  mkSearcher : Mk K A.cSearcher A.f_searcher_init
  gSearcher : mg "Searcher" = some (.ref A.cSearcher)
  nSearcher_known : NoAttr K A.cSearcher "known"
  clKeeper : Cls K A.cKeeper
  mkKeeper : Mk K A.cKeeper A.f_keeper_init
  gKeeper : mg "Keeper" = some (.ref A.cKeeper)
  nKeeper_game : NoAttr K A.cKeeper "game"
  nKeeper_searcher : NoAttr K A.cKeeper "searcher"
  ref : PySem.RefX.RefTxt K mg A.cRefusal A.f_refusal_init
  d_field_init : Df K "__init__" "Field.__init__" s_field_init A.f_field_init ["self", "size"]
  d_field_bit : Df K "bit" "Field.bit" s_field_bit A.f_field_bit ["self", "row", "column"]
  m_field_bit : Meth K A.cField "bit" A.f_field_bit
  d_field_place_of : Df K "place_of" "Field.place_of" s_field_place_of A.f_field_place_of ["self", "bit"]
  m_field_place_of : Meth K A.cField "place_of" A.f_field_place_of
  d_field_has : Df K "has" "Field.has" s_field_has A.f_field_has ["self", "row", "column"]
  m_field_has : Meth K A.cField "has" A.f_field_has
  d_field_beside : Df K "beside" "Field.beside" s_field_beside A.f_field_beside ["self", "some"]
  m_field_beside : Meth K A.cField "beside" A.f_field_beside
  d_field_grown : Df K "grown" "Field.grown" s_field_grown A.f_field_grown ["self", "begin", "stones"]
  m_field_grown : Meth K A.cField "grown" A.f_field_grown
  d_field_is_joined : Df K "is_joined" "Field.is_joined" s_field_is_joined A.f_field_is_joined ["self", "side", "stones"]
  m_field_is_joined : Meth K A.cField "is_joined" A.f_field_is_joined
  d_field_cells_in : Df K "cells_in" "Field.cells_in" s_field_cells_in A.f_field_cells_in ["self", "some"]
  m_field_cells_in : Meth K A.cField "cells_in" A.f_field_cells_in
  d_bits_of : Df K "bits_of" "bits_of" s_bits_of A.f_bits_of ["size"]
  g_bits_of : mg "bits_of" = some (.ref A.f_bits_of)
  d_fewest : Df K "fewest" "fewest" s_fewest A.f_fewest ["field", "side", "stones", "empty"]
  g_fewest : mg "fewest" = some (.ref A.f_fewest)
  d_layers_to : Df K "layers_to" "layers_to" s_layers_to A.f_layers_to ["field", "side", "stones"]
  g_layers_to : mg "layers_to" = some (.ref A.f_layers_to)
  d_shortest_chain : Df K "shortest_chain" "shortest_chain" s_shortest_chain A.f_shortest_chain ["field", "side", "stones"]
  g_shortest_chain : mg "shortest_chain" = some (.ref A.f_shortest_chain)
  d_group_sizes : Df K "group_sizes" "group_sizes" s_group_sizes A.f_group_sizes ["field", "stones"]
  g_group_sizes : mg "group_sizes" = some (.ref A.f_group_sizes)
  d_joining_cells : Df K "joining_cells" "joining_cells" s_joining_cells A.f_joining_cells ["field", "side", "stones", "empty"]
  g_joining_cells : mg "joining_cells" = some (.ref A.f_joining_cells)
  d_game_init : Df K "__init__" "Game.__init__" s_game_init A.f_game_init ["self", "size"]
  d_game_side : Df K "side" "Game.side" s_game_side A.f_game_side ["self"]
  m_game_side : Meth K A.cGame "side" A.f_game_side
  d_game_stones : Df K "stones" "Game.stones" s_game_stones A.f_game_stones ["self", "side"]
  m_game_stones : Meth K A.cGame "stones" A.f_game_stones
  d_game_empty : Df K "empty" "Game.empty" s_game_empty A.f_game_empty ["self"]
  m_game_empty : Meth K A.cGame "empty" A.f_game_empty
  d_game_player_of : Df K "player_of" "Game.player_of" s_game_player_of A.f_game_player_of ["self", "side"]
  m_game_player_of : Meth K A.cGame "player_of" A.f_game_player_of
  d_game_winner : Df K "winner" "Game.winner" s_game_winner A.f_game_winner ["self"]
  m_game_winner : Meth K A.cGame "winner" A.f_game_winner
  d_game_standing : Df K "standing" "Game.standing" s_game_standing A.f_game_standing ["self"]
  m_game_standing : Meth K A.cGame "standing" A.f_game_standing
  d_game_copy : Df K "copy" "Game.copy" s_game_copy A.f_game_copy ["self"]
  m_game_copy : Meth K A.cGame "copy" A.f_game_copy
  d_game_can_put : Df K "can_put" "Game.can_put" s_game_can_put A.f_game_can_put ["self", "row", "column"]
  m_game_can_put : Meth K A.cGame "can_put" A.f_game_can_put
  d_game_put_stone : Df K "put_stone" "Game.put_stone" s_game_put_stone A.f_game_put_stone ["self", "row", "column"]
  m_game_put_stone : Meth K A.cGame "put_stone" A.f_game_put_stone
  d_game_take_back : Df K "take_back" "Game.take_back" s_game_take_back A.f_game_take_back ["self"]
  m_game_take_back : Meth K A.cGame "take_back" A.f_game_take_back
  d_searcher_init : Df K "__init__" "Searcher.__init__" s_searcher_init A.f_searcher_init ["self"]
  d_searcher_first_win : Df K "first_win" "Searcher.first_win" s_searcher_first_win A.f_searcher_first_win ["self", "field", "side", "mine", "yours"]
  m_searcher_first_win : Meth K A.cSearcher "first_win" A.f_searcher_first_win
  d_searcher_looked_for : Df K "looked_for" "Searcher.looked_for" s_searcher_looked_for A.f_searcher_looked_for ["self", "field", "side", "mine", "yours"]
  m_searcher_looked_for : Meth K A.cSearcher "looked_for" A.f_searcher_looked_for
  d_keeper_init : Df K "__init__" "Keeper.__init__" s_keeper_init A.f_keeper_init ["self"]
  d_need : Df K "need" "need" s_need A.f_need ["truth", "number"]
  g_need : mg "need" = some (.ref A.f_need)
  d_cells_told : Df K "cells_told" "cells_told" s_cells_told A.f_cells_told ["field", "bits"]
  g_cells_told : mg "cells_told" = some (.ref A.f_cells_told)
  d_call_begin : Df K "call_begin" "call_begin" s_call_begin A.f_call_begin ["keeper", "numbers"]
  g_call_begin : mg "call_begin" = some (.ref A.f_call_begin)
  d_call_play : Df K "call_play" "call_play" s_call_play A.f_call_play ["keeper", "numbers"]
  g_call_play : mg "call_play" = some (.ref A.f_call_play)
  d_call_swap : Df K "call_swap" "call_swap" s_call_swap A.f_call_swap ["keeper", "numbers"]
  g_call_swap : mg "call_swap" = some (.ref A.f_call_swap)
  d_call_undo : Df K "call_undo" "call_undo" s_call_undo A.f_call_undo ["keeper", "numbers"]
  g_call_undo : mg "call_undo" = some (.ref A.f_call_undo)
  d_call_look : Df K "call_look" "call_look" s_call_look A.f_call_look ["keeper", "numbers"]
  g_call_look : mg "call_look" = some (.ref A.f_call_look)
  d_call_rows : Df K "call_rows" "call_rows" s_call_rows A.f_call_rows ["keeper", "numbers"]
  g_call_rows : mg "call_rows" = some (.ref A.f_call_rows)
  d_call_lacks : Df K "call_lacks" "call_lacks" s_call_lacks A.f_call_lacks ["keeper", "numbers"]
  g_call_lacks : mg "call_lacks" = some (.ref A.f_call_lacks)
  d_call_chain : Df K "call_chain" "call_chain" s_call_chain A.f_call_chain ["keeper", "numbers"]
  g_call_chain : mg "call_chain" = some (.ref A.f_call_chain)
  d_call_groups : Df K "call_groups" "call_groups" s_call_groups A.f_call_groups ["keeper", "numbers"]
  g_call_groups : mg "call_groups" = some (.ref A.f_call_groups)
  d_call_threats : Df K "call_threats" "call_threats" s_call_threats A.f_call_threats ["keeper", "numbers"]
  g_call_threats : mg "call_threats" = some (.ref A.f_call_threats)
  d_call_best : Df K "call_best" "call_best" s_call_best A.f_call_best ["keeper", "numbers"]
  g_call_best : mg "call_best" = some (.ref A.f_call_best)
  d_call_try : Df K "call_try" "call_try" s_call_try A.f_call_try ["keeper", "numbers"]
  g_call_try : mg "call_try" = some (.ref A.f_call_try)
  d_answered : Df K "answered" "answered" s_answered A.f_answered ["keeper", "place", "numbers"]
  g_answered : mg "answered" = some (.ref A.f_answered)
  d_answers : Df K "answers" "answers" s_answers A.f_answers ["calls"]
  g_answers : mg "answers" = some (.ref A.f_answers)
  iNOBODY : ∃ t, mg "NOBODY" = some (.int (-1) t)
  iLEAST_SIZE : ∃ t, mg "LEAST_SIZE" = some (.int 2 t)
  iMOST_SIZE : ∃ t, mg "MOST_SIZE" = some (.int 11 t)
  iMOST_SEARCHED : ∃ t, mg "MOST_SEARCHED" = some (.int 4 t)
  iMOST_EMPTY : ∃ t, mg "MOST_EMPTY" = some (.int 9 t)
  iSIDES : ∃ t, mg "SIDES" = some (.int 2 t)
  iBEGIN : ∃ t, mg "BEGIN" = some (.int 0 t)
  iTRY : ∃ t, mg "TRY" = some (.int 11 t)
  b_sum : mg "sum" = none
  b_len : mg "len" = none
  b_int : mg "int" = none
  b_list : mg "list" = none
  b_range : mg "range" = none
  b_reversed : mg "reversed" = none
  gLENGTHS : mg "LENGTHS" = some (.ref A.tLENGTHS)
  gCALLS : mg "CALLS" = some (.ref A.tCALLS)
  sLENGTHS : ∀ H : Hp, SqT K H A.tLENGTHS ([1, 2, 0, 0, 0, 0, 1, 0, 1, 1, 0, 0].map V.int)
  sCALLS : ∀ H : Hp, SqT K H A.tCALLS [.ref A.f_call_begin, .ref A.f_call_play, .ref A.f_call_swap, .ref A.f_call_undo, .ref A.f_call_look, .ref A.f_call_rows, .ref A.f_call_lacks, .ref A.f_call_chain, .ref A.f_call_groups, .ref A.f_call_threats, .ref A.f_call_best, .ref A.f_call_try]
end Hx
/-! W3: how things lie in the heap; Field's methods. -/
namespace Hx
open PySem PySem.Spec PyProof.Rows L2
theorem if_true_of {c : Bool} {A B : Prop} (hc : c = true) (h : A) : if c = true then A else B := by
  rw [if_pos hc]
  exact h
theorem if_false_of {c : Bool} {A B : Prop} (hc : c = false) (h : B) : if c = true then A else B := by
  rw [hc, if_neg Bool.false_ne_true]
  exact h
theorem pgl {X : Cx} {x : Str} {v : Int} {pos : Pos} (h : ∃ t, X.mg x = some (.int v t)) (hg : Gl X x := by rfl) (hd : (x == ("__debug__" : Str)) = false := by decide) : PE X (.Name x pos) (tC (.int v)) := by
  obtain ⟨t, h⟩ := h
  exact pe_glob hg h ⟨_, rfl⟩ hd
theorem Q_eq {Q : VK} {x y : V} {H : Hp} (e : x = y) (h : Q y H) : Q x H := by
  rw [e]
  exact h
/-! ### numbers -/
def vN (x : Nat) : V := .int (x : Int)
def vL (l : List Nat) : List V := l.map vN
theorem vL_int (l : List Nat) : vL l = (l.map fun (x : Nat) => (x : Int)).map V.int := by
  unfold vL
  rw [List.map_map]
  rfl
theorem sum_cast : ∀ l : List Nat, (l.map fun (x : Nat) => (x : Int)).sum = ((l.sum : Nat) : Int)
  | [] => rfl
  | a :: l => by
    rw [List.map_cons, List.sum_cons, List.sum_cons, sum_cast l]
    omega
theorem bitAnd_nat (x y : Nat) : Builtin.bitAnd (x : Int) (y : Int) = ((x &&& y : Nat) : Int) := by
  rw [bitAnd_pp (by omega) (by omega), Int.toNat_natCast, Int.toNat_natCast]
theorem bitOr_nat (x y : Nat) : Builtin.bitOr (x : Int) (y : Int) = ((x ||| y : Nat) : Int) := by
  rw [_root_.Bits.bitOr_pp (by omega) (by omega), Int.toNat_natCast, Int.toNat_natCast]
theorem bitXor_nat (x y : Nat) : Builtin.bitXor (x : Int) (y : Int) = ((x ^^^ y : Nat) : Int) := by
  rw [_root_.Bits.bitXor_pp (by omega) (by omega), Int.toNat_natCast, Int.toNat_natCast]
theorem shl_nat (x k : Nat) : (x : Int) * 2 ^ ((k : Int).toNat) = ((x <<< k : Nat) : Int) := by
  rw [Int.toNat_natCast, Nat.shiftLeft_eq]
  simp
theorem shr_nat (x k : Nat) : (x : Int) / 2 ^ ((k : Int).toNat) = ((x >>> k : Nat) : Int) := by
  rw [Int.toNat_natCast, Nat.shiftRight_eq_div_pow]
  simp
theorem shl_small {x k : Nat} (hx : x < 2 ^ 200) (hk : k ≤ 200) : CShl (x : Int) (k : Int) := shl_ok (n := 200) (by simpa using hx) (by omega)
theorem Bits.small {n S : Nat} {p : Nat → Bool} (h : Bits n S p) (h11 : n ≤ 11) : S < 2 ^ 200 := by
  refine Nat.lt_of_lt_of_le h.lt (Nat.pow_le_pow_right (by decide) ?_)
  have : n * (n + 1) ≤ 11 * 12 := Nat.mul_le_mul h11 (by omega)
  omega
/-! ### operators on numbers that are not negative -/
section
variable {X : Cx}
def rN (f : Nat → Nat → Nat) : R2 := fun x y H Q => ∃ i j : Nat, x = vN i ∧ y = vN j ∧ Q (vN (f i j)) H
def rNB (f : Nat → Nat → Bool) : R2 := fun x y H Q => ∃ i j : Nat, x = vN i ∧ y = vN j ∧ Q (.bl (f i j)) H
theorem op_andN : OpR X (binaryOp .BitAnd) (rN (· &&& ·)) := fun pins s σ H x y v u Q I rx ry ⟨i, j, e1, e2, q⟩ =>
  op_and pins s σ H x y v u Q I rx ry ⟨i, j, e1, e2, Q_eq (congrArg V.int (bitAnd_nat i j)) q⟩
theorem op_orN : OpR X (binaryOp .BitOr) (rN (· ||| ·)) := fun pins s σ H x y v u Q I rx ry ⟨i, j, e1, e2, q⟩ =>
  op_or pins s σ H x y v u Q I rx ry ⟨i, j, e1, e2, Q_eq (congrArg V.int (bitOr_nat i j)) q⟩
theorem op_xorN : OpR X (binaryOp .BitXor) (rN (· ^^^ ·)) := fun pins s σ H x y v u Q I rx ry ⟨i, j, e1, e2, q⟩ =>
  op_xor pins s σ H x y v u Q I rx ry ⟨i, j, e1, e2, Q_eq (congrArg V.int (bitXor_nat i j)) q⟩
theorem vN_dec (i j : Nat) : decide (vN i = vN j) = decide (i = j) := by
  by_cases h : i = j
  · rw [decide_eq_true h, h]
    simp
  · rw [decide_eq_false h]
    exact decide_eq_false fun z => h (by
      have := V.int.inj z
      omega)
theorem op_eqN : OpR X (compareOp .Eq) (rNB fun i j => decide (i = j)) := fun pins s σ H x y v u Q I rx ry ⟨i, j, e1, e2, q⟩ => by
  subst e1 e2
  exact op_eq pins s σ H _ _ v u Q I rx ry ⟨rfl, Q_eq (congrArg V.bl (vN_dec i j)) q⟩
theorem op_neN : OpR X (compareOp .NotEq) (rNB fun i j => !decide (i = j)) := fun pins s σ H x y v u Q I rx ry ⟨i, j, e1, e2, q⟩ => by
  subst e1 e2
  exact op_ne pins s σ H _ _ v u Q I rx ry ⟨rfl, Q_eq (congrArg V.bl (congrArg not (vN_dec i j))) q⟩
theorem op_ltN : OpR X (compareOp .Lt) (rNB fun i j => decide (i < j)) := fun pins s σ H x y v u Q I rx ry ⟨i, j, e1, e2, q⟩ =>
  op_lt pins s σ H x y v u Q I rx ry ⟨i, j, e1, e2, Q_eq (congrArg V.bl (by simp)) q⟩
theorem op_leN : OpR X (compareOp .LtE) (rNB fun i j => decide (i ≤ j)) := fun pins s σ H x y v u Q I rx ry ⟨i, j, e1, e2, q⟩ =>
  op_le pins s σ H x y v u Q I rx ry ⟨i, j, e1, e2, Q_eq (congrArg V.bl (by simp)) q⟩
theorem op_gtN : OpR X (compareOp .Gt) (rNB fun i j => decide (j < i)) := fun pins s σ H x y v u Q I rx ry ⟨i, j, e1, e2, q⟩ =>
  op_gt pins s σ H x y v u Q I rx ry ⟨i, j, e1, e2, Q_eq (congrArg V.bl (by simp)) q⟩
end
/-! ### edges -/
def firstN (n : Nat) (w : Bool) : Nat := if w = true then (pows n ((List.range n).map (n * ·))).sum else (pows n (List.range n)).sum
def otherN (n : Nat) (w : Bool) : Nat := if w = true then (pows n ((List.range n).map fun k => n - 1 + n * k)).sum else (pows n ((List.range n).map fun k => n * n - n + k)).sum
theorem step_nodup {n c d : Nat} (hd : 0 < d) : ((List.range n).map fun k => c + d * k).Nodup := by
  unfold List.Nodup
  rw [List.pairwise_map]
  refine List.Pairwise.imp ?_ List.pairwise_lt_range
  intro a b hab e
  have : d * a < d * b := Nat.mul_lt_mul_of_pos_left hab hd
  omega
theorem sq_sub {n : Nat} (h : 0 < n) : n * n - n = (n - 1) * n := by
  obtain ⟨k, rfl⟩ : ∃ k, n = k + 1 := ⟨n - 1, by omega⟩
  rw [Nat.add_sub_cancel, Nat.succ_mul]
  omega
theorem firstN_bits {n : Nat} (h0 : 0 < n) (w : Bool) : Bits n (firstN n w) (firstP n w) := by
  cases w with
  | true =>
    refine (Bits.sum h0 (by have := step_nodup (n := n) (c := 0) (d := n) h0; simpa using this) fun i hi => ?_).congr fun i hi => ?_
    · obtain ⟨k, hk, rfl⟩ := List.mem_map.mp hi
      have := rc_lt (n := n) (r := k) (c := 0) (List.mem_range.mp hk) h0
      rw [Nat.mul_comm]
      omega
    · rw [Bool.eq_iff_iff, List.contains_iff_mem]
      show _ ↔ (i % n == 0) = true
      rw [List.mem_map, beq_iff_eq]
      constructor
      · rintro ⟨k, hk, rfl⟩
        exact Nat.mul_mod_right n k
      · intro e
        refine ⟨i / n, List.mem_range.mpr (row_lt hi), ?_⟩
        have := Nat.div_add_mod i n
        omega
  | false =>
    refine (Bits.sum h0 List.nodup_range fun i hi => ?_).congr fun i hi => ?_
    · have := List.mem_range.mp hi
      have := Nat.le_mul_of_pos_left n h0
      omega
    · rw [Bool.eq_iff_iff, List.contains_iff_mem]
      show _ ↔ (i / n == 0) = true
      rw [List.mem_range, beq_iff_eq, Nat.div_eq_zero_iff]
      omega
theorem otherN_bits {n : Nat} (h0 : 0 < n) (w : Bool) : Bits n (otherN n w) (otherP n w) := by
  cases w with
  | true =>
    refine (Bits.sum h0 (step_nodup h0) fun i hi => ?_).congr fun i hi => ?_
    · obtain ⟨k, hk, rfl⟩ := List.mem_map.mp hi
      have := rc_lt (n := n) (r := k) (c := n - 1) (List.mem_range.mp hk) (by omega)
      rw [Nat.mul_comm n k]
      omega
    · rw [Bool.eq_iff_iff, List.contains_iff_mem]
      show _ ↔ (i % n + 1 == n) = true
      rw [List.mem_map, beq_iff_eq]
      constructor
      · rintro ⟨k, hk, rfl⟩
        rw [Nat.add_comm (n - 1), Nat.mul_add_mod, Nat.mod_eq_of_lt (by omega)]
        omega
      · intro e
        refine ⟨i / n, List.mem_range.mpr (row_lt hi), ?_⟩
        have := Nat.div_add_mod i n
        omega
  | false =>
    have e := sq_sub h0
    refine (Bits.sum h0 (by have := step_nodup (n := n) (c := n * n - n) (d := 1) (by decide); simpa using this) fun i hi => ?_).congr fun i hi => ?_
    · obtain ⟨k, hk, rfl⟩ := List.mem_map.mp hi
      have := rc_lt (n := n) (r := n - 1) (c := k) (by omega) (List.mem_range.mp hk)
      omega
    · rw [Bool.eq_iff_iff, List.contains_iff_mem]
      show _ ↔ (i / n + 1 == n) = true
      rw [List.mem_map, beq_iff_eq]
      constructor
      · rintro ⟨k, hk, rfl⟩
        rw [e, rc_div (List.mem_range.mp hk)]
        omega
      · intro h
        refine ⟨i % n, List.mem_range.mpr (col_lt h0), ?_⟩
        rw [e]
        have := cell_rc (n := n) i
        have h' : n - 1 = i / n := by omega
        rw [h']
        omega
def sI (w : Bool) : Int := if w = true then 1 else 0
/-! ### instances -/
theorem lk_here {k : Str} {v : V} {r : List (Str × V)} : List.lookup k ((k, v) :: r) = some v := by
  have e : (k == k) = true := beq_self_eq_true k
  simp only [List.lookup, e]
theorem lk_past {k g : Str} {v : V} {r : List (Str × V)} (h : (k == g) = false) : List.lookup k ((g, v) :: r) = List.lookup k r := by
  simp only [List.lookup, h]
theorem put_here {f : Str} {v x : V} {r : List (Str × V)} : putF f v ((f, x) :: r) = (f, v) :: r := if_pos rfl
theorem put_past {f g : Str} {v x : V} {r : List (Str × V)} (h : ¬ g = f) : putF f v ((g, x) :: r) = (g, x) :: putF f v r := if_neg h
def fF (n : Nat) (lb lf lo : Addr) : List (Str × V) := [("size", vN n), ("bits", .ref lb), ("all_cells", vN (allC n)), ("firsts", .ref lf), ("others", .ref lo)]
section
variable {n : Nat} {lb lf lo : Addr}
theorem fF_size : (fF n lb lf lo).lookup ("size" : Str) = some (vN n) := lk_here
theorem fF_bits : (fF n lb lf lo).lookup ("bits" : Str) = some (.ref lb) := (lk_past (by decide +kernel)).trans lk_here
theorem fF_all : (fF n lb lf lo).lookup ("all_cells" : Str) = some (vN (allC n)) := (lk_past (by decide +kernel)).trans ((lk_past (by decide +kernel)).trans lk_here)
theorem fF_firsts : (fF n lb lf lo).lookup ("firsts" : Str) = some (.ref lf) := (lk_past (by decide +kernel)).trans ((lk_past (by decide +kernel)).trans ((lk_past (by decide +kernel)).trans lk_here))
theorem fF_others : (fF n lb lf lo).lookup ("others" : Str) = some (.ref lo) := (lk_past (by decide +kernel)).trans ((lk_past (by decide +kernel)).trans ((lk_past (by decide +kernel)).trans ((lk_past (by decide +kernel)).trans lk_here)))
theorem fF_none {m : Str} (h : ((m == ("size" : Str)) || (m == ("bits" : Str)) || (m == ("all_cells" : Str)) || (m == ("firsts" : Str)) || (m == ("others" : Str))) = false := by decide +kernel) : (fF n lb lf lo).lookup m = none := by
  simp only [Bool.or_eq_false_iff] at h
  obtain ⟨⟨⟨⟨h1, h2⟩, h3⟩, h4⟩, h5⟩ := h
  exact (lk_past h1).trans ((lk_past h2).trans ((lk_past h3).trans ((lk_past h4).trans ((lk_past h5).trans rfl))))
end
structure FieldAt (A : Ad) (H : Hp) (a : Addr) (n : Nat) (lb lf lo : Addr) : Prop where
  at_ : ∃ dx, H a = some (.ins A.cField dx (fF n lb lf lo))
  bits : H lb = some (.lst (vL (bitsL n)))
  fst : H lf = some (.lst [vN (firstN n false), vN (firstN n true)])
  oth : H lo = some (.lst [vN (otherN n false), vN (otherN n true)])
  n2 : 2 ≤ n
  n11 : n ≤ 11
def FieldR (A : Ad) (H : Hp) (a : Addr) (n : Nat) : Prop := ∃ lb lf lo, FieldAt A H a n lb lf lo
theorem FieldAt.same {A : Ad} {H H' : Hp} {a : Addr} {n : Nat} {lb lf lo : Addr} (F : FieldAt A H a n lb lf lo) (s : Same H H') : FieldAt A H' a n lb lf lo := by
  obtain ⟨⟨dx, h1⟩, h2, h3, h4, h5, h6⟩ := F
  exact ⟨⟨dx, s _ _ h1⟩, s _ _ h2, s _ _ h3, s _ _ h4, h5, h6⟩
theorem FieldR.same {A : Ad} {H H' : Hp} {a : Addr} {n : Nat} (F : FieldR A H a n) (s : Same H H') : FieldR A H' a n := by
  obtain ⟨lb, lf, lo, F⟩ := F
  exact ⟨lb, lf, lo, F.same s⟩
theorem side_at {x y : Nat} (w : Bool) : atI [vN x, vN y] (sI w) = some (vN (if w = true then y else x)) := by
  cases w
  · exact atI_nat (j := 0) (by rfl)
  · exact atI_nat (j := 1) (by rfl)
/-! ### promises of Field's methods -/
def sp_field_bit (A : Ad) : Sp := fun vs H Q _ => ∃ (a : Addr) (n r c : Nat), vs = [.ref a, vN r, vN c] ∧ FieldR A H a n ∧ r < n ∧ c < n ∧ Q (vN (2 ^ bidx n (r * n + c))) H
def sp_field_place_of (A : Ad) : Sp := fun vs H Q _ => ∃ (a : Addr) (n i : Nat), vs = [.ref a, vN (2 ^ bidx n i)] ∧ FieldR A H a n ∧ i < n * n ∧ ∀ p, H p = none → Q (.ref p) (upd H p (.lst [vN (i / n), vN (i % n)]))
def sp_field_has (A : Ad) : Sp := fun vs H Q _ => ∃ (a : Addr) (n r c : Nat), vs = [.ref a, vN r, vN c] ∧ FieldR A H a n ∧ Q (.bl (decide (r < n) && decide (c < n))) H
def sp_field_beside (A : Ad) : Sp := fun vs H Q _ => ∃ (a : Addr) (n S : Nat) (p : Nat → Bool), vs = [.ref a, vN S] ∧ FieldR A H a n ∧ Bits n S p ∧ Q (vN (besideN n (allC n) S)) H
def sp_field_grown (A : Ad) : Sp := fun vs H Q _ => ∃ (a : Addr) (n b S : Nat) (st q : Nat → Bool), vs = [.ref a, vN b, vN S] ∧ FieldR A H a n ∧ Bits n b st ∧ Bits n S q ∧ ∀ R, Bits n R (grownP n st q) → Q (vN R) H
def sp_field_is_joined (A : Ad) : Sp := fun vs H Q _ => ∃ (a : Addr) (n S : Nat) (w : Bool) (p : Nat → Bool), vs = [.ref a, .int (sI w), vN S] ∧ FieldR A H a n ∧ Bits n S p ∧ Q (.bl (joinB n w p)) H
/-- the cells of a set, by their numbers, in order -/
def cellsL (n : Nat) (p : Nat → Bool) : List Nat := pows n ((List.range (n * n)).filter p)
def sp_field_cells_in (A : Ad) : Sp := fun vs H Q _ => ∃ (a : Addr) (n S : Nat) (p : Nat → Bool), vs = [.ref a, vN S] ∧ FieldR A H a n ∧ Bits n S p ∧ ∀ l, H l = none → Q (.ref l) (upd H l (.lst (vL (cellsL n p))))
section
variable {P : Program} {w : World} {K : PySem.W.Frag} {mg : Str → Option Value} {base : Heap} {A : Ad}
theorem sc_field_bit : FnScope ["self", "row", "column"] ["self", "row", "column"] (defScope s_field_bit) := ⟨rfl, rfl, rfl, by decide +kernel, rfl, by decide +kernel, by decide +kernel⟩
theorem ok_field_bit (T : Txt K mg A) : Kp P w K mg base CX0 1 A.f_field_bit ["self", "row", "column"] (sp_field_bit A) := by
  refine T.d_field_bit.ok sc_field_bit (fun vs H Q E h => ?_) (fun cdv A' outer s H vs Q E hr h => ?_)
  · obtain ⟨a, n, r, c, rfl, _⟩ := h
    rfl
  obtain ⟨a, n, r, c, rfl, ⟨lb, lf, lo, F⟩, hr', hc', q⟩ := h
  obtain ⟨dx, h1⟩ := F.at_
  refine ⟨_, (pss_one (ps_ret (pe_op op_shlW pe_int (pe_op op_add (pe_op op_mul (pv 1) (pe_op op_add (pe_fld (pv 0) rfl) pe_int)) (pv 2))))), ?_⟩
  have n11 := F.n11
  have e : (r : Int) * ((n : Int) + 1) + (c : Int) = ((r * (n + 1) + c : Nat) : Int) := by simp
  have hb : r * (n + 1) + c ≤ 200 := by
    have : r * (n + 1) ≤ 11 * 12 := Nat.mul_le_mul (by omega) (by omega)
    omega
  have hs : CShl 1 ((r : Int) * ((n : Int) + 1) + (c : Int)) := by
    rw [e]
    exact shl_small (x := 1) (by decide) hb
  refine ⟨_, rfl, _, rfl, a, A.cField, dx, _, _, rfl, h1, T.clField, T.nField_size, fF_size, _, _, rfl, rfl, _, _, rfl, rfl, .inl ⟨by omega, by omega⟩, _, rfl, _, _, rfl, rfl, 1, _, rfl, rfl, hs, ?_⟩
  have e2 : (1 : Int) * 2 ^ ((r : Int) * ((n : Int) + 1) + (c : Int)).toNat = ((2 ^ bidx n (r * n + c) : Nat) : Int) := by
    rw [e, Int.toNat_natCast, bidx_rc hc']
    simp
  exact Q_eq (congrArg V.int e2) q
end
end Hx
/-! W4: Field's methods, further. -/
namespace Hx
open PySem PySem.Spec PyProof.Rows L2
theorem intBits_pow (k : Nat) : Builtin.Int.intBits ((2 ^ k : Nat) : Int) = k + 1 := by
  unfold Builtin.Int.intBits
  have h : 0 < 2 ^ k := Nat.two_pow_pos k
  have h1 : ¬ (((2 ^ k : Nat) : Int) == 0) = true := by
    rw [beq_iff_eq]
    omega
  rw [if_neg h1, Int.natAbs_natCast, Nat.log2_two_pow]
theorem fdiv_nat (a b : Nat) : ((a : Int)).fdiv (b : Int) = ((a / b : Nat) : Int) := by
  rw [Int.fdiv_eq_ediv_of_nonneg _ (by omega)]
  rfl
theorem fmod_nat (a b : Nat) : ((a : Int)).fmod (b : Int) = ((a % b : Nat) : Int) := by
  rw [Int.fmod_eq_emod_of_nonneg _ (by omega)]
  rfl
theorem upd_upd {H : Hp} {a : Addr} {o o' : HO} : upd (upd H a o) a o' = upd H a o' := by
  funext b
  by_cases h : b = a
  · subst h
    rw [upd_same, upd_same]
  · rw [upd_ne h, upd_ne h, upd_ne h]
theorem same_new {H : Hp} {p : Addr} (h : H p = none) (o : HO) : Same H (upd H p o) := fun b u q => by
  rw [upd_ne (ne_of_none q h)]
  exact q
theorem first_at {n : Nat} (wh : Bool) : atI [vN (firstN n false), vN (firstN n true)] (sI wh) = some (vN (firstN n wh)) := by
  rw [side_at]
  cases wh <;> rfl
theorem other_at {n : Nat} (wh : Bool) : atI [vN (otherN n false), vN (otherN n true)] (sI wh) = some (vN (otherN n wh)) := by
  rw [side_at]
  cases wh <;> rfl
section
variable {P : Program} {w : World} {K : PySem.W.Frag} {mg : Str → Option Value} {base : Heap} {A : Ad}
theorem sc_field_place_of : FnScope ["self", "bit", "number"] ["self", "bit"] (defScope s_field_place_of) := ⟨rfl, rfl, rfl, by decide +kernel, rfl, by decide +kernel, by decide +kernel⟩
theorem ok_field_place_of (T : Txt K mg A) : Kp P w K mg base CX0 1 A.f_field_place_of ["self", "bit"] (sp_field_place_of A) := by
  refine T.d_field_place_of.ok sc_field_place_of (fun vs H Q E h => ?_) (fun cdv A' outer s H vs Q E hr h => ?_)
  · obtain ⟨a, n, i, rfl, _⟩ := h
    rfl
  obtain ⟨a, n, i, rfl, ⟨lb, lf, lo, F⟩, hi, q⟩ := h
  obtain ⟨dx, h1⟩ := F.at_
  refine ⟨_, (pss_cons (ps_set (i := 2) sc_field_place_of.nd rfl (Or.inl rfl) (pe_op op_sub (pe_bits (pv 1)) pe_int))
      (pss_one (ps_ret (pe_lst (pa_cons (pe_op op_fdivN (pv 2) (pe_op op_add (pe_fld (pv 0) rfl) pe_int)) (pa_cons (pe_op op_modN (pv 2) (pe_op op_add (pe_fld (pv 0) rfl) pe_int)) pa_nil)))))), ?_⟩
  have n11 := F.n11
  refine ⟨_, rfl, _, rfl, _, _, rfl, rfl, ?_⟩
  refine ⟨_, rfl, _, rfl, a, A.cField, dx, _, _, rfl, h1, T.clField, T.nField_size, fF_size, _, _, rfl, rfl, _, _, rfl, rfl, ⟨by omega, by omega⟩, ?_⟩
  refine ⟨_, rfl, _, rfl, a, A.cField, dx, _, _, rfl, h1, T.clField, T.nField_size, fF_size, _, _, rfl, rfl, _, _, rfl, rfl, by omega, (by show 2 ≤ sizeLine; decide), fun p hp => ?_⟩
  have hn : 0 < n := by have := F.n2; omega
  have hc := col_lt (i := i) hn
  have e0 : ((Builtin.Int.intBits ((2 ^ bidx n i : Nat) : Int) : Nat) : Int) - 1 = ((bidx n i : Nat) : Int) := by
    rw [intBits_pow]
    omega
  have e1 : (((Builtin.Int.intBits ((2 ^ bidx n i : Nat) : Int) : Nat) : Int) - 1).fdiv ((n : Int) + 1) = ((i / n : Nat) : Int) := by
    rw [e0]
    refine (fdiv_nat (bidx n i) (n + 1)).trans ?_
    unfold bidx
    rw [rc_div (by omega)]
  have e2 : (((Builtin.Int.intBits ((2 ^ bidx n i : Nat) : Int) : Nat) : Int) - 1).fmod ((n : Int) + 1) = ((i % n : Nat) : Int) := by
    rw [e0]
    refine (fmod_nat (bidx n i) (n + 1)).trans ?_
    unfold bidx
    rw [rc_mod (by omega)]
  have z := q p hp
  have e3 : [vN (i / n), vN (i % n)] = [V.int ((((Builtin.Int.intBits ((2 ^ bidx n i : Nat) : Int) : Nat) : Int) - 1).fdiv ((n : Int) + 1)), V.int ((((Builtin.Int.intBits ((2 ^ bidx n i : Nat) : Int) : Nat) : Int) - 1).fmod ((n : Int) + 1))] := by
    rw [e1, e2]
    rfl
  rw [e3] at z
  exact z
theorem sc_field_has : FnScope ["self", "row", "column"] ["self", "row", "column"] (defScope s_field_has) := ⟨rfl, rfl, rfl, by decide +kernel, rfl, by decide +kernel, by decide +kernel⟩
theorem ok_field_has (T : Txt K mg A) : Kp P w K mg base CX0 1 A.f_field_has ["self", "row", "column"] (sp_field_has A) := by
  refine T.d_field_has.ok sc_field_has (fun vs H Q E h => ?_) (fun cdv A' outer s H vs Q E hr h => ?_)
  · obtain ⟨a, n, r, c, rfl, _⟩ := h
    rfl
  obtain ⟨a, n, r, c, rfl, ⟨lb, lf, lo, F⟩, q⟩ := h
  obtain ⟨dx, h1⟩ := F.at_
  refine ⟨_, (pss_one (ps_ret (pe_and (pe_cmpR op_lt (pv 1) (pe_fld (pv 0) rfl) (nomark _)) (pe_one (pe_cmpR op_lt (pv 2) (pe_fld (pv 0) rfl) (nomark _)))))), ?_⟩
  refine ⟨_, rfl, _, rfl, a, A.cField, dx, _, _, rfl, h1, T.clField, T.nField_size, fF_size, _, _, rfl, rfl, _, rfl, ?_⟩
  have e1 : decide ((r : Int) < (n : Int)) = decide (r < n) := by simp
  have e2 : decide ((c : Int) < (n : Int)) = decide (c < n) := by simp
  rw [e1]
  by_cases z : r < n
  · refine if_true_of (decide_eq_true z) ?_
    refine ⟨_, rfl, _, rfl, a, A.cField, dx, _, _, rfl, h1, T.clField, T.nField_size, fF_size, _, _, rfl, rfl, ?_⟩
    refine Q_eq (congrArg V.bl ?_) q
    rw [decide_eq_true z, Bool.true_and]
    exact e2
  · refine if_false_of (decide_eq_false z) ?_
    refine Q_eq (congrArg V.bl ?_) q
    rw [decide_eq_false z, Bool.false_and]
theorem sc_field_beside : FnScope ["self", "some", "down", "near"] ["self", "some"] (defScope s_field_beside) := ⟨rfl, rfl, rfl, by decide +kernel, rfl, by decide +kernel, by decide +kernel⟩
theorem ok_field_beside (T : Txt K mg A) : Kp P w K mg base CX0 1 A.f_field_beside ["self", "some"] (sp_field_beside A) := by
  refine T.d_field_beside.ok sc_field_beside (fun vs H Q E h => ?_) (fun cdv A' outer s H vs Q E hr h => ?_)
  · obtain ⟨a, n, S, p, rfl, _⟩ := h
    rfl
  obtain ⟨a, n, S, p, rfl, ⟨lb, lf, lo, F⟩, hb, q⟩ := h
  obtain ⟨dx, h1⟩ := F.at_
  refine ⟨_, (pss_cons (ps_set (i := 2) sc_field_beside.nd rfl (Or.inl rfl) (pe_op op_add (pe_fld (pv 0) rfl) pe_int))
      (pss_cons (ps_set (i := 3) sc_field_beside.nd rfl (Or.inl rfl) (pe_op op_or (pe_op op_or (pe_op op_or (pe_op op_shlW (pv 1) pe_int) (pe_op op_shr (pv 1) pe_int)) (pe_op op_shlW (pv 1) (pv 2))) (pe_op op_shr (pv 1) (pv 2))))
      (pss_one (ps_ret (pe_op op_and (pe_op op_or (pe_op op_or (pv 3) (pe_op op_shlW (pv 1) (pe_op op_sub (pv 2) pe_int))) (pe_op op_shr (pv 1) (pe_op op_sub (pv 2) pe_int))) (pe_fld (pv 0) rfl)))))), ?_⟩
  have n11 := F.n11
  have hS := hb.small n11
  refine ⟨_, rfl, a, A.cField, dx, _, _, rfl, h1, T.clField, T.nField_size, fF_size, _, _, rfl, rfl, ?_⟩
  have d1 : (n : Int) + 1 = ((n + 1 : Nat) : Int) := by omega
  have d2 : (n : Int) + 1 - 1 = ((n : Nat) : Int) := by omega
  have c1 : CShl (S : Int) 1 := shl_small (k := 1) hS (by omega)
  have c2 : CShl (S : Int) ((n : Int) + 1) := by
    rw [d1]
    exact shl_small hS (by omega)
  have c3 : CShl (S : Int) ((n : Int) + 1 - 1) := by
    rw [d2]
    exact shl_small hS (by omega)
  have g2 : (0 : Int) ≤ (n : Int) + 1 := by omega
  have g3 : (0 : Int) ≤ (n : Int) + 1 - 1 := by omega
  refine ⟨_, rfl, _, _, rfl, rfl, c1, _, rfl, _, _, rfl, rfl, by omega, _, _, rfl, rfl, _, rfl, _, rfl, _, _, rfl, rfl, c2, _, _, rfl, rfl, _, rfl, _, rfl, _, _, rfl, rfl, g2, _, _, rfl, rfl, ?_⟩
  refine ⟨_, rfl, _, rfl, _, rfl, _, _, rfl, rfl, _, _, rfl, rfl, c3, _, _, rfl, rfl, _, rfl, _, rfl, _, _, rfl, rfl, _, _, rfl, rfl, g3, _, _, rfl, rfl, _, rfl, a, A.cField, dx, _, _, rfl, h1, T.clField, T.nField_all_cells, fF_all, _, _, rfl, rfl, ?_⟩
  refine Q_eq (congrArg V.int ?_) q
  have s1 : (S : Int) * (2 : Int) ^ (1 : Int).toNat = ((S <<< 1 : Nat) : Int) := shl_nat S 1
  have s2 : (S : Int) / (2 : Int) ^ (1 : Int).toNat = ((S >>> 1 : Nat) : Int) := shr_nat S 1
  have s3 : (S : Int) * 2 ^ ((n : Int) + 1).toNat = ((S <<< (n + 1) : Nat) : Int) := shl_nat S (n + 1)
  have s4 : (S : Int) / 2 ^ ((n : Int) + 1).toNat = ((S >>> (n + 1) : Nat) : Int) := shr_nat S (n + 1)
  have s5 : (S : Int) * 2 ^ ((n : Int) + 1 - 1).toNat = ((S <<< n : Nat) : Int) := by
    rw [d2]
    exact shl_nat S n
  have s6 : (S : Int) / 2 ^ ((n : Int) + 1 - 1).toNat = ((S >>> n : Nat) : Int) := by
    rw [d2]
    exact shr_nat S n
  rw [s1, s2, s3, s4, s5, s6]
  rw [bitOr_nat, bitOr_nat, bitOr_nat, bitOr_nat, bitOr_nat, bitAnd_nat]
  rfl
theorem sc_field_grown : FnScope ["self", "begin", "stones", "found", "more"] ["self", "begin", "stones"] (defScope s_field_grown) := ⟨rfl, rfl, rfl, by decide +kernel, rfl, by decide +kernel, by decide +kernel⟩
theorem ok_field_grown (T : Txt K mg A) : Kp P w K mg base CX0 2 A.f_field_grown ["self", "begin", "stones"] (sp_field_grown A) := by
  refine T.d_field_grown.ok sc_field_grown (fun vs H Q E h => ?_) (fun cdv A' outer s H vs Q E hr h => ?_)
  · obtain ⟨a, n, b, S, st, q, rfl, _⟩ := h
    rfl
  obtain ⟨a, n, b, S, st, qq, rfl, FR, hb, hS, q⟩ := h
  obtain ⟨lb, lf, lo, F⟩ := id FR
  obtain ⟨dx, h1⟩ := F.at_
  have n0 : 0 < n := by have := F.n2; omega
  refine ⟨_, (pss_cons (ps_set (i := 3) sc_field_grown.nd rfl (Or.inl rfl) (pv 1))
      (pss_cons (ps_set (i := 4) sc_field_grown.nd rfl (Or.inl rfl) (pe_op op_or (pv 3) (pe_op op_and (pm (pv 0) T.clField T.m_field_beside (ok_field_beside T) hr (pa_cons (pv 3) pa_nil)) (pv 2))))
      (pss_cons (ps_while PassesOwn.never (pt_cmpR op_ne (pv 4) (pv 3) (nomark _)) (pss_cons (ps_set (i := 3) sc_field_grown.nd rfl (Or.inl rfl) (pv 4))
      (pss_one (ps_set (i := 4) sc_field_grown.nd rfl (Or.inl rfl) (pe_op op_or (pv 3) (pe_op op_and (pm (pv 0) T.clField T.m_field_beside (ok_field_beside T) hr (pa_cons (pv 3) pa_nil)) (pv 2)))))))
      (pss_one (ps_ret (pv 3)))))), ?_⟩
  -- one step, from a set that is not yet closed
  have big : ∀ {f : Nat}, GrowIn n st qq f → f < 2 ^ 200 := fun ⟨r, hr, _⟩ => hr.small F.n11
  have one : ∀ (f : Nat), Builtin.bitOr (f : Int) (Builtin.bitAnd ((besideN n (allC n) f : Nat) : Int) (S : Int)) = ((stepN n (allC n) S f : Nat) : Int) := fun f => by
    rw [bitAnd_nat, bitOr_nat]
    rfl
  refine ⟨_, rfl, ?_⟩
  refine ⟨_, rfl, _, rfl, a, dx, _, rfl, h1, fF_none, _, rfl, a, n, b, st, rfl, FR, hb, _, rfl, _, _, rfl, rfl, _, _, rfl, rfl, ?_⟩
  refine while_by (fun σ H' => H' = H ∧ ∃ f : Nat, σ = [some (.ref a), some (vN b), some (vN S), some (vN f), some (vN (stepN n (allC n) S f))] ∧ GrowIn n st qq f)
    (fun σ _ => match σ with
      | [_, _, _, some (.int f), _] => 2 ^ 200 - f.toNat
      | _ => 0) ⟨rfl, b, ?_, GrowIn.start hb⟩ ?_ ?_
  · exact congrArg (fun z => [some (.ref a), some (vN b), some (vN S), some (vN b), some (V.int z)]) (one b)
  · rintro σ H' ⟨rfl, f, rfl, g⟩
    refine ⟨_, rfl, _, rfl, rfl, _, rfl, ?_⟩
    by_cases c : stepN n (allC n) S f = f
    · refine if_false_of ?_ ?_
      · rw [c]
        simp
      · exact ⟨_, rfl, q f (g.stop n0 hS c)⟩
    · refine if_true_of ?_ ?_
      · have : ¬ vN (stepN n (allC n) S f) = vN f := fun z => c (by
          have := V.int.inj z
          omega)
        simp [this]
      · have g2 := g.turn n0 hS
        obtain ⟨r2, hr2, _⟩ := id g2
        refine ⟨_, rfl, ?_⟩
        refine ⟨_, rfl, _, rfl, a, dx, _, rfl, h1, fF_none, _, rfl, a, n, _, r2, rfl, FR, hr2, _, rfl, _, _, rfl, rfl, _, _, rfl, rfl, ?_⟩
        refine ⟨⟨rfl, stepN n (allC n) S f, ?_, g2⟩, ?_⟩
        · exact congrArg (fun z => [some (.ref a), some (vN b), some (vN S), some (vN (stepN n (allC n) S f)), some (V.int z)]) (one _)
        · show 2 ^ 200 - ((stepN n (allC n) S f : Nat) : Int).toNat < 2 ^ 200 - (f : Int).toNat
          have h3 := stepN_ge n (allC n) S f
          have h4 := big g2
          rw [Int.toNat_natCast, Int.toNat_natCast]
          omega
  · rintro σ H' Q1 Q2 imp ⟨v, hv, v2, hv2, e, k, hk, h⟩
    exact ⟨v, hv, v2, hv2, e, k, hk, imp _ _ h⟩
theorem sc_field_is_joined : FnScope ["self", "side", "stones"] ["self", "side", "stones"] (defScope s_field_is_joined) := ⟨rfl, rfl, rfl, by decide +kernel, rfl, by decide +kernel, by decide +kernel⟩
theorem ok_field_is_joined (T : Txt K mg A) : Kp P w K mg base CX0 3 A.f_field_is_joined ["self", "side", "stones"] (sp_field_is_joined A) := by
  refine T.d_field_is_joined.ok sc_field_is_joined (fun vs H Q E h => ?_) (fun cdv A' outer s H vs Q E hr h => ?_)
  · obtain ⟨a, n, S, w, p, rfl, _⟩ := h
    rfl
  obtain ⟨a, n, S, wh, p, rfl, FR, hS, q⟩ := h
  obtain ⟨lb, lf, lo, F⟩ := id FR
  obtain ⟨dx, h1⟩ := F.at_
  have n0 : 0 < n := by have := F.n2; omega
  refine ⟨_, (pss_one (ps_ret (pe_cmpR op_neN (pe_op op_andN (pm (pv 0) T.clField T.m_field_grown (ok_field_grown T) hr (pa_cons (pe_op op_andN (pv 2) (pe_ix ix_list (pe_fld (pv 0) rfl) (pv 1) (fun _ _ => rfl))) (pa_cons (pv 2) pa_nil))) (pe_ix ix_list (pe_fld (pv 0) rfl) (pv 1) (fun _ _ => rfl))) pe_int (nomark _)))), ?_⟩
  refine ⟨_, rfl, a, dx, _, rfl, h1, fF_none, _, rfl, _, rfl, a, A.cField, dx, _, _, rfl, h1, T.clField, T.nField_firsts, fF_firsts, _, rfl, lf, _, _, _, rfl, rfl, SqL.of F.fst, first_at wh, _, _, rfl, rfl, _, rfl, a, n, S &&& firstN n wh, S, _, p, rfl, FR, hS.and (firstN_bits n0 wh), hS, fun R hR => ?_⟩
  refine ⟨_, rfl, a, A.cField, dx, _, _, rfl, h1, T.clField, T.nField_others, fF_others, _, rfl, lo, _, _, _, rfl, rfl, SqL.of F.oth, other_at wh, _, _, rfl, rfl, _, 0, rfl, rfl, ?_⟩
  refine Q_eq (congrArg V.bl ?_) q
  rw [← grown_join hR (otherN_bits n0 wh)]
  simp
end
end Hx
/-! W5: cells_in, bits_of, Field.__init__. -/
namespace Hx
open PySem PySem.Spec PyProof.Rows L2
theorem take_more {α : Type} : ∀ {l : List α} {i : Nat} {x : α}, l[i]? = some x → l.take (i + 1) = l.take i ++ [x]
  | [], i, x, h => by simp at h
  | a :: l, 0, x, h => by
    have e : a = x := Option.some.inj h
    subst e
    rfl
  | a :: l, i + 1, x, h => by
    have ih := take_more (l := l) (i := i) (x := x) h
    show a :: l.take (i + 1) = a :: l.take i ++ [x]
    rw [ih]
    rfl
theorem ite_of {c c' : Bool} (e : c = c') {A B : Prop} (h : if c' = true then A else B) : if c = true then A else B := by
  rw [e]
  exact h
theorem vL_append (l m : List Nat) : vL (l ++ m) = vL l ++ vL m := List.map_append
theorem pows_append (n : Nat) (l m : List Nat) : pows n (l ++ m) = pows n l ++ pows n m := List.map_append
theorem vL_len (l : List Nat) : (vL l).length = l.length := List.length_map _
theorem pows_len (n : Nat) (l : List Nat) : (pows n l).length = l.length := List.length_map _
theorem bitsL_len (n : Nat) : (bitsL n).length = n * n := by
  unfold bitsL
  rw [pows_len, List.length_range]
theorem bitsL_at {n i : Nat} {x : V} (h : (vL (bitsL n))[i]? = some x) : i < n * n ∧ x = vN (2 ^ bidx n i) ∧ (List.range (n * n))[i]? = some i := by
  unfold vL bitsL pows at h
  rw [List.getElem?_map, List.getElem?_map] at h
  by_cases hi : i < n * n
  · rw [List.getElem?_range hi] at h
    exact ⟨hi, (Option.some.inj h).symm, List.getElem?_range hi⟩
  · rw [List.getElem?_eq_none (by rw [List.length_range]; omega)] at h
    cases h
theorem sq_le {n : Nat} (h : n ≤ 11) : n * n ≤ 121 := Nat.mul_le_mul h h
theorem one_and {n i S : Nat} {p : Nat → Bool} (h0 : 0 < n) (hS : Bits n S p) (hi : i < n * n) : (!decide (2 ^ bidx n i &&& S = 0)) = p i := by
  have hb := (Bits.one h0 hi).and hS
  cases hp : p i with
  | true =>
    have : ¬ (2 ^ bidx n i &&& S = 0) := hb.ne_zero.mpr ⟨i, hi, by simp [hp]⟩
    simp [this]
  | false =>
    have : 2 ^ bidx n i &&& S = 0 := hb.eq_zero.mpr fun j _ => by
      by_cases c : j = i
      · subst c; simp [hp]
      · simp [c]
    simp [this]
section
variable {P : Program} {w : World} {K : PySem.W.Frag} {mg : Str → Option Value} {base : Heap} {A : Ad}
theorem sc_field_cells_in : FnScope ["self", "some", "bit"] ["self", "some"] (defScope s_field_cells_in) := ⟨rfl, rfl, rfl, by decide +kernel, rfl, by decide +kernel, by decide +kernel⟩
theorem ok_field_cells_in (T : Txt K mg A) : Kp P w K mg base CX0 1 A.f_field_cells_in ["self", "some"] (sp_field_cells_in A) := by
  refine T.d_field_cells_in.ok sc_field_cells_in (fun vs H Q E h => ?_) (fun cdv A' outer s H vs Q E hr h => ?_)
  · obtain ⟨a, n, S, p, rfl, _⟩ := h
    rfl
  obtain ⟨a, n, S, p, rfl, ⟨lb, lf, lo, F⟩, hS, q⟩ := h
  obtain ⟨dx, h1⟩ := F.at_
  have n0 : 0 < n := by have := F.n2; omega
  refine ⟨_, (pss_one (ps_ret (pe_lc (own := [("bit", 2)]) (g := gName 2) rfl sc_field_cells_in.nd (pi_list (pe_fld (pv 0) rfl)) (blkOk_by (N := ["self", "some", "bit"]) (sc := defScope s_field_cells_in) (by decide +kernel)) (fun _ _ _ _ _ => pg_name (i := 2) sc_field_cells_in.nd rfl (Or.inl rfl)) (fun _ _ _ _ _ => pts_one (pt_cmpR op_neN (pe_op op_andN (pv 2) (pv 1)) pe_int (nomark _))) (fun _ _ _ _ _ => (pv 2))))), ?_⟩
  refine ⟨_, rfl, a, A.cField, dx, _, _, rfl, h1, T.clField, T.nField_bits, fF_bits, lb, rfl, ⟨_, SqL.of F.bits⟩, fun D hD => lc_list (K := K) (a := lb) (xs := vL (bitsL n)) (fun i H' => H' = upd H D (.lst (vL (pows n (((List.range (n * n)).take i).filter p))))) ?_ ?_ ?_ ?_⟩
  · simp [pows, vL]
  · rintro i H' hi rfl
    refine SqL.of ?_
    rw [upd_ne (ne_of_none F.bits hD)]
    exact F.bits
  · rintro i x H' hx rfl
    obtain ⟨hi, rfl, hr⟩ := bitsL_at hx
    refine ⟨rfl, _, rfl, _, rfl, _, _, rfl, rfl, _, 0, rfl, rfl, _, rfl, ?_⟩
    refine ite_of (one_and n0 hS hi) ?_
    have e := take_more hr
    cases hp : p i with
    | true =>
      refine iteT ⟨_, rfl, _, upd_same, ?_, ?_⟩
      · rw [vL_len, pows_len]
        refine small1000 (Nat.le_trans (List.length_filter_le _ _) ?_)
        rw [List.length_take, List.length_range]
        have := sq_le F.n11
        omega
      · rw [upd_upd, e, List.filter_append, pows_append, vL_append]
        simp [hp, pows, vL]
    | false =>
      refine iteF ?_
      rw [e, List.filter_append]
      simp [hp]
  · rintro H' rfl
    rw [vL_len, bitsL_len, List.take_of_length_le (by rw [List.length_range]; exact Nat.le_refl _)]
    exact q D hD
end
end Hx
/-! W6: slices of lists of numbers. -/
namespace Hx
open PySem PySem.Spec PyProof.Rows L2
section
variable {X : Cx}
theorem cr_sumN (hc : X.calm = true) : CallR X (.builtin "sum") (fun vs H Q => ∃ (a : Addr) (l : List Nat), vs = [V.ref a] ∧ SqL X.K H a (vL l) ∧ Q (vN l.sum) H) := by
  intro pins s σ H vs us Q I r ⟨a, l, e, h, q⟩
  refine cr_sum hc pins s σ H vs us Q I r ⟨a, l.map fun (x : Nat) => (x : Int), e, ?_, ?_⟩
  · rw [← vL_int]
    exact h
  · exact Q_eq (congrArg V.int (sum_cast l)) q
end
theorem pickL_map {α β : Type} (f : α → β) (l : List α) (lo hi st : Option Int) : pickL (l.map f) lo hi st = (pickL l lo hi st).map f := by
  unfold pickL
  rw [List.length_map, List.map_filterMap]
  congr 1
  funext k
  rw [List.getElem?_map]
theorem cutV_map (l : List Nat) (lo hi : Option Int) : cutV (vL l) lo hi = vL ((l.drop (HT.sIx l.length 0 lo)).take (HT.sIx l.length l.length hi - HT.sIx l.length 0 lo)) := by
  unfold cutV vL
  rw [List.length_map, List.map_take, List.map_drop]
theorem cut_first (n : Nat) (h : 0 < n) : cutV (vL (bitsL n)) none (some ((n : Nat) : Int)) = vL (pows n (List.range n)) := by
  rw [cutV_map, HT.sIx_none, HT.sIx_nat, bitsL_len, List.drop_zero]
  unfold bitsL pows
  have : n ≤ n * n := Nat.le_mul_of_pos_left n h
  rw [← List.map_take, List.take_range, Nat.sub_zero, Nat.min_eq_left this, Nat.min_eq_left this]
theorem cut_last (n : Nat) (h : 0 < n) : cutV (vL (bitsL n)) (some (0 - ((n : Nat) : Int))) none = vL (pows n ((List.range n).map fun k => n * n - n + k)) := by
  have h1 : n ≤ n * n := Nat.le_mul_of_pos_left n h
  have e : HT.sIx (bitsL n).length 0 (some (0 - ((n : Nat) : Int))) = n * n - n := by
    show (if (0 - ((n : Nat) : Int)) < 0 then ((0 - ((n : Nat) : Int)) + ((bitsL n).length : Int)).toNat else _) = _
    rw [if_pos (by omega), bitsL_len]
    omega
  rw [cutV_map, e, HT.sIx_none, bitsL_len]
  have e2 : n * n = (n * n - n) + n := by omega
  have e3 : bitsL n = pows n (List.range (n * n - n)) ++ pows n ((List.range n).map fun k => n * n - n + k) := by
    unfold bitsL
    conv => lhs; rw [e2, List.range_add]
    rw [pows_append]
  have e4 : (pows n (List.range (n * n - n))).length = n * n - n := by rw [pows_len, List.length_range]
  rw [e3, List.drop_append_of_le_length (by omega), List.drop_of_length_le (by omega), List.nil_append, List.take_of_length_le (by rw [pows_len, List.length_map, List.length_range]; omega)]
theorem filterMap_cong {α β : Type} {f g : α → Option β} : ∀ {l : List α}, (∀ x ∈ l, f x = g x) → l.filterMap f = l.filterMap g
  | [], _ => rfl
  | a :: l, h => by
    rw [List.filterMap_cons, List.filterMap_cons, h a List.mem_cons_self, filterMap_cong fun x hx => h x (List.mem_cons_of_mem _ hx)]
theorem range_pick {α : Type} (f : Nat → α) (m c d k : Nat) (h : ∀ i, i < k → c + d * i < m) : ((List.range k).map fun (i : Nat) => c + d * i).filterMap (((List.range m).map f)[·]?) = (List.range k).map fun i => f (c + d * i) := by
  rw [List.filterMap_map]
  refine Eq.trans (b := (List.range k).filterMap (some ∘ fun i => f (c + d * i))) (filterMap_cong ?_) (by rw [List.filterMap_eq_map])
  intro i hi
  have := h i (List.mem_range.mp hi)
  show ((List.range m).map f)[c + d * i]? = _
  rw [List.getElem?_map, List.getElem?_range this]
  rfl
theorem sliceRange_pos {a b c : Nat} {k : Nat} (hc : 0 < c) (hk : (if a < b then (b - a + c - 1) / c else 0) = k) : sliceRange (a : Int) (b : Int) (c : Int) = (List.range k).map fun (i : Nat) => a + c * i := by
  unfold sliceRange
  have hc' : (c : Int) > 0 := by omega
  simp only [if_pos hc']
  have ek : (if (a : Int) < (b : Int) then ((b : Int) - (a : Int) + (c : Int) - 1) / (c : Int) else 0).toNat = k := by
    rw [← hk]
    by_cases h : a < b
    · rw [if_pos h, if_pos (by omega)]
      have : ((b : Int) - (a : Int) + (c : Int) - 1) = ((b - a + c - 1 : Nat) : Int) := by omega
      rw [this]
      rfl
    · rw [if_neg h, if_neg (by omega)]
      rfl
  rw [ek]
  refine List.map_congr_left fun i _ => ?_
  have : (a : Int) + (c : Int) * (i : Int) = ((a + c * i : Nat) : Int) := by simp
  rw [this, Int.toNat_natCast]
theorem pick_first (n : Nat) (h : 0 < n) : pickL (vL (bitsL n)) none none (some ((n : Nat) : Int)) = vL (pows n ((List.range n).map (n * ·))) := by
  have hn : ((n : Nat) : Int) > 0 := by omega
  unfold pickL sliceBounds
  simp only [Option.getD_some, if_pos hn, vL_len, bitsL_len]
  have hk : (if 0 < n * n then (n * n - 0 + n - 1) / n else 0) = n := by
    have : 0 < n * n := Nat.mul_pos h h
    rw [if_pos this, Nat.sub_zero, Nat.add_sub_assoc h, Nat.mul_add_div h, Nat.div_eq_of_lt (by omega)]
    rfl
  have := sliceRange_pos (a := 0) (b := n * n) (c := n) h hk
  rw [show (0 : Int) = ((0 : Nat) : Int) from rfl, this]
  unfold vL bitsL pows
  rw [List.map_map]
  refine (range_pick _ (n * n) 0 n n fun i hi => ?_).trans ?_
  · have := rc_lt (n := n) (r := i) (c := 0) hi h
    rw [Nat.mul_comm]
    omega
  · rw [List.map_map, List.map_map]
    refine List.map_congr_left fun i _ => ?_
    show vN (2 ^ bidx n (0 + n * i)) = vN (2 ^ bidx n (n * i))
    rw [Nat.zero_add]
theorem pick_last (n : Nat) (h : 0 < n) : pickL (vL (bitsL n)) (some (((n : Nat) : Int) - 1)) none (some ((n : Nat) : Int)) = vL (pows n ((List.range n).map fun k => n - 1 + n * k)) := by
  have hn : ((n : Nat) : Int) > 0 := by omega
  have h1 : n ≤ n * n := Nat.le_mul_of_pos_left n h
  have hk : (if n - 1 < n * n then (n * n - (n - 1) + n - 1) / n else 0) = n := by
    rw [if_pos (by omega)]
    have : n * n - (n - 1) + n - 1 = n * n := by omega
    rw [this, Nat.mul_div_cancel _ h]
  have eb : sliceBounds (some (((n : Nat) : Int) - 1)) none (some ((n : Nat) : Int)) (n * n) = (((n - 1 : Nat) : Int), ((n * n : Nat) : Int), ((n : Nat) : Int)) := by
    unfold sliceBounds
    simp only [Option.getD_some, if_pos hn]
    rw [if_neg (by omega)]
    have : max 0 (min (((n : Nat) : Int) - 1) ((n * n : Nat) : Int)) = ((n - 1 : Nat) : Int) := by omega
    rw [this]
  have := sliceRange_pos (a := n - 1) (b := n * n) (c := n) h hk
  unfold pickL
  rw [vL_len, bitsL_len, eb]
  dsimp only
  rw [this]
  unfold vL bitsL pows
  rw [List.map_map]
  refine (range_pick _ (n * n) (n - 1) n n fun i hi => ?_).trans ?_
  · have := rc_lt (n := n) (r := i) (c := n - 1) hi (by omega)
    rw [Nat.mul_comm n i]
    omega
  · rw [List.map_map, List.map_map]
    rfl
/-! ### every other one -/
theorem evens_len : ∀ l : List Nat, (evens l).length = (l.length + 1) / 2
  | [] => rfl
  | [a] => by simp [evens]
  | a :: b :: l => by
    show (evens l).length + 1 = (l.length + 2 + 1) / 2
    rw [evens_len l]
    omega
theorem evens_get : ∀ (l : List Nat) (k : Nat), (evens l)[k]? = l[2 * k]?
  | [], k => by simp [evens]
  | [a], 0 => rfl
  | [a], k + 1 => by simp [evens]
  | a :: b :: l, 0 => rfl
  | a :: b :: l, k + 1 => by
    show (evens l)[k]? = (a :: b :: l)[2 * (k + 1)]?
    rw [evens_get l k]
    rfl
theorem filterMap_all {α : Type} (l : List α) : (List.range l.length).filterMap (l[·]?) = l := by
  induction l with
  | nil => rfl
  | cons a l ih =>
    rw [List.length_cons, List.range_succ_eq_map, List.filterMap_cons]
    show a :: _ = _
    rw [List.filterMap_map]
    exact congrArg (a :: ·) ih
theorem pick_even (l : List Nat) : pickL l (some 0) none (some 2) = evens l := by
  have eb : sliceBounds (some 0) none (some 2) l.length = (((0 : Nat) : Int), ((l.length : Nat) : Int), ((2 : Nat) : Int)) := by
    unfold sliceBounds
    simp only [Option.getD_some, if_pos (show (2 : Int) > 0 by decide), if_neg (show ¬ (0 : Int) < 0 by decide)]
    have : max 0 (min (0 : Int) ((l.length : Nat) : Int)) = ((0 : Nat) : Int) := by omega
    rw [this]
    rfl
  have hk : (if 0 < l.length then (l.length - 0 + 2 - 1) / 2 else 0) = (evens l).length := by
    rw [evens_len]
    by_cases h : 0 < l.length
    · rw [if_pos h]; omega
    · rw [if_neg h]; omega
  unfold pickL
  rw [eb]
  dsimp only
  rw [sliceRange_pos (by decide) hk, List.filterMap_map]
  conv => rhs; rw [← filterMap_all (evens l)]
  apply filterMap_cong
  intro k _
  show l[0 + 2 * k]? = (evens l)[k]?
  rw [evens_get, Nat.zero_add]
theorem pick_odd (l : List Nat) : pickL l (some 1) none (some 2) = evens l.tail := by
  cases l with
  | nil => rfl
  | cons a l =>
    have eb : sliceBounds (some 1) none (some 2) (a :: l).length = (((1 : Nat) : Int), (((a :: l).length : Nat) : Int), ((2 : Nat) : Int)) := by
      unfold sliceBounds
      simp only [Option.getD_some, if_pos (show (2 : Int) > 0 by decide), if_neg (show ¬ (1 : Int) < 0 by decide)]
      have : max 0 (min (1 : Int) (((a :: l).length : Nat) : Int)) = ((1 : Nat) : Int) := by
        rw [List.length_cons]
        omega
      rw [this]
      rfl
    have hk : (if 1 < (a :: l).length then ((a :: l).length - 1 + 2 - 1) / 2 else 0) = (evens l).length := by
      rw [evens_len, List.length_cons]
      by_cases h : 1 < l.length + 1
      · rw [if_pos h]; omega
      · rw [if_neg h]; omega
    unfold pickL
    rw [eb]
    dsimp only
    rw [sliceRange_pos (by decide) hk, List.filterMap_map, List.tail_cons]
    conv => rhs; rw [← filterMap_all (evens l)]
    apply filterMap_cong
    intro k _
    show (a :: l)[1 + 2 * k]? = (evens l)[k]?
    rw [evens_get, Nat.add_comm]
    rfl
theorem pick_side (l : List Nat) (w : Bool) : pickL l (some (sI w)) none (some 2) = movesOf w l := by
  cases w
  · exact pick_even l
  · exact pick_odd l
end Hx
/-! W7: bits_of, Field.__init__. -/
namespace Hx
open PySem PySem.Spec PyProof.Rows L2
theorem op_oneShlN {X : Cx} : OpR X (binaryOp .LShift) (fun x y H Q => ∃ k : Nat, x = .int 1 ∧ y = vN k ∧ k ≤ 134217727 ∧ Q (vN (2 ^ k)) H) := fun pins s σ H x y v u Q I rx ry ⟨k, e1, e2, hk, q⟩ =>
  op_oneShl pins s σ H x y v u Q I rx ry ⟨k, e1, e2, hk, Q_eq (congrArg V.int (by simp)) q⟩
def sp_bits_of : Sp := fun vs H Q _ => ∃ n : Nat, vs = [vN n] ∧ 2 ≤ n ∧ n ≤ 11 ∧ ∀ (H' : Hp) (l : Addr), Same H H' → H l = none → H' l = some (.lst (vL (bitsL n))) → Q (.ref l) H'
def sp_field_init (A : Ad) : Sp := fun vs H Q _ => ∃ (p dx : Addr) (n : Nat), vs = [.ref p, vN n] ∧ H p = some (.ins A.cField dx []) ∧ 2 ≤ n ∧ n ≤ 11 ∧
  ∀ (H' : Hp) (lb lf lo : Addr), FieldAt A H' p n lb lf lo → H lb = none → H lf = none → H lo = none → (∀ b o, H b = some o → b ≠ p → H' b = some o) → Q .non H'
theorem row_bits {n i : Nat} (hi : i < n) : pows n (List.range ((i + 1) * n)) = pows n (List.range (i * n)) ++ (List.range n).map fun c => 2 ^ (i * (n + 1) + c) := by
  rw [Nat.succ_mul, List.range_add, pows_append]
  congr 1
  unfold pows
  rw [List.map_map]
  refine List.map_congr_left fun c hc => ?_
  show 2 ^ bidx n (i * n + c) = _
  rw [bidx_rc (List.mem_range.mp hc)]
def g2 (n : Nat) (lb : Addr) : List (Str × V) := [("size", vN n), ("bits", .ref lb)]
def g3 (n : Nat) (lb : Addr) : List (Str × V) := [("size", vN n), ("bits", .ref lb), ("all_cells", vN (allC n))]
def g4 (n : Nat) (lb lf : Addr) : List (Str × V) := [("size", vN n), ("bits", .ref lb), ("all_cells", vN (allC n)), ("firsts", .ref lf)]
theorem of_upd {C dx p : Addr} {fs gs : List (Str × V)} {H : Hp} {R : Hp → Prop} (e : fs = gs) (h : R (upd H p (.ins C dx gs))) : R (upd H p (.ins C dx fs)) := by
  rw [e]
  exact h
theorem g2_put (n : Nat) (lb : Addr) : putF "bits" (.ref lb) (putF "size" (vN n) []) = g2 n lb := (put_past (by decide +kernel)).trans rfl
theorem g3_put (n : Nat) (lb : Addr) : putF "all_cells" (vN (bitsL n).sum) (g2 n lb) = g3 n lb := (put_past (by decide +kernel)).trans (congrArg _ ((put_past (by decide +kernel)).trans rfl))
theorem g4_put (n : Nat) (lb lf : Addr) : putF "firsts" (.ref lf) (g3 n lb) = g4 n lb lf := (put_past (by decide +kernel)).trans (congrArg _ ((put_past (by decide +kernel)).trans (congrArg _ ((put_past (by decide +kernel)).trans rfl))))
theorem g5_put (n : Nat) (lb lf lo : Addr) : putF "others" (.ref lo) (g4 n lb lf) = fF n lb lf lo := (put_past (by decide +kernel)).trans (congrArg _ ((put_past (by decide +kernel)).trans (congrArg _ ((put_past (by decide +kernel)).trans (congrArg _ ((put_past (by decide +kernel)).trans rfl))))))
theorem g2_bits (n : Nat) (lb : Addr) : (g2 n lb).lookup ("bits" : Str) = some (.ref lb) := (lk_past (by decide +kernel)).trans lk_here
theorem g3_bits (n : Nat) (lb : Addr) : (g3 n lb).lookup ("bits" : Str) = some (.ref lb) := (lk_past (by decide +kernel)).trans lk_here
theorem g4_bits (n : Nat) (lb lf : Addr) : (g4 n lb lf).lookup ("bits" : Str) = some (.ref lb) := (lk_past (by decide +kernel)).trans lk_here
section
variable {P : Program} {w : World} {K : PySem.W.Frag} {mg : Str → Option Value} {base : Heap} {A : Ad}
theorem sc_bits_of : FnScope ["size", "found", "row", "column"] ["size"] (defScope s_bits_of) := ⟨rfl, rfl, rfl, by decide +kernel, rfl, by decide +kernel, by decide +kernel⟩
theorem ok_bits_of (T : Txt K mg A) : Kp P w K mg base CX0 1 A.f_bits_of ["size"] sp_bits_of := by
  refine T.d_bits_of.ok sc_bits_of (fun vs H Q E h => ?_) (fun cdv A' outer s H vs Q E hr h => ?_)
  · obtain ⟨n, rfl, _⟩ := h
    rfl
  obtain ⟨n, rfl, h2, h11, q⟩ := h
  have hsq := sq_le h11
  refine ⟨_, (pss_cons (ps_set (i := 1) sc_bits_of.nd rfl (Or.inl rfl) (pe_lst pa_nil))
      (pss_cons (ps_for PassesOwn.never rfl (pi_range1 rfl T.b_range (pa_cons (pv 0) pa_nil)) (pg_name (i := 2) sc_bits_of.nd rfl (Or.inr rfl)) (pss_one (ps_expr (pe_bm PySem.F.plainAttrs_list PySem.F.slot_list_extend PySem.F.type_list_extend mt_extend (pv 1) (pa_cons (pe_lc (own := [("column", 3)]) (g := gName 3) rfl sc_bits_of.nd (pi_range1 rfl T.b_range (pa_cons (pv 0) pa_nil)) (blkOk_by (N := ["size", "found", "row", "column"]) (sc := defScope s_bits_of) (by decide +kernel)) (fun _ _ _ _ _ => pg_name (i := 3) sc_bits_of.nd rfl (Or.inl rfl)) (fun _ _ _ _ _ => pts_nil) (fun _ _ _ _ _ => (pe_op op_oneShlN pe_int (pe_op op_addN (pe_op op_mulN (pv 2) (pe_op op_addN (pv 0) pe_int)) (pv 3))))) pa_nil)))))
      (pss_one (ps_ret (pv 1))))), ?_⟩
  refine ⟨(by show 0 ≤ sizeLine; decide), fun l hl => ?_⟩
  refine ⟨_, rfl, _, rfl, by omega, by omega, for_range (lo := 0) (n := n) (fun i σ H' => ∃ v c : Option V, σ = [some (vN n), some (.ref l), v, c] ∧ Same H H' ∧ H' l = some (.lst (vL (pows n (List.range (i * n)))))) ⟨none, none, rfl, same_new hl _, by rw [upd_same]; simp [pows, vL]⟩ ?_ ?_⟩
  · rintro i σ H' hi ⟨v, c, rfl, s1, hl1⟩
    rw [Int.zero_add]
    refine ⟨_, rfl, .inl ⟨rfl, _, SqL.of hl1⟩, _, rfl, _, rfl, by omega, by omega, fun D hD => lc_range (lo := 0) (n := n) (fun j H2 => H2 = upd H' D (.lst (vL ((List.range j).map fun c => 2 ^ (i * (n + 1) + c))))) ?_ ?_ ?_⟩
    · simp [vL]
    · rintro j H2 hj rfl
      rw [Int.zero_add]
      have hb : i * (n + 1) + j ≤ 134217727 := by
        have : i * (n + 1) ≤ 11 * 12 := Nat.mul_le_mul (by omega) (by omega)
        omega
      refine ⟨rfl, _, rfl, _, rfl, _, 1, rfl, rfl, _, _, rfl, rfl, by omega, _, rfl, _, _, rfl, rfl, _, rfl, rfl, hb, _, upd_same, ?_, ?_⟩
      · rw [vL_len, List.length_map, List.length_range]
        exact small1000 (by omega)
      · rw [upd_upd, List.range_succ, List.map_append, vL_append]
        rfl
    · rintro H2 rfl
      have hne : l ≠ D := ne_of_none hl1 hD
      have hlen : (vL (pows n (List.range (i * n)))).length + (vL ((List.range n).map fun c => 2 ^ (i * (n + 1) + c))).length ≤ sizeLine := by
        rw [vL_len, pows_len, List.length_range, vL_len, List.length_map, List.length_range]
        refine Nat.le_of_lt (small1000 ?_)
        have : i * n ≤ n * n := Nat.mul_le_mul_right n (by omega)
        omega
      refine ⟨l, D, _, _, rfl, rfl, by rw [upd_ne hne]; exact hl1, upd_same, hlen, ?_⟩
      refine ⟨some (vN i), c, rfl, ?_, ?_⟩
      · intro b o e
        have hb1 : b ≠ l := ne_of_none e hl
        have hb2 : b ≠ D := ne_of_none (s1 b o e) hD
        rw [upd_ne hb1, upd_ne hb2]
        exact s1 b o e
      · rw [upd_same, row_bits hi, vL_append]
  · rintro σ H' ⟨v, c, rfl, s1, hl1⟩
    exact ⟨_, rfl, q H' l s1 hl hl1⟩
theorem sc_field_init : FnScope ["self", "size"] ["self", "size"] (defScope s_field_init) := ⟨rfl, rfl, rfl, by decide +kernel, rfl, by decide +kernel, by decide +kernel⟩
theorem ok_field_init (T : Txt K mg A) : Kp P w K mg base CX0 2 A.f_field_init ["self", "size"] (sp_field_init A) := by
  refine T.d_field_init.ok sc_field_init (fun vs H Q E h => ?_) (fun cdv A' outer s H vs Q E hr h => ?_)
  · obtain ⟨p, dx, n, rfl, _⟩ := h
    rfl
  obtain ⟨p, dx, n, rfl, hp, h2, h11, q⟩ := h
  have n0 : 0 < n := by omega
  refine ⟨_, (pss_cons (ps_fld (pv 0) (pv 1) rfl)
      (pss_cons (ps_fld (pv 0) (pc (ok_bits_of T) T.g_bits_of hr (pa_cons (pv 1) pa_nil)) rfl)
      (pss_cons (ps_fld (pv 0) (pe_callB (cr_sumN rfl) rfl T.b_sum (by decide +kernel) (pa_cons (pe_fld (pv 0) rfl) pa_nil)) rfl)
      (pss_cons (ps_fld (pv 0) (pe_lst (pa_cons (pe_callB (cr_sumN rfl) rfl T.b_sum (by decide +kernel) (pa_cons (pe_slice sl_list (pe_fld (pv 0) rfl) po_none (po_some (pv 1))) pa_nil)) (pa_cons (pe_callB (cr_sumN rfl) rfl T.b_sum (by decide +kernel) (pa_cons (pe_sliceS (pe_fld (pv 0) rfl) po_none po_none (pv 1)) pa_nil)) pa_nil))) rfl)
      (pss_one (ps_fld (pv 0) (pe_lst (pa_cons (pe_callB (cr_sumN rfl) rfl T.b_sum (by decide +kernel) (pa_cons (pe_slice sl_list (pe_fld (pv 0) rfl) (po_some (pe_op op_sub pe_int (pv 1))) po_none) pa_nil)) (pa_cons (pe_callB (cr_sumN rfl) rfl T.b_sum (by decide +kernel) (pa_cons (pe_sliceS (pe_fld (pv 0) rfl) (po_some (pe_op op_sub (pv 1) pe_int)) po_none (pv 1)) pa_nil)) pa_nil))) rfl)))))), ?_⟩
  -- self.size
  refine ⟨_, rfl, _, rfl, p, A.cField, dx, [], rfl, hp, T.clField, T.nField_size, (by show 0 < 1000; decide), ?_⟩
  -- self.bits
  refine ⟨_, rfl, n, rfl, h2, h11, fun H2 lb s2 nlb hlb => ?_⟩
  have pl : p ≠ lb := ne_of_none upd_same nlb
  have h2p := s2 _ _ upd_same
  refine ⟨_, rfl, p, A.cField, dx, _, rfl, h2p, T.clField, T.nField_bits, (by show 1 < 1000; decide), ?_⟩
  refine of_upd (g2_put n lb) ?_
  -- self.all_cells
  have e2 : (upd H2 p (.ins A.cField dx (g2 n lb))) lb = some (.lst (vL (bitsL n))) := by
    rw [upd_ne (Ne.symm pl)]
    exact hlb
  refine ⟨_, rfl, p, A.cField, dx, _, _, rfl, upd_same, T.clField, T.nField_bits, g2_bits n lb, lb, bitsL n, rfl, SqL.of e2, ?_⟩
  refine ⟨_, rfl, p, A.cField, dx, _, rfl, upd_same, T.clField, T.nField_all_cells, (by show 2 < 1000; decide), ?_⟩
  refine of_upd (g3_put n lb) ?_
  rw [upd_upd]
  have e3p : (upd H2 p (.ins A.cField dx (g3 n lb))) p = some (.ins A.cField dx (g3 n lb)) := upd_same
  have e3b : (upd H2 p (.ins A.cField dx (g3 n lb))) lb = some (.lst (vL (bitsL n))) := by
    rw [upd_ne (Ne.symm pl)]
    exact hlb
  have e3o : ∀ b o, H b = some o → b ≠ p → (upd H2 p (.ins A.cField dx (g3 n lb))) b = some o := fun b o e hb => by
    rw [upd_ne hb]
    refine s2 b o ?_
    rw [upd_ne hb]
    exact e
  have e3n : ∀ {l}, (upd H2 p (.ins A.cField dx (g3 n lb))) l = none → H l = none := fun {l} e => by
    cases q' : H l with
    | none => rfl
    | some o =>
      by_cases z : l = p
      · subst z
        rw [upd_same] at e
        cases e
      · rw [e3o l o q' z] at e
        cases e
  revert e3p e3b e3o e3n
  generalize upd H2 p (.ins A.cField dx (g3 n lb)) = H3
  intro e3p e3b e3o e3n
  -- self.firsts
  refine ⟨_, rfl, p, A.cField, dx, _, _, rfl, e3p, T.clField, T.nField_bits, g3_bits n lb, _, rfl, _, rfl, lb, _, rfl, SqL.of e3b, fun l1 n1 => ?_⟩
  have s4 := same_new n1 (.lst (cutV (vL (bitsL n)) none (some ((n : Nat) : Int))))
  refine ⟨l1, pows n (List.range n), rfl, SqL.of (by rw [← cut_first n n0]; exact upd_same), ?_⟩
  refine ⟨_, rfl, p, A.cField, dx, _, _, rfl, s4 _ _ e3p, T.clField, T.nField_bits, g3_bits n lb, _, rfl, lb, _, _, rfl, rfl, by omega, SqL.of (s4 _ _ e3b), fun l2 n2 => ?_⟩
  have s4b := s4.trans (same_new n2 (.lst (pickL (vL (bitsL n)) none none (some ((n : Nat) : Int)))))
  refine ⟨l2, pows n ((List.range n).map (n * ·)), rfl, SqL.of (by rw [← pick_first n n0]; exact upd_same), (by show 2 ≤ sizeLine; decide), fun lf nf => ?_⟩
  have s5 := s4b.trans (same_new nf (.lst [vN (pows n (List.range n)).sum, vN (pows n ((List.range n).map (n * ·))).sum]))
  have nlf := s4b.free nf
  refine ⟨_, rfl, p, A.cField, dx, _, rfl, s5 _ _ e3p, T.clField, T.nField_firsts, (by show 3 < 1000; decide), ?_⟩
  refine of_upd (g4_put n lb lf) ?_
  have plf : p ≠ lf := ne_of_none e3p nlf
  have blf : lb ≠ lf := ne_of_none e3b nlf
  have e5f := (upd_same : (upd (upd (upd H3 l1 (.lst (cutV (vL (bitsL n)) none (some ((n : Nat) : Int))))) l2 (.lst (pickL (vL (bitsL n)) none none (some ((n : Nat) : Int))))) lf (.lst [vN (pows n (List.range n)).sum, vN (pows n ((List.range n).map (n * ·))).sum])) lf = _)
  revert s5 e5f
  generalize upd (upd (upd H3 l1 (.lst (cutV (vL (bitsL n)) none (some ((n : Nat) : Int))))) l2 (.lst (pickL (vL (bitsL n)) none none (some ((n : Nat) : Int))))) lf (.lst [vN (pows n (List.range n)).sum, vN (pows n ((List.range n).map (n * ·))).sum]) = H5
  intro s5 e5f
  have e6p : (upd H5 p (.ins A.cField dx (g4 n lb lf))) p = some (.ins A.cField dx (g4 n lb lf)) := upd_same
  have e6b : (upd H5 p (.ins A.cField dx (g4 n lb lf))) lb = some (.lst (vL (bitsL n))) := by
    rw [upd_ne (Ne.symm pl)]
    exact s5 _ _ e3b
  have e6f : (upd H5 p (.ins A.cField dx (g4 n lb lf))) lf = some (.lst [vN (firstN n false), vN (firstN n true)]) := by
    rw [upd_ne (Ne.symm plf)]
    exact e5f
  have e6o : ∀ b o, H b = some o → b ≠ p → (upd H5 p (.ins A.cField dx (g4 n lb lf))) b = some o := fun b o e hb => by
    rw [upd_ne hb]
    exact s5 _ _ (e3o b o e hb)
  have e6n : ∀ {l}, (upd H5 p (.ins A.cField dx (g4 n lb lf))) l = none → H l = none := fun {l} e => by
    refine e3n ?_
    by_cases z : l = p
    · subst z
      rw [upd_same] at e
      cases e
    · rw [upd_ne z] at e
      exact s5.free e
  revert e6p e6b e6f e6o e6n
  generalize upd H5 p (.ins A.cField dx (g4 n lb lf)) = H6
  intro e6p e6b e6f e6o e6n
  -- self.others
  refine ⟨_, rfl, p, A.cField, dx, _, _, rfl, e6p, T.clField, T.nField_bits, g4_bits n lb lf, _, rfl, _, _, rfl, rfl, _, rfl, lb, _, rfl, SqL.of e6b, fun l3 n3 => ?_⟩
  have s7 := same_new n3 (.lst (cutV (vL (bitsL n)) (some (0 - ((n : Nat) : Int))) none))
  refine ⟨l3, pows n ((List.range n).map fun k => n * n - n + k), rfl, SqL.of (by rw [← cut_last n n0]; exact upd_same), ?_⟩
  refine ⟨_, rfl, p, A.cField, dx, _, _, rfl, s7 _ _ e6p, T.clField, T.nField_bits, g4_bits n lb lf, _, rfl, _, _, rfl, rfl, _, rfl, _, rfl, lb, _, _, rfl, rfl, by omega, SqL.of (s7 _ _ e6b), fun l4 n4 => ?_⟩
  have s7b := s7.trans (same_new n4 (.lst (pickL (vL (bitsL n)) (some (((n : Nat) : Int) - 1)) none (some ((n : Nat) : Int)))))
  refine ⟨l4, pows n ((List.range n).map fun k => n - 1 + n * k), rfl, SqL.of (by rw [← pick_last n n0]; exact upd_same), (by show 2 ≤ sizeLine; decide), fun lo no => ?_⟩
  have nlo := s7b.free no
  have s8 := s7b.trans (same_new no (.lst [vN (otherN n false), vN (otherN n true)]))
  refine ⟨_, rfl, p, A.cField, dx, _, rfl, s8 _ _ e6p, T.clField, T.nField_others, (by show 4 < 1000; decide), ?_⟩
  refine of_upd (g5_put n lb lf lo) ?_
  have plo : p ≠ lo := ne_of_none e6p nlo
  refine q _ lb lf lo ⟨⟨dx, upd_same⟩, ?_, ?_, ?_, h2, h11⟩ ?_ ?_ (e6n nlo) ?_
  · rw [upd_ne (Ne.symm pl)]
    exact s8 _ _ e6b
  · rw [upd_ne (Ne.symm plf)]
    exact s8 _ _ e6f
  · rw [upd_ne (Ne.symm plo)]
    exact upd_same
  · cases z : H lb with
    | none => rfl
    | some o =>
      have : (upd H p (.ins A.cField dx (putF "size" (vN n) []))) lb = some o := by
        rw [upd_ne (Ne.symm pl)]
        exact z
      rw [nlb] at this
      cases this
  · exact e3n nlf
  · intro b o e hb
    rw [upd_ne hb]
    exact s8 _ _ (e6o b o e hb)
end
end Hx
/-! W8: fewest, layers_to, shortest_chain, group_sizes, joining_cells. -/
namespace Hx
open PySem PySem.Spec PyProof.Rows L2
def WhTurn (Pv : L2.St → Hp → Prop) (μ : L2.St → Hp → Nat) (m : Nat) (tb : TS) (D : Ends) (σ : L2.St) (H : Hp) : Prop :=
  ∃ N : L2.St → Hp → Prop, (∀ σ' H', N σ' H' → ∃ m', m' < m ∧ (m' = μ σ' H' ∧ Pv σ' H')) ∧ tb { D with nx := N, ct := N, bk := D.nx } σ H
theorem while_my {c : TT} {tb : TS} {D : Ends} {σ : L2.St} {H : Hp} (Pv : L2.St → Hp → Prop) (μ : L2.St → Hp → Nat) (h0 : Pv σ H)
    (hs : ∀ σ H, Pv σ H → c σ H fun b H1 => if b = true then WhTurn Pv μ (μ σ H) tb D σ H1 else D.nx σ H1) : tWhile c tb D σ H := by
  refine ⟨fun m σ H => m = μ σ H ∧ Pv σ H, ⟨_, rfl, h0⟩, ?_⟩
  rintro m σ H ⟨rfl, p⟩
  exact hs σ H p
theorem turn_of {Pv : L2.St → Hp → Prop} {μ : L2.St → Hp → Nat} {m : Nat} {tb : TS} {D : Ends} {σ : L2.St} {H : Hp}
    (h : tb { D with nx := fun σ' H' => Pv σ' H' ∧ μ σ' H' < m, ct := fun σ' H' => Pv σ' H' ∧ μ σ' H' < m, bk := D.nx } σ H) : WhTurn Pv μ m tb D σ H :=
  ⟨_, fun _ _ ⟨p, l⟩ => ⟨_, l, rfl, p⟩, h⟩
def optV : Option Nat → V
  | some k => vN k
  | none => .non
def sp_fewest (A : Ad) : Sp := fun vs H Q _ => ∃ (a : Addr) (n S M : Nat) (w : Bool) (p e : Nat → Bool), vs = [.ref a, .int (sI w), vN S, vN M] ∧ FieldR A H a n ∧ Bits n S p ∧ Bits n M e ∧ (∀ i, i < n * n → e i = true → p i = false) ∧
  ∀ o, LackIs n (costP p e) (firstP n w) (otherP n w) o → Q (optV o) H
/-- the reached number of a frame (slot 4), for the measure -/
def mu4 : List (Option V) → Nat
  | _ :: _ :: _ :: _ :: some (V.int f) :: _ => 2 ^ 200 - f.toNat
  | _ => 0
theorem or_gt {a b : Nat} (h : a &&& b = 0) (hb : b ≠ 0) : a < a ||| b := by
  rw [← add_or h]
  omega
section
variable {P : Program} {w : World} {K : PySem.W.Frag} {mg : Str → Option Value} {base : Heap} {A : Ad}
theorem sc_fewest : FnScope ["field", "side", "stones", "empty", "reached", "many", "fresh"] ["field", "side", "stones", "empty"] (defScope s_fewest) := ⟨rfl, rfl, rfl, by decide +kernel, rfl, by decide +kernel, by decide +kernel⟩
theorem ok_fewest (T : Txt K mg A) : Kp P w K mg base CX0 3 A.f_fewest ["field", "side", "stones", "empty"] (sp_fewest A) := by
  refine T.d_fewest.ok sc_fewest (fun vs H Q E h => ?_) (fun cdv A' outer s H vs Q E hr h => ?_)
  · obtain ⟨a, n, S, M, w, p, e, rfl, _⟩ := h
    rfl
  obtain ⟨a, n, S, M, wh, p, e, rfl, FR, hS, hM, hpe, q⟩ := h
  obtain ⟨lb, lf, lo, F⟩ := id FR
  obtain ⟨dx, h1⟩ := F.at_
  have n0 : 0 < n := by have := F.n2; omega
  refine ⟨_, (pss_cons (ps_set (i := 4) sc_fewest.nd rfl (Or.inl rfl) (pm (pv 0) T.clField T.m_field_grown (ok_field_grown T) hr (pa_cons (pe_op op_andN (pv 2) (pe_ix ix_list (pe_fld (pv 0) rfl) (pv 1) (fun _ _ => rfl))) (pa_cons (pv 2) pa_nil))))
      (pss_cons (ps_set (i := 5) sc_fewest.nd rfl (Or.inl rfl) pe_int)
      (pss_cons (ps_while PassesOwn.never (pt_cmpR op_eqN (pe_op op_andN (pv 4) (pe_ix ix_list (pe_fld (pv 0) rfl) (pv 1) (fun _ _ => rfl))) pe_int (nomark _)) (pss_cons (ps_set (i := 6) sc_fewest.nd rfl (Or.inl rfl) (pe_op op_andN (pe_op op_andN (pe_op op_orN (pm (pv 0) T.clField T.m_field_beside (ok_field_beside T) hr (pa_cons (pv 4) pa_nil)) (pe_ix ix_list (pe_fld (pv 0) rfl) (pv 1) (fun _ _ => rfl))) (pv 3)) (pe_op op_xorN (pe_fld (pv 0) rfl) (pv 4))))
      (pss_cons (ps_if (pt_cmpR op_eqN (pv 6) pe_int (nomark _)) (pss_one (ps_ret pe_non)) pss_nil)
      (pss_cons (ps_set (i := 4) sc_fewest.nd rfl (Or.inl rfl) (pm (pv 0) T.clField T.m_field_grown (ok_field_grown T) hr (pa_cons (pe_op op_orN (pv 4) (pv 6)) (pa_cons (pv 2) pa_nil))))
      (pss_one (ps_aug (i := 5) sc_fewest.nd rfl (Or.inl rfl) pe_int ip_add))))))
      (pss_one (ps_ret (pv 5)))))), ?_⟩
  refine ⟨_, rfl, a, dx, _, rfl, h1, fF_none, _, rfl, _, rfl, a, A.cField, dx, _, _, rfl, h1, T.clField, T.nField_firsts, fF_firsts, _, rfl, lf, _, _, _, rfl, rfl, SqL.of F.fst, first_at wh, _, _, rfl, rfl, _, rfl, a, n, _, S, _, p, rfl, FR, hS.and (firstN_bits n0 wh), hS, fun R0 hR0 => ?_⟩
  have hR0' : Bits n R0 (levB n p e (firstP n wh) 0) := hR0.congr fun i _ => few_start
  refine while_my (fun σ H' => H' = H ∧ ∃ (R k : Nat) (fr : Option V), σ = [some (.ref a), some (.int (sI wh)), some (vN S), some (vN M), some (vN R), some (vN k), fr] ∧ Bits n R (levB n p e (firstP n wh) k) ∧ ∀ j, j < k → ∀ i, i < n * n → (levB n p e (firstP n wh) j i && otherP n wh i) = false)
    (fun σ _ => mu4 σ) ⟨rfl, R0, 0, none, rfl, hR0', fun j hj => absurd hj (Nat.not_lt_zero _)⟩ ?_
  rintro σ H' ⟨rfl, R, k, fr, rfl, hR, hlow⟩
  have hRO := hR.and (otherN_bits n0 wh)
  refine ⟨_, rfl, _, rfl, a, A.cField, dx, _, _, rfl, h1, T.clField, T.nField_others, fF_others, _, rfl, lo, _, _, _, rfl, rfl, SqL.of F.oth, other_at wh, _, _, rfl, rfl, _, 0, rfl, rfl, _, rfl, ?_⟩
  by_cases c : R &&& otherN n wh = 0
  · refine if_true_of (decide_eq_true c) (turn_of ?_)
    have hno := hRO.eq_zero.mp c
    have hfr := ((((hR.beside n0).or (firstN_bits n0 wh)).and hM).and (hR.compl n0)).congr (q := freshB n p e (firstP n wh) k) fun i _ => rfl
    refine ⟨_, rfl, a, dx, _, rfl, h1, fF_none, _, rfl, a, n, R, _, rfl, FR, hR, _, rfl, a, A.cField, dx, _, _, rfl, h1, T.clField, T.nField_firsts, fF_firsts, _, rfl, lf, _, _, _, rfl, rfl, SqL.of F.fst, first_at wh, _, _, rfl, rfl, _, rfl, _, _, rfl, rfl, _, rfl, a, A.cField, dx, _, _, rfl, h1, T.clField, T.nField_all_cells, fF_all, _, rfl, _, _, rfl, rfl, _, _, rfl, rfl, ?_⟩
    refine ⟨_, rfl, _, 0, rfl, rfl, _, rfl, ?_⟩
    by_cases z : ((besideN n (allC n) R ||| firstN n wh) &&& M) &&& (allC n ^^^ R) = 0
    · refine if_true_of (decide_eq_true z) ?_
      exact q none (few_none (hfr.eq_zero.mp z) hno)
    · refine if_false_of (decide_eq_false z) ?_
      refine ⟨_, rfl, a, dx, _, rfl, h1, fF_none, _, rfl, _, rfl, _, _, rfl, rfl, _, rfl, a, n, _, S, _, p, rfl, FR, hR.or hfr, hS, fun R1 hR1 => ?_⟩
      have hR1' : Bits n R1 (levB n p e (firstP n wh) (k + 1)) := hR1.congr fun i _ => few_turn hpe
      refine ⟨_, rfl, _, _, rfl, rfl, ⟨rfl, R1, k + 1, _, rfl, hR1', fun j hj i hi => ?_⟩, ?_⟩
      · by_cases y : j < k
        · exact hlow j y i hi
        · have : j = k := by omega
          subst this
          exact hno i hi
      · show 2 ^ 200 - (R1 : Int).toNat < 2 ^ 200 - (R : Int).toNat
        have b1 := hR1.small F.n11
        have hd : R &&& (((besideN n (allC n) R ||| firstN n wh) &&& M) &&& (allC n ^^^ R)) = 0 := (hR.and hfr).eq_zero.mpr fun i _ => by
          unfold freshB
          cases levB n p e (firstP n wh) k i <;> simp
        have h3 := or_gt hd z
        have h4 : R ||| (((besideN n (allC n) R ||| firstN n wh) &&& M) &&& (allC n ^^^ R)) ≤ R1 := by
          have : (R ||| (((besideN n (allC n) R ||| firstN n wh) &&& M) &&& (allC n ^^^ R))) ||| R1 = R1 := ((hR.or hfr).or hR1).ext hR1 fun i hi => by
            cases hl : (levB n p e (firstP n wh) k i || freshB n p e (firstP n wh) k i) with
            | false => rw [Bool.false_or]
            | true => rw [Bool.true_or, grownP_iff.mpr (.base hi hl)]
          rw [← this]
          exact Nat.left_le_or
        rw [Int.toNat_natCast, Int.toNat_natCast]
        omega
  · refine if_false_of (decide_eq_false c) ?_
    exact ⟨_, rfl, q (some k) (few_some (hRO.ne_zero.mp c) hlow)⟩
def sp_layers_to (A : Ad) : Sp := fun vs H Q _ => ∃ (a : Addr) (n S m : Nat) (w : Bool) (p : Nat → Bool), vs = [.ref a, .int (sI w), vN S] ∧ FieldR A H a n ∧ Bits n S p ∧ MostIs n w p m ∧
  ∀ (l : Addr) (Ls : List Nat), H l = none → Ls.length = m → (∀ k x, Ls[k]? = some x → Bits n x (layB n p (otherP n w) (k + 1))) → Q (.ref l) (upd H l (.lst (vL Ls)))
def muL (l : Addr) (m : Nat) (H : Hp) : Nat := match H l with
  | some (.lst xs) => m - xs.length
  | _ => 0
theorem muL_at {l : Addr} {m : Nat} {H : Hp} {xs : List V} (h : H l = some (.lst xs)) : muL l m H = m - xs.length := by
  unfold muL
  rw [h]
theorem last_at {Ls : List Nat} {x : Nat} (h : Ls[Ls.length - 1]? = some x) : atI (vL Ls) (-1) = some (vN x) := by
  have hlen : 0 < Ls.length := by
    rcases Nat.eq_zero_or_pos Ls.length with z | z
    · rw [List.getElem?_eq_none (by omega)] at h
      cases h
    · exact z
  have e := take_more h
  rw [List.take_of_length_le (by omega)] at e
  rw [e, vL_append]
  exact atI_last _ _
theorem sc_layers_to : FnScope ["field", "side", "stones", "found", "seen", "fresh"] ["field", "side", "stones"] (defScope s_layers_to) := ⟨rfl, rfl, rfl, by decide +kernel, rfl, by decide +kernel, by decide +kernel⟩
theorem ok_layers_to (T : Txt K mg A) : Kp P w K mg base CX0 2 A.f_layers_to ["field", "side", "stones"] (sp_layers_to A) := by
  refine T.d_layers_to.ok sc_layers_to (fun vs H Q E h => ?_) (fun cdv A' outer s H vs Q E hr h => ?_)
  · obtain ⟨a, n, S, m, w, p, rfl, _⟩ := h
    rfl
  obtain ⟨a, n, S, m, wh, p, rfl, FR, hS, hm, q⟩ := h
  obtain ⟨lb, lf, lo, F⟩ := id FR
  obtain ⟨dx, h1⟩ := F.at_
  have n0 : 0 < n := by have := F.n2; omega
  have m121 : m ≤ 121 := Nat.le_trans hm.le (sq_le F.n11)
  refine ⟨_, (pss_cons (ps_set (i := 3) sc_layers_to.nd rfl (Or.inl rfl) (pe_lst (pa_cons (pe_op op_andN (pv 2) (pe_ix ix_list (pe_fld (pv 0) rfl) (pv 1) (fun _ _ => rfl))) pa_nil)))
      (pss_cons (ps_set (i := 4) sc_layers_to.nd rfl (Or.inl rfl) (pe_ix ix_list (pv 3) pe_int (fun _ _ => rfl)))
      (pss_cons (ps_while PassesOwn.never (pt_cmpR op_eqN (pe_op op_andN (pe_ix ix_list (pv 3) (pe_un un_neg pe_int) (fun _ _ => rfl)) (pe_ix ix_list (pe_fld (pv 0) rfl) (pv 1) (fun _ _ => rfl))) pe_int (nomark _)) (pss_cons (ps_set (i := 5) sc_layers_to.nd rfl (Or.inl rfl) (pe_op op_andN (pe_op op_andN (pm (pv 0) T.clField T.m_field_beside (ok_field_beside T) hr (pa_cons (pe_ix ix_list (pv 3) (pe_un un_neg pe_int) (fun _ _ => rfl)) pa_nil)) (pv 2)) (pe_op op_xorN (pe_fld (pv 0) rfl) (pv 4))))
      (pss_cons (ps_expr (pe_bm PySem.F.plainAttrs_list PySem.F.slot_list_append PySem.F.type_list_append mt_append (pv 3) (pa_cons (pv 5) pa_nil)))
      (pss_one (ps_set (i := 4) sc_layers_to.nd rfl (Or.inl rfl) (pe_op op_orN (pv 4) (pv 5)))))))
      (pss_one (ps_ret (pv 3)))))), ?_⟩
  have hL1 : Bits n (S &&& otherN n wh) (layB n p (otherP n wh) 1) := (hS.and (otherN_bits n0 wh)).congr fun i hi => lay_one hi
  refine ⟨_, rfl, _, rfl, a, A.cField, dx, _, _, rfl, h1, T.clField, T.nField_others, fF_others, _, rfl, lo, _, _, _, rfl, rfl, SqL.of F.oth, other_at wh, _, _, rfl, rfl, (by show 1 ≤ sizeLine; decide), fun l hl => ?_⟩
  refine ⟨_, rfl, l, _, _, _, rfl, rfl, SqL.of upd_same, atI_nat (j := 0) (by rfl), ?_⟩
  refine while_my (fun σ H' => ∃ (Ls : List Nat) (sn : Nat) (fr : Option V), σ = [some (.ref a), some (.int (sI wh)), some (vN S), some (.ref l), some (vN sn), fr] ∧ H' = upd H l (.lst (vL Ls)) ∧ 1 ≤ Ls.length ∧ Ls.length ≤ m ∧
      (∀ k x, Ls[k]? = some x → Bits n x (layB n p (otherP n wh) (k + 1))) ∧ Bits n sn (seenB n p (otherP n wh) Ls.length))
    (fun _ H' => muL l m H') ⟨[S &&& otherN n wh], S &&& otherN n wh, none, rfl, rfl, Nat.le_refl _, hm.pos, ?_, hL1.congr fun i _ => seen_one⟩ ?_
  · intro k x hx
    cases k with
    | zero =>
      have : S &&& otherN n wh = x := Option.some.inj hx
      rw [← this]
      exact hL1
    | succ k => simp at hx
  rintro σ H' ⟨Ls, sn, fr, rfl, rfl, len1, lenm, hLs, hsn⟩
  have sF := same_new hl (.lst (vL Ls))
  have FR' := FR.same sF
  obtain ⟨x, hx⟩ : ∃ x, Ls[Ls.length - 1]? = some x := ⟨Ls[Ls.length - 1], List.getElem?_eq_getElem (by omega)⟩
  have hxb := hLs _ _ hx
  have elen : Ls.length - 1 + 1 = Ls.length := by omega
  rw [elen] at hxb
  have hxf := hxb.and (firstN_bits n0 wh)
  refine ⟨_, rfl, _, rfl, l, _, _, _, rfl, rfl, SqL.of upd_same, last_at hx, _, rfl, a, A.cField, dx, _, _, rfl, sF _ _ h1, T.clField, T.nField_firsts, fF_firsts, _, rfl, lf, _, _, _, rfl, rfl, SqL.of (sF _ _ F.fst), first_at wh, _, _, rfl, rfl, _, 0, rfl, rfl, _, rfl, ?_⟩
  by_cases c : x &&& firstN n wh = 0
  · refine if_true_of (decide_eq_true c) (turn_of ?_)
    have hno := hxf.eq_zero.mp c
    have lt : Ls.length < m := by
      rcases Nat.lt_or_ge Ls.length m with h | h
      · exact h
      · have e : m = Ls.length := by omega
        obtain ⟨i, hf, hb⟩ := hm.1
        have := hno i hb.1.lt1
        rw [e] at hb
        rw [layB_iff.mpr hb, hf] at this
        cases this
    have hfr : Bits n ((besideN n (allC n) x &&& S) &&& (allC n ^^^ sn)) (layB n p (otherP n wh) (Ls.length + 1)) := (((hxb.beside n0).and hS).and (hsn.compl n0)).congr fun i hi => lay_next len1 hi
    refine ⟨_, rfl, a, dx, _, rfl, sF _ _ h1, fF_none, _, rfl, _, rfl, l, _, _, _, rfl, rfl, SqL.of upd_same, last_at hx, a, n, x, _, rfl, FR', hxb, _, rfl, _, _, rfl, rfl, _, rfl, a, A.cField, dx, _, _, rfl, sF _ _ h1, T.clField, T.nField_all_cells, fF_all, _, rfl, _, _, rfl, rfl, _, _, rfl, rfl, ?_⟩
    refine ⟨_, rfl, .inl ⟨rfl, _, SqL.of upd_same⟩, _, rfl, l, _, _, rfl, rfl, upd_same, ?_, ?_⟩
    · rw [vL_len]
      exact small1000 (by omega)
    refine ⟨_, rfl, _, rfl, _, _, rfl, rfl, ⟨Ls ++ [(besideN n (allC n) x &&& S) &&& (allC n ^^^ sn)], _, _, rfl, ?_, ?_, ?_, ?_, ?_⟩, ?_⟩
    · rw [upd_upd, vL_append]
      rfl
    · rw [List.length_append]
      omega
    · rw [List.length_append, List.length_singleton]
      omega
    · intro k y hy
      by_cases z : k < Ls.length
      · rw [List.getElem?_append_left z] at hy
        exact hLs k y hy
      · rw [List.getElem?_append_right (by omega)] at hy
        have hk : k - Ls.length = 0 := by
          rcases Nat.eq_zero_or_pos (k - Ls.length) with h | h
          · exact h
          · rw [List.getElem?_eq_none (by simp; omega)] at hy
            cases hy
        rw [hk] at hy
        have e : (besideN n (allC n) x &&& S) &&& (allC n ^^^ sn) = y := Option.some.inj hy
        rw [← e]
        have : k = Ls.length := by omega
        rw [this]
        exact hfr
    · rw [List.length_append, List.length_singleton]
      exact (hsn.or hfr).congr fun i _ => seen_next
    · show muL l m _ < muL l m _
      rw [muL_at upd_same, muL_at (upd_same (H := H)), List.length_append, vL_len]
      show m - (Ls.length + 1) < m - Ls.length
      omega
  · refine if_false_of (decide_eq_false c) ?_
    obtain ⟨i, hi, hb⟩ := hxf.ne_zero.mp c
    rw [Bool.and_eq_true, layB_iff] at hb
    have := hm.2 i _ hb.2 hb.1
    exact ⟨_, rfl, q l Ls hl (by omega) hLs⟩
/-! ### shortest_chain -/
theorem cells_first {n : Nat} {p : Nat → Bool} (h : ∃ i, i < n * n ∧ p i = true) : ∃ i, IsFirst n p i ∧ atI (vL (cellsL n p)) 0 = some (vN (2 ^ bidx n i)) := by
  cases e : (List.range (n * n)).filter p with
  | nil =>
    obtain ⟨i, hi, hp⟩ := h
    have : i ∈ (List.range (n * n)).filter p := List.mem_filter.mpr ⟨List.mem_range.mpr hi, hp⟩
    rw [e] at this
    cases this
  | cons i r =>
    refine ⟨i, isFirst_of e, ?_⟩
    unfold cellsL
    rw [e]
    exact atI_nat (j := 0) (by rfl)
theorem cut_but_last (Ls : List Nat) : cutV (vL Ls) none (some (-1)) = vL (Ls.take (Ls.length - 1)) := by
  rw [cutV_map, HT.sIx_none, List.drop_zero]
  have : HT.sIx Ls.length Ls.length (some (-1)) = Ls.length - 1 := by
    show (if (-1 : Int) < 0 then ((-1 : Int) + (Ls.length : Int)).toNat else min (-1 : Int).toNat Ls.length) = _
    rw [if_pos (by decide)]
    omega
  rw [this, Nat.sub_zero]
def sp_shortest_chain (A : Ad) : Sp := fun vs H Q _ => ∃ (a : Addr) (S : Nat) (B : Mu25.Board) (w : Bool), vs = [.ref a, .int (sI w), vN S] ∧ FieldR A H a B.n ∧ Bits B.n S (Mu25.mine B w) ∧ JoinP B.n w (Mu25.mine B w) ∧
  ∀ (H' : Hp) (l : Addr), Same H H' → H l = none → H' l = some (.lst (vL (pows B.n (Mu25.chain B w)))) → (Mu25.chain B w).length ≤ 121 → (∀ i ∈ Mu25.chain B w, i < B.n * B.n) → Q (.ref l) H'
theorem sc_shortest_chain : FnScope ["field", "side", "stones", "layers", "found", "layer"] ["field", "side", "stones"] (defScope s_shortest_chain) := ⟨rfl, rfl, rfl, by decide +kernel, rfl, by decide +kernel, by decide +kernel⟩
theorem ok_shortest_chain (T : Txt K mg A) : Kp P w K mg base CX0 3 A.f_shortest_chain ["field", "side", "stones"] (sp_shortest_chain A) := by
  refine T.d_shortest_chain.ok sc_shortest_chain (fun vs H Q E h => ?_) (fun cdv A' outer s H vs Q E hr h => ?_)
  · obtain ⟨a, S, B, w, rfl, _⟩ := h
    rfl
  obtain ⟨a, S, B, wh, rfl, FR, hS, hj, q⟩ := h
  obtain ⟨lb, lf, lo, F⟩ := id FR
  obtain ⟨dx, h1⟩ := F.at_
  have n0 : 0 < B.n := by have := F.n2; omega
  obtain ⟨m, hm⟩ := hj.most
  have mle := hm.le
  have m121 : m ≤ 121 := Nat.le_trans hm.le (sq_le F.n11)
  have mpos := hm.pos
  refine ⟨_, (pss_cons (ps_set (i := 3) sc_shortest_chain.nd rfl (Or.inl rfl) (pc (ok_layers_to T) T.g_layers_to hr (pa_cons (pv 0) (pa_cons (pv 1) (pa_cons (pv 2) pa_nil)))))
      (pss_cons (ps_set (i := 4) sc_shortest_chain.nd rfl (Or.inl rfl) (pe_lst (pa_cons (pe_ix ix_list (pm (pv 0) T.clField T.m_field_cells_in (ok_field_cells_in T) hr (pa_cons (pe_op op_andN (pe_ix ix_list (pv 3) (pe_un un_neg pe_int) (fun _ _ => rfl)) (pe_ix ix_list (pe_fld (pv 0) rfl) (pv 1) (fun _ _ => rfl))) pa_nil)) pe_int (fun _ _ => rfl)) pa_nil)))
      (pss_cons (ps_for PassesOwn.never rfl (pi_reversed rfl T.b_reversed (pa_cons (pe_slice sl_list (pv 3) po_none (po_some (pe_un un_neg pe_int))) pa_nil)) (pg_name (i := 5) sc_shortest_chain.nd rfl (Or.inl rfl)) (pss_one (ps_expr (pe_bm PySem.F.plainAttrs_list PySem.F.slot_list_append PySem.F.type_list_append mt_append (pv 4) (pa_cons (pe_ix ix_list (pm (pv 0) T.clField T.m_field_cells_in (ok_field_cells_in T) hr (pa_cons (pe_op op_andN (pv 5) (pm (pv 0) T.clField T.m_field_beside (ok_field_beside T) hr (pa_cons (pe_ix ix_list (pv 4) (pe_un un_neg pe_int) (fun _ _ => rfl)) pa_nil))) pa_nil)) pe_int (fun _ _ => rfl)) pa_nil)))))
      (pss_one (ps_ret (pv 4)))))), ?_⟩
  refine ⟨_, rfl, _, rfl, _, rfl, a, B.n, S, m, wh, _, rfl, FR, hS, hm, fun l Ls hl hlen hLs => ?_⟩
  have s1 := same_new hl (.lst (vL Ls))
  obtain ⟨x, hx⟩ : ∃ x, Ls[Ls.length - 1]? = some x := ⟨Ls[Ls.length - 1], List.getElem?_eq_getElem (by omega)⟩
  have hxb := hLs _ _ hx
  rw [show Ls.length - 1 + 1 = m by omega] at hxb
  have hxf := hxb.and (firstN_bits n0 wh)
  obtain ⟨c0, hc0, hat0⟩ := cells_first (n := B.n) (p := fun i => layB B.n (Mu25.mine B wh) (otherP B.n wh) m i && firstP B.n wh i) (by
    obtain ⟨i, hf, hb⟩ := hm.1
    exact ⟨i, hb.1.lt1, by simp [layB_iff.mpr hb, hf]⟩)
  obtain ⟨hch, hbest⟩ := chain_start hm hc0
  refine ⟨_, rfl, a, dx, _, rfl, s1 _ _ h1, fF_none, _, rfl, _, rfl, l, _, _, _, rfl, rfl, SqL.of upd_same, last_at hx, _, rfl, a, A.cField, dx, _, _, rfl, s1 _ _ h1, T.clField, T.nField_firsts, fF_firsts, _, rfl, lf, _, _, _, rfl, rfl, SqL.of (s1 _ _ F.fst), first_at wh, _, _, rfl, rfl, a, B.n, _, _, rfl, FR.same s1, hxf, fun lc nlc => ?_⟩
  refine ⟨lc, _, _, _, rfl, rfl, SqL.of upd_same, hat0, (by show 1 ≤ sizeLine; decide), fun f nf => ?_⟩
  have s2 := (s1.trans (same_new nlc (.lst (vL (cellsL B.n fun i => layB B.n (Mu25.mine B wh) (otherP B.n wh) m i && firstP B.n wh i))))).trans (same_new nf (.lst [vN (2 ^ bidx B.n c0)]))
  have l2 : (upd (upd (upd H l (.lst (vL Ls))) lc (.lst (vL (cellsL B.n fun i => layB B.n (Mu25.mine B wh) (otherP B.n wh) m i && firstP B.n wh i)))) f (.lst [vN (2 ^ bidx B.n c0)])) l = some (.lst (vL Ls)) :=
    ((same_new nlc _).trans (same_new nf _)) _ _ upd_same
  have f2 : (upd (upd (upd H l (.lst (vL Ls))) lc (.lst (vL (cellsL B.n fun i => layB B.n (Mu25.mine B wh) (otherP B.n wh) m i && firstP B.n wh i)))) f (.lst [vN (2 ^ bidx B.n c0)])) f = some (.lst [vN (2 ^ bidx B.n c0)]) := upd_same
  have nf0 : H f = none := (s1.trans (same_new nlc _)).free nf
  revert s2 l2 f2
  generalize upd (upd (upd H l (.lst (vL Ls))) lc (.lst (vL (cellsL B.n fun i => layB B.n (Mu25.mine B wh) (otherP B.n wh) m i && firstP B.n wh i)))) f (.lst [vN (2 ^ bidx B.n c0)]) = H2
  intro s2 l2 f2
  refine ⟨_, rfl, _, rfl, _, rfl, l, _, rfl, SqL.of l2, fun sl nsl => ?_⟩
  have fsl : f ≠ sl := ne_of_none f2 nsl
  have tl : (Ls.take (Ls.length - 1)).length = m - 1 := by
    rw [List.length_take]
    omega
  refine ⟨sl, _, rfl, SqL.of (upd_same.trans (congrArg (fun z => some (HO.lst z)) (cut_but_last Ls))), RT.for_Itv (K := K) (a := sl) (xs := vL (Ls.take (Ls.length - 1))) (fun t σ H' => ∃ (pre : List Nat) (c : Nat) (ly : Option V), σ = [some (.ref a), some (.int (sI wh)), some (vN S), some (.ref l), some (.ref f), ly] ∧ Same H H' ∧ H' sl = some (.lst (vL (Ls.take (Ls.length - 1)))) ∧
      H' f = some (.lst (vL (pows B.n (pre ++ [c])))) ∧ pre.length = t ∧ t + 1 ≤ m ∧ Mu25.chain B wh = pre ++ Mu25.follow B wh (Mu25.toOther B wh) (B.n * B.n - t) c ∧ Best B.n (cost1 (Mu25.mine B wh)) (otherP B.n wh) c (m - t) ∧ ∀ i ∈ pre, i < B.n * B.n) ?_ ?_ ?_ ?_⟩
  · refine ⟨[], c0, none, rfl, s2.trans (same_new nsl _), ?_, ?_, rfl, by omega, hch, hbest, fun i hi => nomatch hi⟩
    · rw [cut_but_last]
      exact upd_same
    · exact (upd_ne fsl).trans f2
  · rintro t σ H' ⟨pre, c, ly, rfl, s3, e3, _⟩
    exact SqL.of e3
  · rintro t v σ H' ht hv ⟨pre, c, ly, rfl, s3, e3, f3, hpl, htm, hchn, hb, hpre⟩
    rw [vL_len, tl] at ht hv
    obtain ⟨y, hy, rfl⟩ : ∃ y, Ls[m - 1 - 1 - t]? = some y ∧ v = vN y := by
      unfold vL at hv
      rw [List.getElem?_map, List.getElem?_take] at hv
      by_cases z : m - 1 - 1 - t < Ls.length - 1
      · rw [if_pos z] at hv
        cases hz : Ls[m - 1 - 1 - t]? with
        | none =>
          rw [hz] at hv
          cases hv
        | some y =>
          rw [hz] at hv
          exact ⟨y, rfl, (Option.some.inj hv).symm⟩
      · omega
    have hyb := hLs _ _ hy
    rw [show m - 1 - 1 - t + 1 = m - t - 1 by omega] at hyb
    have hcl := hb.1.lt1
    have hone := Bits.one n0 hcl
    have hyn := hyb.and (hone.beside n0)
    have hb' : Best B.n (cost1 (Mu25.mine B wh)) (otherP B.n wh) c (m - t - 1 + 1) := by
      rw [show m - t - 1 + 1 = m - t by omega]
      exact hb
    obtain ⟨j, hj, hat⟩ := cells_first (n := B.n) (p := fun j => layB B.n (Mu25.mine B wh) (otherP B.n wh) (m - t - 1) j && (nb B.n j).any fun a => a == c) (by
      obtain ⟨j, hj, hcj⟩ := hb'.before (by omega)
      have jl := hj.1.lt1
      refine ⟨j, jl, ?_⟩
      rw [Bool.and_eq_true, layB_iff, List.any_eq_true]
      exact ⟨hj, c, (nb_symm hcl jl).mp hcj, by simp⟩)
    obtain ⟨hnx, hbj⟩ := chain_next (k := B.n * B.n - t - 1) F.n2 (show 1 ≤ m - t - 1 by omega) hb' hj
    have FR3 := FR.same s3
    have lastc : atI (vL (pows B.n (pre ++ [c]))) (-1) = some (vN (2 ^ bidx B.n c)) := by
      rw [pows_append, vL_append]
      exact atI_last _ _
    refine ⟨_, rfl, .inl ⟨rfl, _, SqL.of f3⟩, _, rfl, a, dx, _, rfl, s3 _ _ h1, fF_none, _, rfl, _, rfl, a, dx, _, rfl, s3 _ _ h1, fF_none, _, rfl, _, rfl, f, _, _, _, rfl, rfl, SqL.of f3, lastc, a, B.n, _, _, rfl, FR3, hone, _, _, rfl, rfl, a, B.n, _, _, rfl, FR3, hyn, fun ld nld => ?_⟩
    have fld : f ≠ ld := ne_of_none f3 nld
    refine ⟨ld, _, _, _, rfl, rfl, SqL.of upd_same, hat, f, _, _, rfl, rfl, (upd_ne fld).trans f3, ?_, ?_⟩
    · rw [vL_len, pows_len, List.length_append, List.length_singleton]
      exact small1000 (by omega)
    refine ⟨pre ++ [c], j, some (vN y), rfl, fun b o e => ?_, ?_, ?_, ?_, by omega, ?_, ?_, ?_⟩
    · have z1 : b ≠ f := ne_of_none e nf0
      have z2 : b ≠ ld := ne_of_none (s3 b o e) nld
      rw [upd_ne z1, upd_ne z2]
      exact s3 b o e
    · have z1 : sl ≠ ld := ne_of_none e3 nld
      rw [upd_ne (Ne.symm fsl), upd_ne z1]
      exact e3
    · rw [upd_same, pows_append B.n (pre ++ [c]), vL_append]
      rfl
    · rw [List.length_append, hpl]
      rfl
    · rw [hchn, show B.n * B.n - t = B.n * B.n - t - 1 + 1 by omega, hnx, show B.n * B.n - (t + 1) = B.n * B.n - t - 1 by omega, List.append_assoc]
      rfl
    · rw [show m - (t + 1) = m - t - 1 by omega]
      exact hbj
    · intro i hi
      rcases List.mem_append.mp hi with z | z
      · exact hpre i z
      · rw [List.mem_singleton] at z
        subst z
        exact hcl
  · rintro σ H' ⟨pre, c, ly, rfl, s3, e3, f3, hpl, htm, hchn, hb, hpre⟩
    rw [vL_len, tl] at hpl hchn hb
    rw [show m - (m - 1) = 1 by omega] at hb
    have hend := chain_end (B := B) (w := wh) (k := B.n * B.n - (m - 1) - 1) hb
    rw [show B.n * B.n - (m - 1) - 1 + 1 = B.n * B.n - (m - 1) by omega] at hend
    rw [hend] at hchn
    refine ⟨_, rfl, q H' f s3 nf0 (by rw [hchn]; exact f3) ?_ ?_⟩
    · rw [hchn, List.length_append, hpl, List.length_singleton]
      omega
    · rw [hchn]
      intro i hi
      rcases List.mem_append.mp hi with z | z
      · exact hpre i z
      · rw [List.mem_singleton] at z
        subst z
        exact hb.1.lt1
end
end Hx
/-! W9: group_sizes, joining_cells. -/
namespace Hx
open PySem PySem.Spec PyProof.Rows L2
def sp_group_sizes (A : Ad) : Sp := fun vs H Q _ => ∃ (a : Addr) (S : Nat) (B : Mu25.Board) (w : Bool), vs = [.ref a, vN S] ∧ FieldR A H a B.n ∧ Bits B.n S (Mu25.mine B w) ∧
  ∀ (H' : Hp) (l : Addr), Same H H' → H l = none → H' l = some (.lst (vL ((Mu25.groupsOf B w).map fun g => g.length))) → (Mu25.groupsOf B w).length ≤ 121 → Q (.ref l) H'
def mu3 : List (Option V) → Nat
  | _ :: _ :: _ :: some (V.int f) :: _ => f.toNat
  | _ => 0
section
variable {P : Program} {w : World} {K : PySem.W.Frag} {mg : Str → Option Value} {base : Heap} {A : Ad}
theorem sc_group_sizes : FnScope ["field", "stones", "found", "left", "group"] ["field", "stones"] (defScope s_group_sizes) := ⟨rfl, rfl, rfl, by decide +kernel, rfl, by decide +kernel, by decide +kernel⟩
theorem ok_group_sizes (T : Txt K mg A) : Kp P w K mg base CX0 3 A.f_group_sizes ["field", "stones"] (sp_group_sizes A) := by
  refine T.d_group_sizes.ok sc_group_sizes (fun vs H Q E h => ?_) (fun cdv A' outer s H vs Q E hr h => ?_)
  · obtain ⟨a, S, B, w, rfl, _⟩ := h
    rfl
  obtain ⟨a, S, B, wh, rfl, FR, hS, q⟩ := h
  obtain ⟨lb, lf, lo, F⟩ := id FR
  obtain ⟨dx, h1⟩ := F.at_
  have n0 : 0 < B.n := by have := F.n2; omega
  have hsq := sq_le F.n11
  refine ⟨_, (pss_cons (ps_set (i := 2) sc_group_sizes.nd rfl (Or.inl rfl) (pe_lst pa_nil))
      (pss_cons (ps_set (i := 3) sc_group_sizes.nd rfl (Or.inl rfl) (pv 1))
      (pss_cons (ps_while PassesOwn.never (pt_cmpR op_neN (pv 3) pe_int (nomark _)) (pss_cons (ps_set (i := 4) sc_group_sizes.nd rfl (Or.inl rfl) (pm (pv 0) T.clField T.m_field_grown (ok_field_grown T) hr (pa_cons (pe_ix ix_list (pm (pv 0) T.clField T.m_field_cells_in (ok_field_cells_in T) hr (pa_cons (pv 3) pa_nil)) pe_int (fun _ _ => rfl)) (pa_cons (pv 1) pa_nil))))
      (pss_cons (ps_expr (pe_bm PySem.F.plainAttrs_list PySem.F.slot_list_append PySem.F.type_list_append mt_append (pv 2) (pa_cons (pe_callB call_len_seq rfl T.b_len PySem.boot_len (pa_cons (pm (pv 0) T.clField T.m_field_cells_in (ok_field_cells_in T) hr (pa_cons (pv 4) pa_nil)) pa_nil)) pa_nil)))
      (pss_one (ps_set (i := 3) sc_group_sizes.nd rfl (Or.inl rfl) (pe_op op_xorN (pv 3) (pv 4)))))))
      (pss_one (ps_ret (pv 2)))))), ?_⟩
  refine ⟨(by show 0 ≤ sizeLine; decide), fun l hl => ?_⟩
  refine ⟨_, rfl, ?_⟩
  have hS0 : Bits B.n S (leftB B wh []) := hS.congr fun i _ => by simp [leftB]
  refine while_my (fun σ H' => ∃ (gs : List (List Nat)) (m lft : Nat) (gr : Option V), σ = [some (.ref a), some (vN S), some (.ref l), some (vN lft), gr] ∧ Same H H' ∧ H' l = some (.lst (vL (gs.map fun g => g.length))) ∧ GrpIn B wh gs m ∧ gs.length ≤ m ∧ Bits B.n lft (leftB B wh gs))
    (fun σ _ => mu3 σ) ⟨[], 0, S, none, rfl, same_new hl _, upd_same, GrpIn.start B wh, Nat.le_refl _, hS0⟩ ?_
  rintro σ H' ⟨gs, m, lft, gr, rfl, s1, hl1, hg, hgm, hlft⟩
  have hml := hg.le
  refine ⟨_, rfl, _, 0, rfl, rfl, _, rfl, ?_⟩
  by_cases c : lft = 0
  · refine if_false_of (by simp [c]) ?_
    have hall := hg.stop (hlft.eq_zero.mp c)
    refine ⟨_, rfl, q H' l s1 hl (by rw [hall]; exact hl1) (by rw [hall]; omega)⟩
  · refine if_true_of (by simp [c]) (turn_of ?_)
    have FR1 := FR.same s1
    obtain ⟨i0, hi0, hat⟩ := cells_first (hlft.ne_zero.mp c)
    obtain ⟨hg2, hmi, heq⟩ := hg.turn hi0
    refine ⟨_, rfl, a, dx, _, rfl, s1 _ _ h1, fF_none, _, rfl, a, dx, _, rfl, s1 _ _ h1, fF_none, _, rfl, a, B.n, lft, _, rfl, FR1, hlft, fun l1 n1 => ?_⟩
    have s2 := same_new n1 (.lst (vL (cellsL B.n (leftB B wh gs))))
    refine ⟨l1, _, _, _, rfl, rfl, SqL.of upd_same, hat, _, rfl, a, B.n, _, S, _, _, rfl, FR1.same s2, Bits.one n0 hi0.1, hS, fun G hG => ?_⟩
    refine ⟨_, rfl, .inl ⟨rfl, _, SqL.of (s2 _ _ hl1)⟩, _, rfl, a, dx, _, rfl, s2 _ _ (s1 _ _ h1), fF_none, _, rfl, a, B.n, G, _, rfl, FR1.same s2, hG, fun l2 n2 => ?_⟩
    have s3 := s2.trans (same_new n2 (.lst (vL (cellsL B.n (grownP B.n (fun j => j == i0) (Mu25.mine B wh))))))
    refine ⟨l2, _, rfl, .inl (SqL.of upd_same), l, _, _, rfl, rfl, s3 _ _ hl1, ?_, ?_⟩
    · rw [vL_len, List.length_map]
      exact small1000 (by omega)
    have hG2 := hlft.xor hG
    have hG3 : Bits B.n (lft ^^^ G) (leftB B wh (gs ++ [groupOf B wh i0])) := hG2.congr heq
    refine ⟨_, rfl, _, rfl, _, _, rfl, rfl, ⟨gs ++ [groupOf B wh i0], i0 + 1, _, _, rfl, fun b o e => ?_, ?_, hg2, ?_, hG3⟩, ?_⟩
    · rw [upd_ne (ne_of_none e hl)]
      exact s3 _ _ (s1 b o e)
    · rw [upd_same, List.map_append, vL_append]
      have e : (groupOf B wh i0).length = (vL (cellsL B.n (grownP B.n (fun j => j == i0) (Mu25.mine B wh)))).length := by
        rw [vL_len, cellsL, pows_len, groupOf_len hi0.1]
      show _ = some (HO.lst (_ ++ [vN (groupOf B wh i0).length]))
      rw [e]
      rfl
    · rw [List.length_append, List.length_singleton]
      omega
    · show ((lft ^^^ G : Nat) : Int).toNat < (lft : Int).toNat
      rw [Int.toNat_natCast, Int.toNat_natCast]
      have hsub : ∀ i, i < B.n * B.n → grownP B.n (fun j => j == i0) (Mu25.mine B wh) i = true → leftB B wh gs i = true := by
        intro i hi hgi
        cases hl' : leftB B wh gs i with
        | true => rfl
        | false =>
          have h5 := heq i hi
          rw [hl', hgi] at h5
          have h6 : leftB B wh (gs ++ [groupOf B wh i0]) i = true := h5.symm
          unfold leftB at h6 hl'
          rw [List.any_append] at h6
          revert h6 hl'
          cases Mu25.mine B wh i <;> cases (gs.any fun g => g.contains i) <;> simp
      have hz : (lft ^^^ G) &&& G = 0 := (hG2.and hG).eq_zero.mpr fun i hi => by
        cases hgi : grownP B.n (fun j => j == i0) (Mu25.mine B wh) i with
        | false => rw [Bool.and_false]
        | true => rw [hsub i hi hgi]; rfl
      have hor : (lft ^^^ G) ||| G = lft := (hG2.or hG).ext hlft fun i hi => by
        cases hgi : grownP B.n (fun j => j == i0) (Mu25.mine B wh) i with
        | false => cases leftB B wh gs i <;> rfl
        | true => rw [hsub i hi hgi]; rfl
      have hgz : G ≠ 0 := hG.ne_zero.mpr ⟨i0, hi0.1, grownP_iff.mpr (.base hi0.1 (by simp))⟩
      have h7 := or_gt hz hgz
      rw [hor] at h7
      exact h7
/-! ### joining_cells -/
def sp_joining_cells (A : Ad) : Sp := fun vs H Q _ => ∃ (a : Addr) (n S M : Nat) (w : Bool) (p e : Nat → Bool), vs = [.ref a, .int (sI w), vN S, vN M] ∧ FieldR A H a n ∧ Bits n S p ∧ Bits n M e ∧
  ∀ (H' : Hp) (l : Addr), Same H H' → H l = none → H' l = some (.lst (vL (pows n (((List.range (n * n)).filter e).filter fun i => joinB n w fun j => p j || j == i)))) → Q (.ref l) H'
theorem cellsL_at {n i : Nat} {p : Nat → Bool} {x : V} (h : (vL (cellsL n p))[i]? = some x) : ∃ j, ((List.range (n * n)).filter p)[i]? = some j ∧ x = vN (2 ^ bidx n j) ∧ j < n * n ∧ p j = true := by
  unfold vL cellsL pows at h
  rw [List.getElem?_map, List.getElem?_map] at h
  cases e : ((List.range (n * n)).filter p)[i]? with
  | none =>
    rw [e] at h
    cases h
  | some j =>
    rw [e] at h
    have hm := List.mem_of_getElem? e
    obtain ⟨h1, h2⟩ := List.mem_filter.mp hm
    exact ⟨j, rfl, (Option.some.inj h).symm, List.mem_range.mp h1, h2⟩
theorem cellsL_len (n : Nat) (p : Nat → Bool) : (vL (cellsL n p)).length = ((List.range (n * n)).filter p).length := by
  rw [vL_len]
  unfold cellsL
  rw [pows_len]
theorem cells_le {n : Nat} (h : n ≤ 11) (p : Nat → Bool) : ((List.range (n * n)).filter p).length ≤ 121 := by
  refine Nat.le_trans (List.length_filter_le _ _) ?_
  rw [List.length_range]
  exact sq_le h
theorem sc_joining_cells : FnScope ["field", "side", "stones", "empty", "found", "bit"] ["field", "side", "stones", "empty"] (defScope s_joining_cells) := ⟨rfl, rfl, rfl, by decide +kernel, rfl, by decide +kernel, by decide +kernel⟩
theorem ok_joining_cells (T : Txt K mg A) : Kp P w K mg base CX0 4 A.f_joining_cells ["field", "side", "stones", "empty"] (sp_joining_cells A) := by
  refine T.d_joining_cells.ok sc_joining_cells (fun vs H Q E h => ?_) (fun cdv A' outer s H vs Q E hr h => ?_)
  · obtain ⟨a, n, S, M, w, p, e, rfl, _⟩ := h
    rfl
  obtain ⟨a, n, S, M, wh, p, e, rfl, FR, hS, hM, q⟩ := h
  obtain ⟨lb, lf, lo, F⟩ := id FR
  obtain ⟨dx, h1⟩ := F.at_
  have n0 : 0 < n := by have := F.n2; omega
  have hc := cells_le F.n11 e
  refine ⟨_, (pss_cons (ps_set (i := 4) sc_joining_cells.nd rfl (Or.inl rfl) (pe_lst pa_nil))
      (pss_cons (ps_for PassesOwn.never rfl (pi_list (pm (pv 0) T.clField T.m_field_cells_in (ok_field_cells_in T) hr (pa_cons (pv 3) pa_nil))) (pg_name (i := 5) sc_joining_cells.nd rfl (Or.inl rfl)) (pss_one (ps_if (pt_val (pm (pv 0) T.clField T.m_field_is_joined (ok_field_is_joined T) hr (pa_cons (pv 1) (pa_cons (pe_op op_orN (pv 2) (pv 5)) pa_nil)))) (pss_one (ps_expr (pe_bm PySem.F.plainAttrs_list PySem.F.slot_list_append PySem.F.type_list_append mt_append (pv 4) (pa_cons (pv 5) pa_nil)))) pss_nil)))
      (pss_one (ps_ret (pv 4))))), ?_⟩
  refine ⟨(by show 0 ≤ sizeLine; decide), fun l hl => ?_⟩
  have s0 := same_new hl (.lst [])
  refine ⟨_, rfl, a, dx, _, rfl, s0 _ _ h1, fF_none, _, rfl, a, n, M, e, rfl, FR.same s0, hM, fun lc nlc => ?_⟩
  have s1 := s0.trans (same_new nlc (.lst (vL (cellsL n e))))
  have llc : l ≠ lc := ne_of_none upd_same nlc
  refine ⟨lc, rfl, ⟨_, SqL.of upd_same⟩, for_list (K := K) (a := lc) (xs := vL (cellsL n e)) (fun i σ H' => ∃ bt : Option V, σ = [some (.ref a), some (.int (sI wh)), some (vN S), some (vN M), some (.ref l), bt] ∧ H' = upd (upd H lc (.lst (vL (cellsL n e)))) l (.lst (vL (pows n ((((List.range (n * n)).filter e).take i).filter fun i => joinB n wh fun j => p j || j == i))))) ?_ ?_ ?_ ?_⟩
  · refine ⟨none, rfl, ?_⟩
    funext b
    by_cases z : b = l
    · subst z
      rw [upd_same, upd_ne llc, upd_same]
      rfl
    · rw [upd_ne z]
      by_cases y : b = lc
      · subst y
        rw [upd_same, upd_same]
      · rw [upd_ne y, upd_ne z, upd_ne y]
  · rintro i σ H' hi ⟨bt, rfl, rfl⟩
    refine SqL.of ?_
    rw [upd_ne (Ne.symm llc)]
    exact upd_same
  · rintro i x σ H' hx ⟨bt, rfl, rfl⟩
    obtain ⟨j, hj, rfl, hjl, hej⟩ := cellsL_at hx
    have hlc0 : H lc = none := s0.free nlc
    have s2 : ∀ o, Same H (upd (upd H lc (.lst (vL (cellsL n e)))) l o) := fun o b u q => by
      rw [upd_ne (ne_of_none q hl), upd_ne (ne_of_none q hlc0)]
      exact q
    have hbits : Bits n (S ||| 2 ^ bidx n j) (fun i => p i || i == j) := hS.or (Bits.one n0 hjl)
    refine ⟨_, rfl, a, dx, _, rfl, s2 _ _ _ h1, fF_none, _, rfl, _, rfl, _, rfl, _, _, rfl, rfl, a, n, _, wh, _, rfl, FR.same (s2 _), hbits, _, rfl, ?_⟩
    have e1 := take_more hj
    cases hb : joinB n wh fun i => p i || i == j with
    | true =>
      refine iteT ⟨_, rfl, .inl ⟨rfl, _, SqL.of upd_same⟩, _, rfl, l, _, _, rfl, rfl, upd_same, ?_, _, rfl, ?_⟩
      · rw [vL_len, pows_len]
        refine small1000 (Nat.le_trans (List.length_filter_le _ _) ?_)
        rw [List.length_take]
        omega
      · rw [upd_upd, e1, List.filter_append, pows_append, vL_append]
        simp [hb, pows, vL]
    | false =>
      refine iteF ⟨_, rfl, ?_⟩
      rw [e1, List.filter_append]
      simp [hb]
  · rintro σ H' ⟨bt, rfl, rfl⟩
    have hlc0 : H lc = none := s0.free nlc
    refine ⟨_, rfl, q _ l (fun b u q => ?_) hl ?_⟩
    · rw [upd_ne (ne_of_none q hl), upd_ne (ne_of_none q hlc0)]
      exact q
    · rw [upd_same, cellsL_len, List.take_of_length_le (Nat.le_refl _)]
end
end Hx
/-! W10: Game's methods. -/
namespace Hx
open PySem PySem.Spec PyProof.Rows L2
open Mu25 (Game)
def gF (f lp : Addr) (sw : Bool) : List (Str × V) := [("field", .ref f), ("put", .ref lp), ("is_swapped", .bl sw)]
section
variable {f lp : Addr} {sw : Bool}
theorem gF_field : (gF f lp sw).lookup ("field" : Str) = some (.ref f) := lk_here
theorem gF_put : (gF f lp sw).lookup ("put" : Str) = some (.ref lp) := (lk_past (by decide +kernel)).trans lk_here
theorem gF_sw : (gF f lp sw).lookup ("is_swapped" : Str) = some (.bl sw) := (lk_past (by decide +kernel)).trans ((lk_past (by decide +kernel)).trans lk_here)
theorem gF_none {m : Str} (h : ((m == ("field" : Str)) || (m == ("put" : Str)) || (m == ("is_swapped" : Str))) = false := by decide +kernel) : (gF f lp sw).lookup m = none := by
  simp only [Bool.or_eq_false_iff] at h
  obtain ⟨⟨h1, h2⟩, h3⟩ := h
  exact (lk_past h1).trans ((lk_past h2).trans ((lk_past h3).trans rfl))
theorem gF_setSw (b : Bool) : putF "is_swapped" (.bl b) (gF f lp sw) = gF f lp b := (put_past (by decide +kernel)).trans (congrArg _ ((put_past (by decide +kernel)).trans (congrArg _ put_here)))
theorem gF_setPut (l2 : Addr) : putF "put" (.ref l2) (gF f lp sw) = gF f l2 sw := (put_past (by decide +kernel)).trans (congrArg _ put_here)
end
structure GameAt (A : Ad) (H : Hp) (g lp : Addr) (G : Game) (dx f lb lf lo : Addr) : Prop where
  at_ : H g = some (.ins A.cGame dx (gF f lp G.swapped))
  fld : FieldAt A H f G.n lb lf lo
  put : H lp = some (.lst (vL (pows G.n G.moves)))
  nb : lb ≠ lp
  nf : lf ≠ lp
  no : lo ≠ lp
  ok : GOk G
def GameR (A : Ad) (H : Hp) (g lp : Addr) (G : Game) : Prop := ∃ dx f lb lf lo, GameAt A H g lp G dx f lb lf lo
def GameL (A : Ad) (H : Hp) (g lp lb lf lo : Addr) (G : Game) : Prop := ∃ dx f, GameAt A H g lp G dx f lb lf lo
section
variable {A : Ad} {H H' : Hp} {g lp : Addr} {G : Game} {dx f lb lf lo : Addr}
theorem GameAt.same (a : GameAt A H g lp G dx f lb lf lo) (s : Same H H') : GameAt A H' g lp G dx f lb lf lo := ⟨s _ _ a.at_, a.fld.same s, s _ _ a.put, a.nb, a.nf, a.no, a.ok⟩
theorem GameR.same (a : GameR A H g lp G) (s : Same H H') : GameR A H' g lp G := by
  obtain ⟨dx, f, lb, lf, lo, a⟩ := a
  exact ⟨dx, f, lb, lf, lo, a.same s⟩
theorem GameL.same (a : GameL A H g lp lb lf lo G) (s : Same H H') : GameL A H' g lp lb lf lo G := by
  obtain ⟨dx, f, a⟩ := a
  exact ⟨dx, f, a.same s⟩
theorem GameL.r (a : GameL A H g lp lb lf lo G) : GameR A H g lp G := by
  obtain ⟨dx, f, a⟩ := a
  exact ⟨dx, f, lb, lf, lo, a⟩
theorem GameAt.fr (a : GameAt A H g lp G dx f lb lf lo) : FieldR A H f G.n := ⟨lb, lf, lo, a.fld⟩
theorem moves_le (a : GOk G) : G.moves.length ≤ 121 := by
  have := a.nd.length_le_of_subset (l₂ := List.range (G.n * G.n)) fun i hi => List.mem_range.mpr (a.lt i hi)
  rw [List.length_range] at this
  exact Nat.le_trans this (sq_le a.n11)
end
def stonesN (G : Game) (w : Bool) : Nat := (pows G.n (movesOf w G.moves)).sum
def emptyN (G : Game) : Nat := allC G.n ^^^ (pows G.n G.moves).sum
def wonV : Option Bool → V
  | some w => .int (sI w)
  | none => .non
def canB (G : Game) (r c : Nat) : Bool := (decide (r < G.n) && decide (c < G.n)) && ((Mu25.won G).isNone && (Mu25.place (Mu25.board G) (r * G.n + c)).isNone)
def sp_game_init (A : Ad) : Sp := fun vs H Q _ => ∃ (p dx : Addr) (n : Nat), vs = [.ref p, vN n] ∧ H p = some (.ins A.cGame dx []) ∧ 2 ≤ n ∧ n ≤ 11 ∧
  ∀ (H' : Hp) (lp lb lf lo : Addr), GameL A H' p lp lb lf lo ⟨n, [], false⟩ → H lp = none → H lb = none → H lf = none → H lo = none → (∀ b o, H b = some o → b ≠ p → H' b = some o) → Q .non H'
def sp_game_side (A : Ad) : Sp := fun vs H Q _ => ∃ (g lp : Addr) (G : Game), vs = [.ref g] ∧ GameR A H g lp G ∧ Q (.int (sI (Mu25.turn G))) H
def sp_game_stones (A : Ad) : Sp := fun vs H Q _ => ∃ (g lp : Addr) (G : Game) (w : Bool), vs = [.ref g, .int (sI w)] ∧ GameR A H g lp G ∧ ∀ H', Same H H' → Q (vN (stonesN G w)) H'
def sp_game_empty (A : Ad) : Sp := fun vs H Q _ => ∃ (g lp : Addr) (G : Game), vs = [.ref g] ∧ GameR A H g lp G ∧ Q (vN (emptyN G)) H
def sp_game_player_of (A : Ad) : Sp := fun vs H Q _ => ∃ (g lp : Addr) (G : Game) (w : Bool), vs = [.ref g, .int (sI w)] ∧ GameR A H g lp G ∧ Q (vN (Mu25.player G w)) H
def sp_game_winner (A : Ad) : Sp := fun vs H Q _ => ∃ (g lp : Addr) (G : Game), vs = [.ref g] ∧ GameR A H g lp G ∧ ∀ H', Same H H' → Q (wonV (Mu25.won G)) H'
def sp_game_standing (A : Ad) : Sp := fun vs H Q _ => ∃ (g lp : Addr) (G : Game), vs = [.ref g] ∧ GameR A H g lp G ∧ ∀ H' l, Same H H' → H l = none → H' l = some (.lst ((Mu25.lookNums G).map V.int)) → Q (.ref l) H'
def sp_game_copy (A : Ad) : Sp := fun vs H Q _ => ∃ (g lp : Addr) (G : Game), vs = [.ref g] ∧ GameR A H g lp G ∧ ∀ H' g2 lp2, Same H H' → H g2 = none → H lp2 = none → GameR A H' g2 lp2 G → Q (.ref g2) H'
def sp_game_can_put (A : Ad) : Sp := fun vs H Q _ => ∃ (g lp : Addr) (G : Game) (r c : Nat), vs = [.ref g, vN r, vN c] ∧ GameR A H g lp G ∧ ∀ H', Same H H' → Q (.bl (canB G r c)) H'
def sp_game_put_stone (A : Ad) : Sp := fun vs H Q _ => ∃ (g lp lb lf lo : Addr) (G : Game) (r c : Nat), vs = [.ref g, vN r, vN c] ∧ GameL A H g lp lb lf lo G ∧ canB G r c = true ∧
  ∀ H', GameL A H' g lp lb lf lo { G with moves := G.moves ++ [r * G.n + c] } → (∀ b o, H b = some o → b ≠ lp → H' b = some o) → Q .non H'
def sp_game_take_back (A : Ad) : Sp := fun vs H Q _ => ∃ (g lp lb lf lo : Addr) (G : Game), vs = [.ref g] ∧ GameL A H g lp lb lf lo G ∧ G.moves ≠ [] ∧
  ∀ H', GameL A H' g lp lb lf lo { G with moves := G.moves.take (G.moves.length - 1), swapped := G.swapped && decide (1 < G.moves.length) } → (∀ b o, H b = some o → b ≠ lp → b ≠ g → H' b = some o) → Q .non H'
section
variable {P : Program} {w : World} {K : PySem.W.Frag} {mg : Str → Option Value} {base : Heap} {A : Ad}
theorem sc_game_side : FnScope ["self"] ["self"] (defScope s_game_side) := ⟨rfl, rfl, rfl, by decide +kernel, rfl, by decide +kernel, by decide +kernel⟩
theorem ok_game_side (T : Txt K mg A) : Kp P w K mg base CX0 1 A.f_game_side ["self"] (sp_game_side A) := by
  refine T.d_game_side.ok sc_game_side (fun vs H Q E h => ?_) (fun cdv A' outer s H vs Q E hr h => ?_)
  · obtain ⟨g, lp, G, rfl, _⟩ := h
    rfl
  obtain ⟨g, lp, G, rfl, ⟨dx, f, lb, lf, lo, a⟩, q⟩ := h
  refine ⟨_, (pss_one (ps_ret (pe_op op_modN (pe_callB call_len_seq rfl T.b_len PySem.boot_len (pa_cons (pe_fld (pv 0) rfl) pa_nil)) pe_int))), ?_⟩
  refine ⟨_, rfl, g, A.cGame, dx, _, _, rfl, a.at_, T.clGame, T.nGame_put, gF_put, lp, _, rfl, .inl (SqL.of a.put), _, _, rfl, rfl, (by show (2 : Int) ≠ 0; decide), ?_⟩
  refine Q_eq (congrArg V.int ?_) q
  rw [vL_len, pows_len]
  refine (fmod_nat G.moves.length 2).trans ?_
  unfold Mu25.turn sI
  rcases Nat.mod_two_eq_zero_or_one G.moves.length with h | h <;> rw [h] <;> rfl
theorem sc_game_stones : FnScope ["self", "side"] ["self", "side"] (defScope s_game_stones) := ⟨rfl, rfl, rfl, by decide +kernel, rfl, by decide +kernel, by decide +kernel⟩
theorem ok_game_stones (T : Txt K mg A) : Kp P w K mg base CX0 1 A.f_game_stones ["self", "side"] (sp_game_stones A) := by
  refine T.d_game_stones.ok sc_game_stones (fun vs H Q E h => ?_) (fun cdv A' outer s H vs Q E hr h => ?_)
  · obtain ⟨g, lp, G, w, rfl, _⟩ := h
    rfl
  obtain ⟨g, lp, G, wh, rfl, ⟨dx, f, lb, lf, lo, a⟩, q⟩ := h
  refine ⟨_, (pss_one (ps_ret (pe_callB (cr_sumN rfl) rfl T.b_sum (by decide +kernel) (pa_cons (pe_sliceS (pe_fld (pv 0) rfl) (po_some (pv 1)) po_none pe_int) pa_nil)))), ?_⟩
  refine ⟨_, rfl, g, A.cGame, dx, _, _, rfl, a.at_, T.clGame, T.nGame_put, gF_put, _, rfl, _, rfl, lp, _, _, rfl, rfl, by decide, SqL.of a.put, fun p hp => ?_⟩
  refine ⟨p, pows G.n (movesOf wh G.moves), rfl, SqL.of ?_, q _ (same_new hp _)⟩
  rw [upd_same]
  unfold vL pows
  rw [pickL_map, pickL_map, pick_side]
theorem sc_game_empty : FnScope ["self"] ["self"] (defScope s_game_empty) := ⟨rfl, rfl, rfl, by decide +kernel, rfl, by decide +kernel, by decide +kernel⟩
theorem ok_game_empty (T : Txt K mg A) : Kp P w K mg base CX0 1 A.f_game_empty ["self"] (sp_game_empty A) := by
  refine T.d_game_empty.ok sc_game_empty (fun vs H Q E h => ?_) (fun cdv A' outer s H vs Q E hr h => ?_)
  · obtain ⟨g, lp, G, rfl, _⟩ := h
    rfl
  obtain ⟨g, lp, G, rfl, ⟨dx, f, lb, lf, lo, a⟩, q⟩ := h
  obtain ⟨dF, hF⟩ := a.fld.at_
  refine ⟨_, (pss_one (ps_ret (pe_op op_xorN (pe_fld (pe_fld (pv 0) rfl) rfl) (pe_callB (cr_sumN rfl) rfl T.b_sum (by decide +kernel) (pa_cons (pe_fld (pv 0) rfl) pa_nil))))), ?_⟩
  exact ⟨_, rfl, g, A.cGame, dx, _, _, rfl, a.at_, T.clGame, T.nGame_field, gF_field, f, A.cField, dF, _, _, rfl, hF, T.clField, T.nField_all_cells, fF_all, _, rfl, g, A.cGame, dx, _, _, rfl, a.at_, T.clGame, T.nGame_put, gF_put, lp, _, rfl, SqL.of a.put, _, _, rfl, rfl, q⟩
theorem sc_game_player_of : FnScope ["self", "side"] ["self", "side"] (defScope s_game_player_of) := ⟨rfl, rfl, rfl, by decide +kernel, rfl, by decide +kernel, by decide +kernel⟩
theorem ok_game_player_of (T : Txt K mg A) : Kp P w K mg base CX0 1 A.f_game_player_of ["self", "side"] (sp_game_player_of A) := by
  refine T.d_game_player_of.ok sc_game_player_of (fun vs H Q E h => ?_) (fun cdv A' outer s H vs Q E hr h => ?_)
  · obtain ⟨g, lp, G, w, rfl, _⟩ := h
    rfl
  obtain ⟨g, lp, G, wh, rfl, ⟨dx, f, lb, lf, lo, a⟩, q⟩ := h
  refine ⟨_, (pss_one (ps_ret (pe_op op_xor (pv 1) (pe_callTy call_int1 rfl T.b_int (by decide +kernel) (pa_cons (pe_fld (pv 0) rfl) pa_nil))))), ?_⟩
  refine ⟨_, rfl, _, rfl, g, A.cGame, dx, _, _, rfl, a.at_, T.clGame, T.nGame_is_swapped, gF_sw, .inr ⟨_, rfl, _, _, rfl, rfl, ?_⟩⟩
  refine Q_eq (congrArg V.int ?_) q
  unfold Mu25.player
  cases wh <;> cases G.swapped <;> decide
theorem won_joined (G : Game) : Mu25.won G = if joinB G.n false (Mu25.mine (Mu25.board G) false) = true then some false else if joinB G.n true (Mu25.mine (Mu25.board G) true) = true then some true else none := by
  unfold Mu25.won
  rw [joined_eq, joined_eq, board_n]
theorem sc_game_winner : FnScope ["self", "side"] ["self"] (defScope s_game_winner) := ⟨rfl, rfl, rfl, by decide +kernel, rfl, by decide +kernel, by decide +kernel⟩
theorem ok_game_winner (T : Txt K mg A) : Kp P w K mg base CX0 4 A.f_game_winner ["self"] (sp_game_winner A) := by
  refine T.d_game_winner.ok sc_game_winner (fun vs H Q E h => ?_) (fun cdv A' outer s H vs Q E hr h => ?_)
  · obtain ⟨g, lp, G, rfl, _⟩ := h
    rfl
  obtain ⟨g, lp, G, rfl, GR, q⟩ := h
  obtain ⟨dx, f, lb, lf, lo, a⟩ := id GR
  obtain ⟨dF, hF⟩ := a.fld.at_
  refine ⟨_, (pss_cons (ps_for PassesOwn.never rfl (pi_tup (pe_tup (pa_cons pe_int (pa_cons pe_int pa_nil)))) (pg_name (i := 1) sc_game_winner.nd rfl (Or.inl rfl)) (pss_one (ps_if (pt_val (pm (pe_fld (pv 0) rfl) T.clField T.m_field_is_joined (ok_field_is_joined T) hr (pa_cons (pv 1) (pa_cons (pm (pv 0) T.clGame T.m_game_stones (ok_game_stones T) hr (pa_cons (pv 1) pa_nil)) pa_nil)))) (pss_one (ps_ret (pv 1))) pss_nil)))
      (pss_one (ps_ret pe_non))), ?_⟩
  refine ⟨(by show 2 ≤ sizeLine; decide), fun t nt => ⟨t, rfl, ⟨_, SqT.of upd_same⟩, for_tup (K := K) (a := t) (xs := [.int 0, .int 1]) (fun i σ H' => ∃ sv : Option V, σ = [some (.ref g), sv] ∧ Same H H' ∧ H' t = some (.tup [.int 0, .int 1]) ∧ (1 ≤ i → joinB G.n false (Mu25.mine (Mu25.board G) false) = false) ∧ (2 ≤ i → joinB G.n true (Mu25.mine (Mu25.board G) true) = false)) ?_ ?_ ?_ ?_⟩⟩
  · exact ⟨none, rfl, same_new nt _, upd_same, fun z => by omega, fun z => by omega⟩
  · rintro i σ H' _ ⟨sv, _, _, ht, _⟩
    exact SqT.of ht
  · rintro i x σ H' hx ⟨sv, rfl, s1, ht, k1, k2⟩
    obtain ⟨wh, rfl, hi⟩ : ∃ wh : Bool, x = .int (sI wh) ∧ i = if wh = true then 1 else 0 := by
      match i, hx with
      | 0, hx => exact ⟨false, (Option.some.inj hx).symm, rfl⟩
      | 1, hx => exact ⟨true, (Option.some.inj hx).symm, rfl⟩
      | i + 2, hx => simp at hx
    refine ⟨_, rfl, g, A.cGame, dx, _, _, rfl, s1 _ _ a.at_, T.clGame, T.nGame_field, gF_field, f, dF, _, rfl, s1 _ _ hF, fF_none, _, rfl, _, rfl, g, dx, _, rfl, s1 _ _ a.at_, gF_none, _, rfl, g, lp, G, wh, rfl, GR.same s1, fun H2 s2 => ?_⟩
    refine ⟨f, G.n, stonesN G wh, wh, _, rfl, (a.fr.same s1).same s2, a.ok.stones wh, _, rfl, ?_⟩
    cases hb : joinB G.n wh (Mu25.mine (Mu25.board G) wh) with
    | true =>
      refine iteT ⟨_, rfl, ?_⟩
      have hw : Mu25.won G = some wh := by
        rw [won_joined]
        cases wh with
        | false => rw [hb]; rfl
        | true =>
          have hi' : i = 1 := hi
          rw [k1 (by omega), hb]
          rfl
      have z := q H2 (s1.trans s2)
      rw [hw] at z
      exact z
    | false =>
      refine iteF ⟨_, rfl, s1.trans s2, s2 _ _ ht, fun z => ?_, fun z => ?_⟩
      · cases wh with
        | false => exact hb
        | true =>
          have hi' : i = 1 := hi
          exact k1 (by omega)
      · cases wh with
        | false =>
          have hi' : i = 0 := hi
          omega
        | true => exact hb
  · rintro σ H' ⟨sv, rfl, s1, ht, k1, k2⟩
    have hw : Mu25.won G = none := by
      rw [won_joined, k1 (by show 1 ≤ 2; decide), k2 (by show 2 ≤ 2; decide)]
      rfl
    have z := q H' s1
    rw [hw] at z
    exact z
theorem sc_game_standing : FnScope ["self", "won", "player"] ["self"] (defScope s_game_standing) := ⟨rfl, rfl, rfl, by decide +kernel, rfl, by decide +kernel, by decide +kernel⟩
theorem ok_game_standing (T : Txt K mg A) : Kp P w K mg base CX0 5 A.f_game_standing ["self"] (sp_game_standing A) := by
  refine T.d_game_standing.ok sc_game_standing (fun vs H Q E h => ?_) (fun cdv A' outer s H vs Q E hr h => ?_)
  · obtain ⟨g, lp, G, rfl, _⟩ := h
    rfl
  obtain ⟨g, lp, G, rfl, GR, q⟩ := h
  obtain ⟨dx, f, lb, lf, lo, a⟩ := id GR
  refine ⟨_, (pss_cons (ps_set (i := 1) sc_game_standing.nd rfl (Or.inl rfl) (pm0 (pv 0) T.clGame T.m_game_winner (ok_game_winner T) hr))
      (pss_cons (ps_set (i := 2) sc_game_standing.nd rfl (Or.inl rfl) (pgl T.iNOBODY))
      (pss_cons (ps_if (pt_cmpR op_notN (pv 1) pe_non (nomark _)) (pss_one (ps_set (i := 2) sc_game_standing.nd rfl (Or.inl rfl) (pm (pv 0) T.clGame T.m_game_player_of (ok_game_player_of T) hr (pa_cons (pv 1) pa_nil)))) pss_nil)
      (pss_one (ps_ret (pe_lst (pa_cons (pe_callB call_len_seq rfl T.b_len PySem.boot_len (pa_cons (pe_fld (pv 0) rfl) pa_nil)) (pa_cons (pm0 (pv 0) T.clGame T.m_game_side (ok_game_side T) hr) (pa_cons (pm (pv 0) T.clGame T.m_game_player_of (ok_game_player_of T) hr (pa_cons (pm0 (pv 0) T.clGame T.m_game_side (ok_game_side T) hr) pa_nil)) (pa_cons (pv 2) pa_nil)))))))))), ?_⟩
  refine ⟨_, rfl, g, dx, _, rfl, a.at_, gF_none, g, lp, G, rfl, GR, fun H1 s1 => ?_⟩
  have GR1 := GR.same s1
  have a1 := a.same s1
  refine ⟨_, rfl, rfl, _, rfl, ?_⟩
  cases hw : Mu25.won G with
  | none =>
    refine if_false_of (by rfl) ?_
    refine ⟨_, rfl, g, A.cGame, dx, _, _, rfl, a1.at_, T.clGame, T.nGame_put, gF_put, lp, _, rfl, .inl (SqL.of a1.put), _, rfl, g, dx, _, rfl, a1.at_, gF_none, g, lp, G, rfl, GR1, _, rfl, g, dx, _, rfl, a1.at_, gF_none, _, rfl, g, dx, _, rfl, a1.at_, gF_none, g, lp, G, rfl, GR1, g, lp, G, _, rfl, GR1, _, rfl, (by show 4 ≤ sizeLine; decide), fun l nl => ?_⟩
    refine q _ l (s1.trans (same_new nl _)) (s1.free nl) ?_
    rw [upd_same]
    unfold Mu25.lookNums
    rw [hw, vL_len, pows_len]
    rfl
  | some wh =>
    refine if_true_of (by rfl) ?_
    refine ⟨_, rfl, g, dx, _, rfl, a1.at_, gF_none, _, rfl, g, lp, G, wh, rfl, GR1, ?_⟩
    refine ⟨_, rfl, g, A.cGame, dx, _, _, rfl, a1.at_, T.clGame, T.nGame_put, gF_put, lp, _, rfl, .inl (SqL.of a1.put), _, rfl, g, dx, _, rfl, a1.at_, gF_none, g, lp, G, rfl, GR1, _, rfl, g, dx, _, rfl, a1.at_, gF_none, _, rfl, g, dx, _, rfl, a1.at_, gF_none, g, lp, G, rfl, GR1, g, lp, G, _, rfl, GR1, _, rfl, (by show 4 ≤ sizeLine; decide), fun l nl => ?_⟩
    refine q _ l (s1.trans (same_new nl _)) (s1.free nl) ?_
    rw [upd_same]
    unfold Mu25.lookNums
    rw [hw, vL_len, pows_len]
    rfl
end
end Hx
/-! W11: Game's methods, further. -/
namespace Hx
open PySem PySem.Spec PyProof.Rows L2
open Mu25 (Game)
def h1F (f : Addr) : List (Str × V) := [("field", .ref f)]
def h2F (f lp : Addr) : List (Str × V) := [("field", .ref f), ("put", .ref lp)]
theorem h1_put (f : Addr) : putF "field" (.ref f) [] = h1F f := rfl
theorem h2_put (f lp : Addr) : putF "put" (.ref lp) (h1F f) = h2F f lp := (put_past (by decide +kernel)).trans rfl
theorem h3_put (f lp : Addr) (b : Bool) : putF "is_swapped" (.bl b) (h2F f lp) = gF f lp b := (put_past (by decide +kernel)).trans (congrArg _ ((put_past (by decide +kernel)).trans rfl))
theorem free_of {H H' : Hp} {p l : Addr} (hp : ∃ o, H' p = some o) (k : ∀ b o, H b = some o → b ≠ p → H' b = some o) (e : H' l = none) : H l = none := by
  cases q : H l with
  | none => rfl
  | some o =>
    by_cases z : l = p
    · subst z
      obtain ⟨o', h⟩ := hp
      rw [e] at h
      cases h
    · rw [k l o q z] at e
      cases e
section
variable {P : Program} {w : World} {K : PySem.W.Frag} {mg : Str → Option Value} {base : Heap} {A : Ad}
theorem sc_game_init : FnScope ["self", "size"] ["self", "size"] (defScope s_game_init) := ⟨rfl, rfl, rfl, by decide +kernel, rfl, by decide +kernel, by decide +kernel⟩
theorem ok_game_init (T : Txt K mg A) : Kp P w K mg base CX0 4 A.f_game_init ["self", "size"] (sp_game_init A) := by
  refine T.d_game_init.ok sc_game_init (fun vs H Q E h => ?_) (fun cdv A' outer s H vs Q E hr h => ?_)
  · obtain ⟨p, dx, n, rfl, _⟩ := h
    rfl
  obtain ⟨p, dx, n, rfl, hp, n2, n11, q⟩ := h
  refine ⟨_, (pss_cons (ps_fld (pv 0) (pk T.mkField (ok_field_init T) T.gField hr (pa_cons (pv 1) pa_nil)) rfl)
      (pss_cons (ps_fld (pv 0) (pe_lst pa_nil) rfl)
      (pss_one (ps_fld (pv 0) pe_bl rfl)))), ?_⟩
  refine ⟨_, rfl, ?_⟩
  intro x dF nx nd ne
  refine ⟨x, dF, n, rfl, upd_same, n2, n11, fun H1 lb lf lo F1 nlb nlf nlo kp => ⟨rfl, ?_⟩⟩
  have s1 : Same H H1 := Same.made nx nd kp
  have fr : ∀ {l}, (upd (upd H dF (.own x)) x (.ins A.cField dF [])) l = none → H l = none := fun {l} e => by
    by_cases z : l = x
    · subst z; exact nx
    · rw [upd_ne z] at e
      by_cases y : l = dF
      · subst y; exact nd
      · rw [upd_ne y] at e; exact e
  refine ⟨_, rfl, p, A.cGame, dx, [], rfl, s1 _ _ hp, T.clGame, T.nGame_field, (by show 0 < 1000; decide), ?_⟩
  refine of_upd (h1_put x) ?_
  refine ⟨(by show 0 ≤ sizeLine; decide), fun lp nlp => ?_⟩
  have px : p ≠ x := ne_of_none hp nx
  have plp : p ≠ lp := ne_of_none upd_same nlp
  have nlp1 : H1 lp = none := by
    rw [upd_ne (Ne.symm plp)] at nlp
    exact nlp
  refine ⟨_, rfl, p, A.cGame, dx, _, rfl, (upd_ne plp).trans upd_same, T.clGame, T.nGame_put, (by show 1 < 1000; decide), ?_⟩
  refine of_upd (h2_put x lp) ?_
  refine ⟨_, rfl, p, A.cGame, dx, _, rfl, upd_same, T.clGame, T.nGame_is_swapped, (by show 2 < 1000; decide), ?_⟩
  refine of_upd (h3_put x lp false) ?_
  rw [upd_upd]
  obtain ⟨⟨dF', hF⟩, hb, hf, ho, _, _⟩ := F1
  have keep : ∀ b o, H1 b = some o → b ≠ p → (upd (upd (upd H1 p (.ins A.cGame dx (h1F x))) lp (.lst [])) p (.ins A.cGame dx (gF x lp false))) b = some o := fun b o e hb => by
    rw [upd_ne hb, upd_ne (ne_of_none e nlp1), upd_ne hb]
    exact e
  have pb : lb ≠ p := fun z => by
    rw [z] at nlb
    have := fr nlb
    rw [hp] at this
    cases this
  have pf : lf ≠ p := fun z => by
    rw [z] at nlf
    have := fr nlf
    rw [hp] at this
    cases this
  have po : lo ≠ p := fun z => by
    rw [z] at nlo
    have := fr nlo
    rw [hp] at this
    cases this
  refine q _ lp lb lf lo ⟨dx, x, upd_same, ⟨⟨dF', keep _ _ hF (Ne.symm px)⟩, keep _ _ hb pb, keep _ _ hf pf, keep _ _ ho po, n2, n11⟩, ?_, ne_of_none hb nlp1, ne_of_none hf nlp1, ne_of_none ho nlp1, GOk.fresh n2 n11⟩ (s1.free nlp1) (fr nlb) (fr nlf) (fr nlo) fun b o e hb => keep b o (s1 b o e) hb
  rw [upd_ne (Ne.symm plp)]
  exact upd_same
theorem sc_game_copy : FnScope ["self", "found"] ["self"] (defScope s_game_copy) := ⟨rfl, rfl, rfl, by decide +kernel, rfl, by decide +kernel, by decide +kernel⟩
theorem ok_game_copy (T : Txt K mg A) : Kp P w K mg base CX0 6 A.f_game_copy ["self"] (sp_game_copy A) := by
  refine T.d_game_copy.ok sc_game_copy (fun vs H Q E h => ?_) (fun cdv A' outer s H vs Q E hr h => ?_)
  · obtain ⟨g, lp, G, rfl, _⟩ := h
    rfl
  obtain ⟨g, lp, G, rfl, ⟨dx, f, lb, lf, lo, a⟩, q⟩ := h
  obtain ⟨dF, hF⟩ := a.fld.at_
  refine ⟨_, (pss_cons (ps_set (i := 1) sc_game_copy.nd rfl (Or.inl rfl) (pk T.mkGame (ok_game_init T) T.gGame hr (pa_cons (pe_fld (pe_fld (pv 0) rfl) rfl) pa_nil)))
      (pss_cons (ps_fld (pv 1) (pe_callTy call_list_of rfl T.b_list (by decide +kernel) (pa_cons (pe_fld (pv 0) rfl) pa_nil)) rfl)
      (pss_cons (ps_fld (pv 1) (pe_fld (pv 0) rfl) rfl)
      (pss_one (ps_ret (pv 1)))))), ?_⟩
  refine ⟨_, rfl, g, A.cGame, dx, _, _, rfl, a.at_, T.clGame, T.nGame_field, gF_field, f, A.cField, dF, _, _, rfl, hF, T.clField, T.nField_size, fF_size, ?_⟩
  intro x dX nx nd ne
  refine ⟨x, dX, G.n, rfl, upd_same, a.ok.n2, a.ok.n11, fun H1 l1 lb1 lf1 lo1 ⟨dx1, f1, a1⟩ nl1 _ _ _ kp => ⟨rfl, ?_⟩⟩
  have s1 : Same H H1 := Same.made nx nd kp
  have a0 := a.same s1
  refine ⟨_, rfl, g, A.cGame, dx, _, _, rfl, a0.at_, T.clGame, T.nGame_put, gF_put, lp, _, rfl, .inl (SqL.of a0.put), fun l2 nl2 => ?_⟩
  have s2 := same_new nl2 (.lst (vL (pows G.n G.moves)))
  refine ⟨_, rfl, x, A.cGame, dx1, _, rfl, s2 _ _ a1.at_, T.clGame, T.nGame_put, (by show 3 < 1000; decide), ?_⟩
  refine of_upd (gF_setPut l2) ?_
  have gx : g ≠ x := ne_of_none a.at_ nx
  have xl2 : x ≠ l2 := ne_of_none a1.at_ nl2
  refine ⟨_, rfl, g, A.cGame, dx, _, _, rfl, (upd_ne gx).trans (s2 _ _ a0.at_), T.clGame, T.nGame_is_swapped, gF_sw, ?_⟩
  refine ⟨_, rfl, x, A.cGame, dx1, _, rfl, upd_same, T.clGame, T.nGame_is_swapped, (by show 3 < 1000; decide), ?_⟩
  refine of_upd (gF_setSw G.swapped) ?_
  rw [upd_upd]
  have keep : ∀ b o, H1 b = some o → b ≠ x → (upd (upd H1 l2 (.lst (vL (pows G.n G.moves)))) x (.ins A.cGame dx1 (gF f1 l2 G.swapped))) b = some o := fun b o e hb => by
    rw [upd_ne hb]
    exact s2 _ _ e
  obtain ⟨⟨dF1, hF1⟩, hb1, hf1, ho1, _, _⟩ := a1.fld
  have ne_x : ∀ {b : Addr} {o : HO}, H1 b = some o → (∀ C d fs, o ≠ .ins C d fs) → b ≠ x := fun {b o} e hn z => by
    rw [z, a1.at_] at e
    exact hn _ _ _ (Option.some.inj e).symm
  have fx : f1 ≠ x := fun z => by
    rw [z, a1.at_] at hF1
    have := Option.some.inj hF1
    injection this with c1 c2 c3
    have : (gF f1 l1 false).lookup ("field" : Str) = (fF G.n lb1 lf1 lo1).lookup ("field" : Str) := congrArg _ c3
    rw [gF_field, fF_none] at this
    cases this
  refine ⟨_, rfl, q _ x l2 (fun b o e => keep b o (s1 b o e) (ne_of_none e nx)) nx (s1.free nl2) ⟨dx1, f1, lb1, lf1, lo1, upd_same, ⟨⟨dF1, keep _ _ hF1 fx⟩, keep _ _ hb1 (ne_x hb1 fun _ _ _ z => nomatch z), keep _ _ hf1 (ne_x hf1 fun _ _ _ z => nomatch z), keep _ _ ho1 (ne_x ho1 fun _ _ _ z => nomatch z), a.ok.n2, a.ok.n11⟩, ?_, ne_of_none hb1 nl2, ne_of_none hf1 nl2, ne_of_none ho1 nl2, a.ok⟩⟩
  rw [upd_ne (Ne.symm xl2)]
  exact upd_same
theorem canB_has {G : Game} {r c : Nat} (h : (decide (r < G.n) && decide (c < G.n)) = false) : canB G r c = false := by
  unfold canB
  rw [h, Bool.false_and]
theorem empty_bit {G : Game} (h : GOk G) {r c : Nat} (hr : r < G.n) (hc : c < G.n) : (!decide (2 ^ bidx G.n (r * G.n + c) &&& emptyN G = 0)) = (Mu25.place (Mu25.board G) (r * G.n + c)).isNone :=
  one_and h.pos h.emptyBits (rc_lt hr hc)
theorem sc_game_can_put : FnScope ["self", "row", "column"] ["self", "row", "column"] (defScope s_game_can_put) := ⟨rfl, rfl, rfl, by decide +kernel, rfl, by decide +kernel, by decide +kernel⟩
theorem ok_game_can_put (T : Txt K mg A) : Kp P w K mg base CX0 5 A.f_game_can_put ["self", "row", "column"] (sp_game_can_put A) := by
  refine T.d_game_can_put.ok sc_game_can_put (fun vs H Q E h => ?_) (fun cdv A' outer s H vs Q E hr h => ?_)
  · obtain ⟨g, lp, G, r, c, rfl, _⟩ := h
    rfl
  obtain ⟨g, lp, G, r, c, rfl, GR, q⟩ := h
  obtain ⟨dx, f, lb, lf, lo, a⟩ := id GR
  obtain ⟨dF, hF⟩ := a.fld.at_
  refine ⟨_, (pss_cons (ps_if (PW.pt (pw_or (pt_not (pt_val (pm (pe_fld (pv 0) rfl) T.clField T.m_field_has (ok_field_has T) hr (pa_cons (pv 1) (pa_cons (pv 2) pa_nil))))) (pw_or1 (pt_cmpR op_notN (pm0 (pv 0) T.clGame T.m_game_winner (ok_game_winner T) hr) pe_non (nomark _))))) (pss_one (ps_ret pe_bl)) pss_nil)
      (pss_one (ps_ret (pe_cmpR op_neN (pe_op op_andN (pm (pe_fld (pv 0) rfl) T.clField T.m_field_bit (ok_field_bit T) hr (pa_cons (pv 1) (pa_cons (pv 2) pa_nil))) (pm0 (pv 0) T.clGame T.m_game_empty (ok_game_empty T) hr)) pe_int (nomark _))))), ?_⟩
  refine ⟨_, rfl, g, A.cGame, dx, _, _, rfl, a.at_, T.clGame, T.nGame_field, gF_field, f, dF, _, rfl, hF, fF_none, _, rfl, _, rfl, f, G.n, r, c, rfl, a.fr, _, rfl, ?_⟩
  cases hh : (decide (r < G.n) && decide (c < G.n)) with
  | false =>
    refine if_true_of (by rfl) ?_
    refine if_true_of (by rfl) ?_
    have z := q H (Same.refl H)
    rw [canB_has hh] at z
    exact z
  | true =>
    refine if_false_of (by rfl) ?_
    refine ⟨_, rfl, g, dx, _, rfl, a.at_, gF_none, g, lp, G, rfl, GR, fun H1 s1 => ⟨rfl, _, rfl, ?_⟩⟩
    have a1 := a.same s1
    rw [Bool.and_eq_true, decide_eq_true_iff, decide_eq_true_iff] at hh
    cases hw : Mu25.won G with
    | some wh =>
      refine if_true_of (by rfl) ?_
      have z := q H1 s1
      have e : canB G r c = false := by
        unfold canB
        rw [hw]
        simp
      rw [e] at z
      exact z
    | none =>
      refine if_false_of (by rfl) ?_
      refine ⟨_, rfl, g, A.cGame, dx, _, _, rfl, a1.at_, T.clGame, T.nGame_field, gF_field, f, dF, _, rfl, s1 _ _ hF, fF_none, _, rfl, _, rfl, f, G.n, r, c, rfl, a1.fr, hh.1, hh.2, _, rfl, g, dx, _, rfl, a1.at_, gF_none, g, lp, G, rfl, GR.same s1, _, _, rfl, rfl, _, 0, rfl, rfl, ?_⟩
      refine Q_eq (congrArg V.bl ?_) (q H1 s1)
      refine (empty_bit a.ok hh.1 hh.2).trans ?_
      unfold canB
      rw [hw]
      simp [hh.1, hh.2]
theorem canB_parts {G : Game} {r c : Nat} (h : canB G r c = true) : r < G.n ∧ c < G.n ∧ Mu25.won G = none ∧ Mu25.place (Mu25.board G) (r * G.n + c) = none := by
  unfold canB at h
  simpa [and_assoc] using h
theorem sc_game_put_stone : FnScope ["self", "row", "column"] ["self", "row", "column"] (defScope s_game_put_stone) := ⟨rfl, rfl, rfl, by decide +kernel, rfl, by decide +kernel, by decide +kernel⟩
theorem ok_game_put_stone (T : Txt K mg A) : Kp P w K mg base CX0 2 A.f_game_put_stone ["self", "row", "column"] (sp_game_put_stone A) := by
  refine T.d_game_put_stone.ok sc_game_put_stone (fun vs H Q E h => ?_) (fun cdv A' outer s H vs Q E hr h => ?_)
  · obtain ⟨g, lp, lb, lf, lo, G, r, c, rfl, _⟩ := h
    rfl
  obtain ⟨g, lp, lb, lf, lo, G, r, c, rfl, GR, hc, q⟩ := h
  obtain ⟨dx, f, a⟩ := id GR
  obtain ⟨dF, hF⟩ := a.fld.at_
  obtain ⟨hr', hc', hw, hpl⟩ := canB_parts hc
  have hml := moves_le a.ok
  refine ⟨_, (pss_one (ps_expr (pe_bm PySem.F.plainAttrs_list PySem.F.slot_list_append PySem.F.type_list_append mt_append (pe_fld (pv 0) rfl) (pa_cons (pm (pe_fld (pv 0) rfl) T.clField T.m_field_bit (ok_field_bit T) hr (pa_cons (pv 1) (pa_cons (pv 2) pa_nil))) pa_nil)))), ?_⟩
  refine ⟨_, rfl, g, A.cGame, dx, _, _, rfl, a.at_, T.clGame, T.nGame_put, gF_put, .inl ⟨rfl, _, SqL.of a.put⟩, _, rfl, g, A.cGame, dx, _, _, rfl, a.at_, T.clGame, T.nGame_field, gF_field, f, dF, _, rfl, hF, fF_none, _, rfl, _, rfl, f, G.n, r, c, rfl, a.fr, hr', hc', lp, _, _, rfl, rfl, a.put, ?_, ?_⟩
  · rw [vL_len, pows_len]
    exact small1000 (by omega)
  have ngl : g ≠ lp := fun z => by
    have := a.at_
    rw [z, a.put] at this
    cases this
  have nfl : f ≠ lp := fun z => by
    rw [z, a.put] at hF
    cases hF
  refine q _ ⟨dx, f, (upd_ne ngl).trans a.at_, ⟨⟨dF, (upd_ne nfl).trans hF⟩, (upd_ne a.nb).trans a.fld.bits, (upd_ne a.nf).trans a.fld.fst, (upd_ne a.no).trans a.fld.oth, a.ok.n2, a.ok.n11⟩, ?_, a.nb, a.nf, a.no, a.ok.add (rc_lt hr' hc') (by rw [hpl]; rfl)⟩ fun b o e hb => (upd_ne hb).trans e
  rw [upd_same, pows_append, vL_append]
  rfl
theorem sc_game_take_back : FnScope ["self"] ["self"] (defScope s_game_take_back) := ⟨rfl, rfl, rfl, by decide +kernel, rfl, by decide +kernel, by decide +kernel⟩
theorem ok_game_take_back (T : Txt K mg A) : Kp P w K mg base CX0 1 A.f_game_take_back ["self"] (sp_game_take_back A) := by
  refine T.d_game_take_back.ok sc_game_take_back (fun vs H Q E h => ?_) (fun cdv A' outer s H vs Q E hr h => ?_)
  · obtain ⟨g, lp, lb, lf, lo, G, rfl, _⟩ := h
    rfl
  obtain ⟨g, lp, lb, lf, lo, G, rfl, GR, hne, q⟩ := h
  obtain ⟨dx, f, a⟩ := id GR
  obtain ⟨dF, hF⟩ := a.fld.at_
  have hlen : 0 < G.moves.length := List.length_pos_iff.mpr hne
  refine ⟨_, (pss_cons (ps_expr (pe_bm0 PySem.F.plainAttrs_list PySem.F.slot_list_pop PySem.F.type_list_pop mt_pop (pe_fld (pv 0) rfl)))
      (pss_one (ps_if (pt_cmpR op_eqN (pe_callB call_len_seq rfl T.b_len PySem.boot_len (pa_cons (pe_fld (pv 0) rfl) pa_nil)) pe_int (nomark _)) (pss_one (ps_fld (pv 0) pe_bl rfl)) pss_nil))), ?_⟩
  have hll : (vL (pows G.n G.moves)).length = G.moves.length := by rw [vL_len, pows_len]
  refine ⟨_, rfl, g, A.cGame, dx, _, _, rfl, a.at_, T.clGame, T.nGame_put, gF_put, .inl ⟨rfl, _, SqL.of a.put⟩, lp, _, _, rfl, rfl, a.put, List.getElem?_eq_getElem (by omega), ?_⟩
  have ngl : g ≠ lp := fun z => by
    have := a.at_
    rw [z, a.put] at this
    cases this
  have nfl : f ≠ lp := fun z => by
    rw [z, a.put] at hF
    cases hF
  have nfg : f ≠ g := fun z => by
    rw [z, a.at_] at hF
    have := Option.some.inj hF
    injection this with c1 c2 c3
    have : (gF f lp G.swapped).lookup ("field" : Str) = (fF G.n lb lf lo).lookup ("field" : Str) := congrArg _ c3
    rw [gF_field, fF_none] at this
    cases this
  have ne_g : ∀ {b : Addr} {xs : List V}, H b = some (.lst xs) → b ≠ g := fun {b xs} e z => by
    rw [z, a.at_] at e
    cases e
  have edrop : (vL (pows G.n G.moves)).dropLast = vL (pows G.n (G.moves.take (G.moves.length - 1))) := by
    unfold vL pows
    rw [← List.map_dropLast, ← List.map_dropLast, List.dropLast_eq_take]
  have hput : ∀ {o}, o = (vL (pows G.n G.moves)).dropLast → (upd H lp (.lst o)) lp = some (.lst (vL (pows G.n (G.moves.take (G.moves.length - 1))))) := fun e => by
    rw [upd_same, e, edrop]
  refine ⟨_, rfl, g, A.cGame, dx, _, _, rfl, (upd_ne ngl).trans a.at_, T.clGame, T.nGame_put, gF_put, lp, _, rfl, .inl (SqL.of upd_same), _, 0, rfl, rfl, _, rfl, ?_⟩
  have elen : (vL (pows G.n G.moves)).dropLast.length = G.moves.length - 1 := by rw [List.length_dropLast, hll]
  by_cases c : G.moves.length - 1 = 0
  · refine if_true_of (by rw [elen]; exact decide_eq_true c) ?_
    refine ⟨_, rfl, g, A.cGame, dx, _, rfl, (upd_ne ngl).trans a.at_, T.clGame, T.nGame_is_swapped, (by show 3 < 1000; decide), ?_⟩
    refine of_upd (gF_setSw false) ?_
    refine q _ ⟨dx, f, ?_, ⟨⟨dF, (upd_ne nfg).trans ((upd_ne nfl).trans hF)⟩, (upd_ne (ne_g a.fld.bits)).trans ((upd_ne a.nb).trans a.fld.bits), (upd_ne (ne_g a.fld.fst)).trans ((upd_ne a.nf).trans a.fld.fst), (upd_ne (ne_g a.fld.oth)).trans ((upd_ne a.no).trans a.fld.oth), a.ok.n2, a.ok.n11⟩, ?_, a.nb, a.nf, a.no, a.ok.back _⟩ fun b o e hb1 hb2 => (upd_ne hb2).trans ((upd_ne hb1).trans e)
    · rw [upd_same]
      have : decide (1 < G.moves.length) = false := decide_eq_false (by omega)
      rw [this, Bool.and_false]
    · rw [upd_ne (Ne.symm ngl)]
      exact hput rfl
  · refine if_false_of (by rw [elen]; exact decide_eq_false c) ?_
    refine q _ ⟨dx, f, ?_, ⟨⟨dF, (upd_ne nfl).trans hF⟩, (upd_ne a.nb).trans a.fld.bits, (upd_ne a.nf).trans a.fld.fst, (upd_ne a.no).trans a.fld.oth, a.ok.n2, a.ok.n11⟩, hput rfl, a.nb, a.nf, a.no, a.ok.back _⟩ fun b o e hb1 hb2 => (upd_ne hb1).trans e
    have : decide (1 < G.moves.length) = true := decide_eq_true (by omega)
    rw [this, Bool.and_true, upd_ne ngl]
    exact a.at_
end
end Hx
/-! W12: the search. -/
namespace Hx
open PySem PySem.Spec PyProof.Rows L2
open Mu25 (Game Board)
def keyOf (n : Nat) (w : Bool) (m y : Nat) : List L2.Key := [.inl (n : Int), .inl (sI w), .inl (m : Int), .inl (y : Int)]
theorem sI_inj {a b : Bool} (h : sI a = sI b) : a = b := by
  cases a <;> cases b <;> first | rfl | (exact absurd h (by decide))
theorem keyOf_inj {n n' m m' y y' : Nat} {w w' : Bool} (h : keyOf n w m y = keyOf n' w' m' y') : n = n' ∧ w = w' ∧ m = m' ∧ y = y' := by
  unfold keyOf at h
  injection h with h1 h
  injection h with h2 h
  injection h with h3 h
  injection h with h4 _
  refine ⟨?_, sI_inj (Sum.inl.inj h2), ?_, ?_⟩
  · have := Sum.inl.inj h1
    omega
  · have := Sum.inl.inj h3
    omega
  · have := Sum.inl.inj h4
    omega
noncomputable def winOf (n : Nat) (w : Bool) (m y : Nat) : Nat := winVal n (Mu25.winner (boardBits n w m y) w)
structure Memo (old P : List (List L2.Key)) (kvs : List (List L2.Key × V)) : Prop where
  val : ∀ k v, (k, v) ∈ kvs → ∃ n w m y, k = keyOf n w m y ∧ v = vN (winOf n w m y)
  nd : (kvs.map (·.1)).Nodup
  sub : ∀ k ∈ kvs.map (·.1), k ∈ old ∨ k ∈ P
theorem Memo.len {old P : List (List L2.Key)} {kvs : List (List L2.Key × V)} (h : Memo old P kvs) : kvs.length ≤ old.length + P.length := by
  have := h.nd.length_le_of_subset (l₂ := old ++ P) fun k hk => List.mem_append.mpr (h.sub k hk)
  rw [List.length_map, List.length_append] at this
  exact this
theorem valV_mem {kvs : List (List L2.Key × V)} {k : List L2.Key} {v : V} (h : valV kvs k = some v) : (k, v) ∈ kvs := by
  unfold valV at h
  cases e : kvs.find? fun kv => decide (kv.1 = k) with
  | none =>
    rw [e] at h
    cases h
  | some kv =>
    rw [e] at h
    have h1 := List.mem_of_find?_eq_some e
    have h2 := List.find?_some e
    rw [decide_eq_true_iff] at h2
    have h3 : kv.2 = v := Option.some.inj h
    rw [← h2, ← h3]
    exact h1
theorem Memo.look {old P : List (List L2.Key)} {kvs : List (List L2.Key × V)} (h : Memo old P kvs) {n m y : Nat} {w : Bool} {v : V} (e : valV kvs (keyOf n w m y) = some v) : v = vN (winOf n w m y) := by
  obtain ⟨n', w', m', y', hk, hv⟩ := h.val _ _ (valV_mem e)
  obtain ⟨rfl, rfl, rfl, rfl⟩ := keyOf_inj hk
  exact hv
theorem putK_mem {kvs : List (List L2.Key × V)} {k k' : List L2.Key} {v v' : V} (h : (k', v') ∈ putK kvs k v) : (k', v') ∈ kvs ∨ (k' = k ∧ v' = v) := by
  unfold putK at h
  by_cases c : (kvs.any fun kv => decide (kv.1 = k)) = true
  · rw [if_pos c] at h
    obtain ⟨kv, hm, e⟩ := List.mem_map.mp h
    by_cases z : kv.1 = k
    · rw [if_pos z] at e
      injection e with e1 e2
      exact .inr ⟨e1.symm.trans z, e2.symm⟩
    · rw [if_neg z] at e
      rw [← e]
      exact .inl hm
  · rw [if_neg c] at h
    rcases List.mem_append.mp h with h | h
    · exact .inl h
    · rw [List.mem_singleton] at h
      injection h with e1 e2
      exact .inr ⟨e1, e2⟩
theorem putK_nd {kvs : List (List L2.Key × V)} {k : List L2.Key} {v : V} (h : (kvs.map (·.1)).Nodup) : ((putK kvs k v).map (·.1)).Nodup := by
  unfold putK
  by_cases c : (kvs.any fun kv => decide (kv.1 = k)) = true
  · rw [if_pos c, List.map_map]
    have : (kvs.map ((fun x => x.1) ∘ fun kv => if kv.1 = k then (kv.1, v) else kv)) = kvs.map (·.1) := by
      refine List.map_congr_left fun kv _ => ?_
      show (if kv.1 = k then (kv.1, v) else kv).1 = kv.1
      by_cases z : kv.1 = k
      · rw [if_pos z]
      · rw [if_neg z]
    rw [this]
    exact h
  · rw [if_neg c, List.map_append, List.nodup_append]
    refine ⟨h, by simp, fun a ha b hb => ?_⟩
    intro e
    subst e
    have hb' : a = k := by simpa using hb
    subst hb'
    obtain ⟨kv, hm, e⟩ := List.mem_map.mp ha
    exact c (List.any_eq_true.mpr ⟨kv, hm, decide_eq_true e⟩)
theorem Memo.put {old P : List (List L2.Key)} {kvs : List (List L2.Key × V)} (h : Memo old P kvs) {n m y : Nat} {w : Bool} (hk : keyOf n w m y ∈ P) : Memo old P (putK kvs (keyOf n w m y) (vN (winOf n w m y))) := by
  refine ⟨fun k v hm => ?_, putK_nd h.nd, fun k hk' => ?_⟩
  · rcases putK_mem hm with hm | ⟨rfl, rfl⟩
    · exact h.val k v hm
    · exact ⟨n, w, m, y, rfl, rfl⟩
  · obtain ⟨⟨k', v'⟩, hm, e⟩ := List.mem_map.mp hk'
    have e' : k' = k := e
    subst e'
    rcases putK_mem hm with hm | ⟨rfl, rfl⟩
    · exact h.sub _ (List.mem_map.mpr ⟨_, hm, rfl⟩)
    · exact .inr hk
def Under (n : Nat) (P : List (List L2.Key)) (B : Board) : Prop := ∀ C, ExtB n B C → ∀ w, keyOf n w (numOf n (Mu25.mine C w)) (numOf n (Mu25.mine C !w)) ∈ P
def sF (d : Addr) : List (Str × V) := [("known", .ref d)]
theorem sF_known {d : Addr} : (sF d).lookup ("known" : Str) = some (.ref d) := lk_here
theorem sF_none {d : Addr} {m : Str} (h : (m == ("known" : Str)) = false := by decide +kernel) : (sF d).lookup m = none := (lk_past h).trans rfl
structure Search (A : Ad) (H : Hp) (s ds d f : Addr) (kvs : List (List L2.Key × V)) (n m y : Nat) (w : Bool) (B : Board) (old P : List (List L2.Key)) : Prop where
  at_ : H s = some (.ins A.cSearcher ds (sF d))
  dict : H d = some (.dT kvs)
  fld : FieldR A H f n
  bok : BOk n B
  mine : Bits n m (Mu25.mine B w)
  yours : Bits n y (Mu25.mine B !w)
  memo : Memo old P kvs
  room : old.length + P.length < sizeLine
  under : Under n P B
def SPost (A : Ad) (H : Hp) (d : Addr) (n : Nat) (w : Bool) (B : Board) (old P : List (List L2.Key)) (Q : VK) : Prop :=
  ∀ H' kvs', H' d = some (.dT kvs') → Memo old P kvs' → (∀ b o, H b = some o → b ≠ d → H' b = some o) → Q (vN (winVal n (Mu25.winner B w))) H'
def spFW (A : Ad) (e : Nat) : Sp := fun vs H Q _ => ∃ (s ds d f : Addr) (kvs : List (List L2.Key × V)) (n m y : Nat) (w : Bool) (B : Board) (old P : List (List L2.Key)), vs = [.ref s, .ref f, .int (sI w), vN m, vN y] ∧ Search A H s ds d f kvs n m y w B old P ∧ (Mu25.empties B).length < e ∧ SPost A H d n w B old P Q
def spLF (A : Ad) (e : Nat) : Sp := fun vs H Q _ => ∃ (s ds d f : Addr) (kvs : List (List L2.Key × V)) (n m y : Nat) (w : Bool) (B : Board) (old P : List (List L2.Key)), vs = [.ref s, .ref f, .int (sI w), vN m, vN y] ∧ Search A H s ds d f kvs n m y w B old P ∧ (Mu25.empties B).length ≤ e ∧ SPost A H d n w B old P Q
theorem FieldR.but {A : Ad} {H H' : Hp} {d f : Addr} {n : Nat} {kvs : List (List L2.Key × V)} (F : FieldR A H f n) (hd : H d = some (.dT kvs)) (k : ∀ b o, H b = some o → b ≠ d → H' b = some o) : FieldR A H' f n := by
  obtain ⟨lb, lf, lo, ⟨dx, h1⟩, h2, h3, h4, h5, h6⟩ := F
  have ne : ∀ {b : Addr} {o : HO}, H b = some o → (∀ k, o ≠ .dT k) → b ≠ d := fun {b o} e hn z => by
    rw [z, hd] at e
    exact hn _ (Option.some.inj e).symm
  exact ⟨lb, lf, lo, ⟨dx, k _ _ h1 (ne h1 fun _ z => nomatch z)⟩, k _ _ h2 (ne h2 fun _ z => nomatch z), k _ _ h3 (ne h3 fun _ z => nomatch z), k _ _ h4 (ne h4 fun _ z => nomatch z), h5, h6⟩
theorem one_minus (w : Bool) : (1 : Int) - sI w = sI (!w) := by cases w <;> rfl
section
variable {P : Program} {w : World} {K : PySem.W.Frag} {mg : Str → Option Value} {base : Heap} {A : Ad}
theorem sc_searcher_looked_for : FnScope ["self", "field", "side", "mine", "yours", "bit"] ["self", "field", "side", "mine", "yours"] (defScope s_searcher_looked_for) := ⟨rfl, rfl, rfl, by decide +kernel, rfl, by decide +kernel, by decide +kernel⟩
theorem ok_looked_for (T : Txt K mg A) {e j : Nat} (hj : 3 ≤ j) (FW : Kp P w K mg base CX0 j A.f_searcher_first_win ["self", "field", "side", "mine", "yours"] (spFW A e)) : Kp P w K mg base CX0 (j + 1) A.f_searcher_looked_for ["self", "field", "side", "mine", "yours"] (spLF A e) := by
  refine T.d_searcher_looked_for.ok sc_searcher_looked_for (fun vs H Q E h => ?_) (fun cdv A' outer s H vs Q E hr h => ?_)
  · obtain ⟨s, ds, d, f, kvs, n, m, y, w, B, old, P, rfl, _⟩ := h
    rfl
  obtain ⟨s, ds, d, f, kvs, n, m, y, wh, B, old, PP, rfl, S, he, q⟩ := h
  obtain ⟨lb, lf, lo, F⟩ := id S.fld
  obtain ⟨dF, hF⟩ := F.at_
  have n0 : 0 < n := by have := F.n2; omega
  refine ⟨_, (pss_cons (ps_for PassesOwn.never rfl (pi_list (pm (pv 1) T.clField T.m_field_cells_in (ok_field_cells_in T) hr (pa_cons (pe_op op_xorN (pe_op op_xorN (pe_fld (pv 1) rfl) (pv 3)) (pv 4)) pa_nil) (by omega))) (pg_name (i := 5) sc_searcher_looked_for.nd rfl (Or.inl rfl)) (pss_cons (ps_if (pt_val (pm (pv 1) T.clField T.m_field_is_joined (ok_field_is_joined T) hr (pa_cons (pv 2) (pa_cons (pe_op op_orN (pv 3) (pv 5)) pa_nil)) (by omega))) (pss_one (ps_ret (pv 5))) pss_nil)
      (pss_one (ps_if (pt_cmpR op_eqN (pm (pv 0) T.clSearcher T.m_searcher_first_win FW hr (pa_cons (pv 1) (pa_cons (pe_op op_sub pe_int (pv 2)) (pa_cons (pv 4) (pa_cons (pe_op op_orN (pv 3) (pv 5)) pa_nil)))) (by omega)) pe_int (nomark _)) (pss_one (ps_ret (pv 5))) pss_nil))))
      (pss_one (ps_ret pe_int))), ?_⟩
  have hEm : Bits n ((allC n ^^^ m) ^^^ y) (fun i => (Mu25.place B i).isNone) := ((S.mine.compl n0).xor S.yours).congr fun i _ => emptyPred wh i
  have hlist : (List.range (n * n)).filter (fun i => (Mu25.place B i).isNone) = Mu25.empties B := by
    unfold Mu25.empties Mu25.cells
    rw [S.bok.bn]
  refine ⟨_, rfl, f, dF, _, rfl, hF, fF_none, _, rfl, f, A.cField, dF, _, _, rfl, hF, T.clField, T.nField_all_cells, fF_all, _, rfl, _, _, rfl, rfl, _, rfl, _, _, rfl, rfl, f, n, _, _, rfl, S.fld, hEm, fun lc nlc => ?_⟩
  have s1 := same_new nlc (.lst (vL (cellsL n fun i => (Mu25.place B i).isNone)))
  have dlc : lc ≠ d := fun z => by
    rw [z, S.dict] at nlc
    cases nlc
  have win := winner_test S.bok wh
  refine ⟨lc, rfl, ⟨_, SqL.of upd_same⟩, for_list (K := K) (a := lc) (xs := vL (cellsL n fun i => (Mu25.place B i).isNone)) (fun i σ H' => ∃ (bt : Option V) (kvs' : List (List L2.Key × V)), σ = [some (.ref s), some (.ref f), some (.int (sI wh)), some (vN m), some (vN y), bt] ∧ H' d = some (.dT kvs') ∧ Memo old PP kvs' ∧ (∀ b o, H b = some o → b ≠ d → H' b = some o) ∧ H' lc = some (.lst (vL (cellsL n fun i => (Mu25.place B i).isNone))) ∧
      ∀ a ∈ (Mu25.empties B).take i, (Mu25.joined (Mu25.put B a wh) wh || (Mu25.winner (Mu25.put B a wh) (!wh)).isNone) = false) ?_ ?_ ?_ ?_⟩
  · exact ⟨none, kvs, rfl, s1 _ _ S.dict, S.memo, fun b o e hb => s1 _ _ e, upd_same, fun a ha => by simp at ha⟩
  · rintro i σ H' _ ⟨bt, kvs', _, _, _, _, hl, _⟩
    exact SqL.of hl
  · rintro i x σ H' hx ⟨bt, kvs', rfl, hd, hme, keep, hlc, hbefore⟩
    obtain ⟨c, hc, rfl, hcl, hce⟩ := cellsL_at hx
    rw [hlist] at hc
    have hcm : c ∈ Mu25.empties B := List.mem_of_getElem? hc
    have sne : s ≠ d := fun z => by
      have := S.at_
      rw [z, S.dict] at this
      cases this
    have F1 : FieldR A H' f n := S.fld.but S.dict keep
    have hF1 : H' f = some (.ins A.cField dF (fF n lb lf lo)) := keep _ _ hF fun z => by
      rw [z, S.dict] at hF
      cases hF
    have hm2 : Bits n (m ||| 2 ^ bidx n c) (Mu25.mine (Mu25.put B c wh) wh) := (S.mine.or (Bits.one n0 hcl)).congr fun i _ => by
      rw [S.bok.mine_put hcl hce]
      simp
    have hy2 : Bits n y (Mu25.mine (Mu25.put B c wh) (!wh)) := S.yours.congr fun i _ => by
      rw [S.bok.mine_put hcl hce]
      cases wh <;> simp
    have hjn : joinB n wh (Mu25.mine (Mu25.put B c wh) wh) = Mu25.joined (Mu25.put B c wh) wh := by
      rw [joined_eq]
      have : (Mu25.put B c wh).n = n := S.bok.bn
      rw [this]
    refine ⟨_, rfl, f, dF, _, rfl, hF1, fF_none, _, rfl, _, rfl, _, rfl, _, _, rfl, rfl, f, n, _, wh, _, rfl, F1, hm2, _, rfl, ?_⟩
    refine ite_of hjn ?_
    cases hb : Mu25.joined (Mu25.put B c wh) wh with
    | true =>
      refine iteT ⟨_, rfl, ?_⟩
      have hw : Mu25.winner B wh = some c := by
        rw [win]
        exact find_at hc hbefore (by rw [hb]; rfl)
      have z := q H' kvs' hd hme keep
      rw [hw] at z
      exact z
    | false =>
      refine iteF ?_
      have emp := S.bok.empties_put hcm wh
      refine ⟨_, rfl, s, ds, _, rfl, keep _ _ S.at_ sne, sF_none, _, rfl, _, rfl, _, _, rfl, rfl, _, rfl, _, rfl, _, rfl, _, _, rfl, rfl, s, ds, d, f, kvs', n, y, m ||| 2 ^ bidx n c, !wh, Mu25.put B c wh, old, PP, ?_, ⟨keep _ _ S.at_ sne, hd, F1, S.bok.put c wh, hy2, ?_, hme, S.room, fun C hC => S.under C ((ExtB.put S.bok hcm wh).trans hC)⟩, by omega, fun H2 kvs2 hd2 hme2 keep2 => ?_⟩
      · rw [← one_minus]
        rfl
      · rw [Bool.not_not]
        exact hm2
      have keep3 : ∀ b o, H b = some o → b ≠ d → H2 b = some o := fun b o e hb => keep2 b o (keep b o e hb) hb
      refine ⟨_, 0, rfl, rfl, _, rfl, ?_⟩
      by_cases hz : winVal n (Mu25.winner (Mu25.put B c wh) (!wh)) = 0
      · refine if_true_of (decide_eq_true hz) ⟨_, rfl, ?_⟩
        have hn := winVal_zero.mp hz
        have hw : Mu25.winner B wh = some c := by
          rw [win]
          exact find_at hc hbefore (by rw [hn]; simp)
        have z := q H2 kvs2 hd2 hme2 keep3
        rw [hw] at z
        exact z
      · refine if_false_of (decide_eq_false hz) ?_
        refine ⟨_, kvs2, rfl, hd2, hme2, keep3, keep2 _ _ hlc dlc, fun a ha => ?_⟩
        rw [take_more hc] at ha
        rcases List.mem_append.mp ha with ha | ha
        · exact hbefore a ha
        · rw [List.mem_singleton] at ha
          subst ha
          rw [hb]
          cases hwn : Mu25.winner (Mu25.put B a wh) (!wh) with
          | none => exact absurd (winVal_zero.mpr hwn) hz
          | some _ => rfl
  · rintro σ H' ⟨bt, kvs', rfl, hd, hme, keep, hlc, hbefore⟩
    have hlen : (vL (cellsL n fun i => (Mu25.place B i).isNone)).length = (Mu25.empties B).length := by rw [cellsL_len, hlist]
    rw [hlen, List.take_of_length_le (Nat.le_refl _)] at hbefore
    have hw : Mu25.winner B wh = none := by
      rw [win]
      exact find_none_take hbefore
    have z := q H' kvs' hd hme keep
    rw [hw] at z
    exact z
theorem sc_searcher_first_win : FnScope ["self", "field", "side", "mine", "yours", "key"] ["self", "field", "side", "mine", "yours"] (defScope s_searcher_first_win) := ⟨rfl, rfl, rfl, by decide +kernel, rfl, by decide +kernel, by decide +kernel⟩
theorem ok_first_win (T : Txt K mg A) {e j : Nat} (LF : Kp P w K mg base CX0 j A.f_searcher_looked_for ["self", "field", "side", "mine", "yours"] (spLF A e)) : Kp P w K mg base CX0 (j + 1) A.f_searcher_first_win ["self", "field", "side", "mine", "yours"] (spFW A (e + 1)) := by
  refine T.d_searcher_first_win.ok sc_searcher_first_win (fun vs H Q E h => ?_) (fun cdv A' outer s H vs Q E hr h => ?_)
  · obtain ⟨s, ds, d, f, kvs, n, m, y, w, B, old, P, rfl, _⟩ := h
    rfl
  obtain ⟨s, ds, d, f, kvs, n, m, y, wh, B, old, PP, rfl, S, he, q⟩ := h
  obtain ⟨lb, lf, lo, F⟩ := id S.fld
  obtain ⟨dF, hF⟩ := F.at_
  have n0 : 0 < n := by have := F.n2; omega
  refine ⟨_, (pss_cons (ps_set (i := 5) sc_searcher_first_win.nd rfl (Or.inl rfl) (pe_tup (pa_cons (pe_fld (pv 1) rfl) (pa_cons (pv 2) (pa_cons (pv 3) (pa_cons (pv 4) pa_nil))))))
      (pss_cons (ps_if (pt_cmp (pc_dnotin (hu_of hr) (pv 5) (pe_fld (pv 0) rfl))) (pss_one (ps_dput (hu_of hr) (pe_fld (pv 0) rfl) (pv 5) (pm (pv 0) T.clSearcher T.m_searcher_looked_for LF hr (pa_cons (pv 1) (pa_cons (pv 2) (pa_cons (pv 3) (pa_cons (pv 4) pa_nil)))) (Nat.le_refl _)) rfl)) pss_nil)
      (pss_one (ps_ret (pe_dget (hu_of hr) (pe_fld (pv 0) rfl) (pv 5) (fun _ _ => rfl)))))), ?_⟩
  have hwin : winOf n wh m y = winVal n (Mu25.winner B wh) := by
    unfold winOf
    rw [boardBits_eq S.bok S.mine S.yours]
  refine ⟨_, rfl, f, A.cField, dF, _, _, rfl, hF, T.clField, T.nField_size, fF_size, _, rfl, _, rfl, _, rfl, (by show 4 ≤ sizeLine; decide), fun t nt => ?_⟩
  have s1 := same_new nt (.tup [vN n, .int (sI wh), vN m, vN y])
  have ht : (upd H t (.tup [vN n, .int (sI wh), vN m, vN y])) t = some (.tup ((keyOf n wh m y).map kV)) := upd_same
  have sne : s ≠ d := fun z => by
    have := S.at_
    rw [z, S.dict] at this
    cases this
  have tne : t ≠ d := fun z => by
    rw [z, S.dict] at nt
    cases nt
  refine ⟨_, rfl, _, rfl, s, A.cSearcher, ds, _, _, rfl, s1 _ _ S.at_, T.clSearcher, T.nSearcher_known, sF_known, d, _, rfl, DGet.t (s1 _ _ S.dict) ht, _, rfl, ?_⟩
  cases hv : valV kvs (keyOf n wh m y) with
  | some v =>
    refine if_false_of (by rfl) ?_
    refine ⟨_, rfl, s, A.cSearcher, ds, _, _, rfl, s1 _ _ S.at_, T.clSearcher, T.nSearcher_known, sF_known, _, rfl, d, v, rfl, hv ▸ DGet.t (s1 _ _ S.dict) ht, ?_⟩
    have e := S.memo.look hv
    rw [hwin] at e
    exact Q_eq e (q _ kvs (s1 _ _ S.dict) S.memo fun b o e _ => s1 _ _ e)
  | none =>
    refine if_true_of (by rfl) ?_
    have key : keyOf n wh m y ∈ PP := by
      have := S.under B (ExtB.refl S.bok) wh
      rw [← numOf_eq n0 S.mine, ← numOf_eq n0 S.yours] at this
      exact this
    refine ⟨_, rfl, s, ds, _, rfl, s1 _ _ S.at_, sF_none, _, rfl, _, rfl, _, rfl, _, rfl, s, ds, d, f, kvs, n, m, y, wh, B, old, PP, rfl, ⟨s1 _ _ S.at_, s1 _ _ S.dict, S.fld.same s1, S.bok, S.mine, S.yours, S.memo, S.room, S.under⟩, by omega, fun H2 kvs2 hd2 hme2 keep2 => ?_⟩
    have ht2 := keep2 _ _ ht tne
    have hs2 := keep2 _ _ (s1 _ _ S.at_) sne
    refine ⟨_, rfl, s, A.cSearcher, ds, _, _, rfl, hs2, T.clSearcher, T.nSearcher_known, sF_known, _, rfl, d, _, rfl, DPut.t hd2 ht2 (Nat.lt_of_le_of_lt hme2.len S.room), ?_⟩
    have ht3 : (upd H2 d (.dT (putK kvs2 (keyOf n wh m y) (vN (winVal n (Mu25.winner B wh)))))) t = some (.tup ((keyOf n wh m y).map kV)) := (upd_ne tne).trans ht2
    have hv3 : valV (putK kvs2 (keyOf n wh m y) (vN (winVal n (Mu25.winner B wh)))) (keyOf n wh m y) = some (vN (winVal n (Mu25.winner B wh))) := by
      rw [valV_put, if_pos rfl]
    have hme3 := hme2.put key
    rw [hwin] at hme3
    refine ⟨_, rfl, s, A.cSearcher, ds, _, _, rfl, (upd_ne sne).trans hs2, T.clSearcher, T.nSearcher_known, sF_known, _, rfl, d, _, rfl, hv3 ▸ DGet.t upd_same ht3, ?_⟩
    exact q _ _ upd_same hme3 fun b o e hb => (upd_ne hb).trans (keep2 _ _ (s1 _ _ e) hb)
/-- both, by the number of empty cells -/
theorem no_first_win : Kp P w K mg base CX0 3 A.f_searcher_first_win ["self", "field", "side", "mine", "yours"] (spFW A 0) ↔ ∃ fd : FuncData, Binds K fd ["self", "field", "side", "mine", "yours"] [] ∧ PySem.W.keepIn K (.ref A.f_searcher_first_win) = true := by
  have no : ∀ vs H Q E, ¬ spFW A 0 vs H Q E := fun vs H Q E h => by
    obtain ⟨s, ds, d, f, kvs, n, m, y, w, B, old, P, _, _, he, _⟩ := h
    omega
  constructor
  · intro ⟨fd, F, b, k⟩
    exact ⟨fd, b, k⟩
  · intro ⟨fd, b, k⟩
    exact ⟨fd, ⟨fun vs H Q E h => absurd h (no vs H Q E), fun A outer s H args us vs Q E _ _ _ _ h => absurd h (no vs H Q E)⟩, b, k⟩
theorem search_ok (T : Txt K mg A) : ∀ e : Nat, Kp P w K mg base CX0 (2 * e + 3) A.f_searcher_first_win ["self", "field", "side", "mine", "yours"] (spFW A e)
  | 0 => by
    obtain ⟨fd, F, b⟩ := T.d_searcher_first_win.ex
    exact no_first_win.mpr ⟨fd, b, F.kp⟩
  | e + 1 => ok_first_win T (ok_looked_for T (by omega) (search_ok T e))
end
end Hx
/-! W13: the keeper; need, cells_told. -/
namespace Hx
open PySem PySem.Spec PyProof.Rows L2
open Mu25 (Game Board)
def kF (gv : V) (s : Addr) : List (Str × V) := [("game", gv), ("searcher", .ref s)]
section
variable {gv : V} {s : Addr}
theorem kF_game : (kF gv s).lookup ("game" : Str) = some gv := lk_here
theorem kF_searcher : (kF gv s).lookup ("searcher" : Str) = some (.ref s) := (lk_past (by decide +kernel)).trans lk_here
theorem kF_none {m : Str} (h : ((m == ("game" : Str)) || (m == ("searcher" : Str))) = false := by decide +kernel) : (kF gv s).lookup m = none := by
  simp only [Bool.or_eq_false_iff] at h
  exact (lk_past h.1).trans ((lk_past h.2).trans rfl)
theorem kF_set (v : V) : putF "game" v (kF gv s) = kF v s := put_here
end
/-- what the search has found is so -/
structure Memo0 (kvs : List (List L2.Key × V)) : Prop where
  val : ∀ k v, (k, v) ∈ kvs → ∃ n w m y, k = keyOf n w m y ∧ v = vN (winOf n w m y)
  nd : (kvs.map (·.1)).Nodup
theorem Memo.zero {old P : List (List L2.Key)} {kvs : List (List L2.Key × V)} (h : Memo old P kvs) : Memo0 kvs := ⟨h.val, h.nd⟩
theorem Memo0.memo {kvs : List (List L2.Key × V)} (h : Memo0 kvs) (P : List (List L2.Key)) : Memo (kvs.map (·.1)) P kvs := ⟨h.val, h.nd, fun _ hk => .inl hk⟩
/-- the keeper at k; Fp: what it owns -/
structure KeepAt (A : Ad) (H : Hp) (k dx s ds d : Addr) (kvs : List (List L2.Key × V)) (gv : V) : Prop where
  at_ : H k = some (.ins A.cKeeper dx (kF gv s))
  srch : H s = some (.ins A.cSearcher ds (sF d))
  dict : H d = some (.dT kvs)
  memo : Memo0 kvs
def GameV (A : Ad) (H : Hp) (k d : Addr) (Fp : List Addr) : V → Option Game → Prop := fun gv st => match st with
  | none => gv = .non ∧ Fp = [k, d]
  | some G => ∃ g lp lb lf lo, gv = .ref g ∧ GameL A H g lp lb lf lo G ∧ Fp = [k, d, g, lp, lb, lf, lo]
def Keeper (A : Ad) (H : Hp) (k : Addr) (Fp : List Addr) (st : Option Game) (cnt : Nat) : Prop :=
  ∃ dx s ds d kvs gv, KeepAt A H k dx s ds d kvs gv ∧ kvs.length ≤ 40000 * cnt ∧ GameV A H k d Fp gv st
theorem KeepAt.same {A : Ad} {H H' : Hp} {k dx s ds d : Addr} {kvs : List (List L2.Key × V)} {gv : V} (a : KeepAt A H k dx s ds d kvs gv) (e : Same H H') : KeepAt A H' k dx s ds d kvs gv := ⟨e _ _ a.at_, e _ _ a.srch, e _ _ a.dict, a.memo⟩
theorem GameV.same {A : Ad} {H H' : Hp} {k d : Addr} {Fp : List Addr} {gv : V} {st : Option Game} (a : GameV A H k d Fp gv st) (e : Same H H') : GameV A H' k d Fp gv st := by
  cases st with
  | none => exact a
  | some G =>
    obtain ⟨g, lp, lb, lf, lo, h1, h2, h3⟩ := a
    exact ⟨g, lp, lb, lf, lo, h1, h2.same e, h3⟩
theorem Keeper.same {A : Ad} {H H' : Hp} {k : Addr} {Fp : List Addr} {st : Option Game} {c : Nat} (a : Keeper A H k Fp st c) (e : Same H H') : Keeper A H' k Fp st c := by
  obtain ⟨dx, s, ds, d, kvs, gv, h1, h2, h3⟩ := a
  exact ⟨dx, s, ds, d, kvs, gv, h1.same e, h2, h3.same e⟩
theorem Keeper.more {A : Ad} {H : Hp} {k : Addr} {Fp : List Addr} {st : Option Game} {c c' : Nat} (a : Keeper A H k Fp st c) (h : c ≤ c') : Keeper A H k Fp st c' := by
  obtain ⟨dx, s, ds, d, kvs, gv, h1, h2, h3⟩ := a
  exact ⟨dx, s, ds, d, kvs, gv, h1, Nat.le_trans h2 (Nat.mul_le_mul_left _ h), h3⟩
/-- what is not owned stands; what is owned was, or is new -/
def Frame (H : Hp) (F : List Addr) (H' : Hp) (F' : List Addr) : Prop := (∀ b o, H b = some o → b ∉ F → H' b = some o) ∧ ∀ b ∈ F', b ∈ F ∨ H b = none
theorem Frame.of_same {H H' : Hp} {F : List Addr} (e : Same H H') : Frame H F H' F := ⟨fun b o h _ => e b o h, fun b hb => .inl hb⟩
/-- what a call leaves -/
def Post (A : Ad) (H : Hp) (k : Addr) (F : List Addr) (st : Option Game) (ans : List Int) (cnt : Nat) (Q : VK) (E : XK) : Prop :=
  (∀ H' F' p, Keeper A H' k F' st cnt → Frame H F H' F' → H' p = some (.lst (ans.map V.int)) → H p = none → Q (.ref p) H') ∧
  (∀ H' d z, ans = [z] → Keeper A H' k F st cnt → Same H H' → H' d = some (.xd [("number", .int z)]) → E (.ref A.cRefusal) (some d) H')
theorem Post.ok {A : Ad} {H H' : Hp} {k p : Addr} {F : List Addr} {st : Option Game} {ans : List Int} {c : Nat} {Q : VK} {E : XK} (h : Post A H k F st ans (c + 1) Q E) (a : Keeper A H k F st c) (e : Same H H') (hp : H' p = some (.lst (ans.map V.int))) (np : H p = none) : Q (.ref p) H' :=
  h.1 H' F p ((a.same e).more (Nat.le_succ _)) (.of_same e) hp np
theorem Post.no {A : Ad} {H H' : Hp} {k d : Addr} {F : List Addr} {st : Option Game} {z : Int} {ans : List Int} {c : Nat} {Q : VK} {E : XK} (h : Post A H k F st ans (c + 1) Q E) (ha : ans = [z]) (a : Keeper A H k F st c) (e : Same H H') (hd : H' d = some (.xd [("number", .int z)])) : E (.ref A.cRefusal) (some d) H' :=
  h.2 H' d z ha ((a.same e).more (Nat.le_succ _)) e hd
def sp_searcher_init (A : Ad) : Sp := fun vs H Q _ => ∃ (p dx : Addr), vs = [.ref p] ∧ H p = some (.ins A.cSearcher dx []) ∧ ∀ H' d, H' p = some (.ins A.cSearcher dx (sF d)) → H' d = some (.dT []) → H d = none → (∀ b o, H b = some o → b ≠ p → H' b = some o) → Q .non H'
def sp_keeper_init (A : Ad) : Sp := fun vs H Q _ => ∃ (p dx : Addr), vs = [.ref p] ∧ H p = some (.ins A.cKeeper dx []) ∧ ∀ H' s ds d, KeepAt A H' p dx s ds d [] .non → H d = none → (∀ b o, H b = some o → b ≠ p → H' b = some o) → Q .non H'
def sp_need (A : Ad) : Sp := fun vs H Q E => ∃ (b : Bool) (z : Int), vs = [.bl b, .int z] ∧ (b = true → Q .non H) ∧ (b = false → ∀ d, H d = none → E (.ref A.cRefusal) (some d) (upd H d (.xd [("number", .int z)])))
def cellI (n : Nat) (l : List Nat) : List Int := (l.length : Int) :: l.flatMap fun i => [((i / n : Nat) : Int), ((i % n : Nat) : Int)]
def sp_cells_told (A : Ad) : Sp := fun vs H Q _ => ∃ (a b : Addr) (n : Nat) (l : List Nat), vs = [.ref a, .ref b] ∧ FieldR A H a n ∧ H b = some (.lst (vL (pows n l))) ∧ l.length ≤ 121 ∧ (∀ i ∈ l, i < n * n) ∧ ∀ H' p, Same H H' → H p = none → H' p = some (.lst ((cellI n l).map V.int)) → Q (.ref p) H'
section
variable {P : Program} {w : World} {K : PySem.W.Frag} {mg : Str → Option Value} {base : Heap} {A : Ad}
theorem sc_searcher_init : FnScope ["self"] ["self"] (defScope s_searcher_init) := ⟨rfl, rfl, rfl, by decide +kernel, rfl, by decide +kernel, by decide +kernel⟩
theorem ok_searcher_init (T : Txt K mg A) : Kp P w K mg base CX0 1 A.f_searcher_init ["self"] (sp_searcher_init A) := by
  refine T.d_searcher_init.ok sc_searcher_init (fun vs H Q E h => ?_) (fun cdv A' outer s H vs Q E hr h => ?_)
  · obtain ⟨p, dx, rfl, _⟩ := h
    rfl
  obtain ⟨p, dx, rfl, hp, q⟩ := h
  refine ⟨_, (pss_one (ps_fld (pv 0) pe_dnewT rfl)), ?_⟩
  intro d nd
  have pd : p ≠ d := ne_of_none hp nd
  refine ⟨_, rfl, p, A.cSearcher, dx, [], rfl, (upd_ne pd).trans hp, T.clSearcher, T.nSearcher_known, (by show 0 < 1000; decide), ?_⟩
  refine q _ d upd_same ((upd_ne (Ne.symm pd)).trans upd_same) nd fun b o e hb => ?_
  rw [upd_ne hb, upd_ne (ne_of_none e nd)]
  exact e
theorem sc_keeper_init : FnScope ["self"] ["self"] (defScope s_keeper_init) := ⟨rfl, rfl, rfl, by decide +kernel, rfl, by decide +kernel, by decide +kernel⟩
theorem ok_keeper_init (T : Txt K mg A) : Kp P w K mg base CX0 3 A.f_keeper_init ["self"] (sp_keeper_init A) := by
  refine T.d_keeper_init.ok sc_keeper_init (fun vs H Q E h => ?_) (fun cdv A' outer s H vs Q E hr h => ?_)
  · obtain ⟨p, dx, rfl, _⟩ := h
    rfl
  obtain ⟨p, dx, rfl, hp, q⟩ := h
  refine ⟨_, (pss_cons (ps_fld (pv 0) pe_non rfl)
      (pss_one (ps_fld (pv 0) (pk0 T.mkSearcher (ok_searcher_init T) T.gSearcher hr) rfl))), ?_⟩
  refine ⟨_, rfl, p, A.cKeeper, dx, [], rfl, hp, T.clKeeper, T.nKeeper_game, (by show 0 < 1000; decide), ?_⟩
  intro x ds nx nds ne
  refine ⟨x, ds, rfl, upd_same, fun H1 d hx hd nd kp => ⟨rfl, ?_⟩⟩
  have s1 := Same.made nx nds kp
  have hp1 := s1 _ _ upd_same
  have px : p ≠ x := ne_of_none upd_same nx
  refine ⟨_, rfl, p, A.cKeeper, dx, _, rfl, hp1, T.clKeeper, T.nKeeper_searcher, (by show 1 < 1000; decide), ?_⟩
  have e : putF "searcher" (.ref x) (putF "game" .non []) = kF .non x := (put_past (by decide +kernel)).trans rfl
  refine of_upd e ?_
  have dp : d ≠ p := fun z => by
    rw [z] at hd
    rw [hp1] at hd
    cases hd
  have nd0 : H d = none := by
    have dx' : d ≠ x := fun z => by
      rw [z, hx] at hd
      cases hd
    have dd : d ≠ ds := fun z => by
      rw [z] at nd
      rw [upd_ne (by rw [← z]; exact dx'), upd_same] at nd
      cases nd
    rw [upd_ne dx', upd_ne dd, upd_ne dp] at nd
    exact nd
  refine q _ x ds d ⟨upd_same, (upd_ne (Ne.symm px)).trans hx, (upd_ne dp).trans hd, ⟨fun _ _ h => (nomatch h), List.nodup_nil⟩⟩ nd0 fun b o e hb => ?_
  rw [upd_ne hb]
  exact s1 _ _ ((upd_ne hb).trans e)
theorem sc_need : FnScope ["truth", "number"] ["truth", "number"] (defScope s_need) := ⟨rfl, rfl, rfl, by decide +kernel, rfl, by decide +kernel, by decide +kernel⟩
theorem ok_need (T : Txt K mg A) : Kp P w K mg base (L2.CX P w) 3 A.f_need ["truth", "number"] (sp_need A) := by
  refine T.d_need.okX sc_need (fun vs H Q E h => ?_) (fun cdv A' outer s H vs Q E hr h => ?_)
  · obtain ⟨b, z, rfl, _⟩ := h
    rfl
  obtain ⟨b, z, rfl, k1, k2⟩ := h
  refine ⟨_, (pss_one (ps_if (pt_not (pt_val (pv 0))) (pss_one (ps_raiseRef rfl T.ref hr (takes_of rfl rfl rfl rfl) (by exact (pa_cons (pv 1) pa_nil)))) pss_nil)), ?_⟩
  refine ⟨_, rfl, _, rfl, ?_⟩
  cases b with
  | true => exact if_false_of (by rfl) (k1 rfl)
  | false => exact if_true_of (by rfl) ⟨_, rfl, _, rfl, fun d hd => k2 rfl d hd⟩
theorem sc_cells_told : FnScope ["field", "bits", "found", "bit"] ["field", "bits"] (defScope s_cells_told) := ⟨rfl, rfl, rfl, by decide +kernel, rfl, by decide +kernel, by decide +kernel⟩
theorem ok_cells_told (T : Txt K mg A) : Kp P w K mg base CX0 2 A.f_cells_told ["field", "bits"] (sp_cells_told A) := by
  refine T.d_cells_told.ok sc_cells_told (fun vs H Q E h => ?_) (fun cdv A' outer s H vs Q E hr h => ?_)
  · obtain ⟨a, b, n, l, rfl, _⟩ := h
    rfl
  obtain ⟨a, b, n, l, rfl, FR, hb, hl, hlt, q⟩ := h
  obtain ⟨lb, lf, lo, F⟩ := id FR
  obtain ⟨dF, hF⟩ := F.at_
  refine ⟨_, (pss_cons (ps_set (i := 2) sc_cells_told.nd rfl (Or.inl rfl) (pe_lst (pa_cons (pe_callB call_len_seq rfl T.b_len PySem.boot_len (pa_cons (pv 1) pa_nil)) pa_nil)))
      (pss_cons (ps_for PassesOwn.never rfl (pi_list (pv 1)) (pg_name (i := 3) sc_cells_told.nd rfl (Or.inl rfl)) (pss_one (ps_expr (pe_bm PySem.F.plainAttrs_list PySem.F.slot_list_extend PySem.F.type_list_extend mt_extend (pv 2) (pa_cons (pm (pv 0) T.clField T.m_field_place_of (ok_field_place_of T) hr (pa_cons (pv 3) pa_nil)) pa_nil)))))
      (pss_one (ps_ret (pv 2))))), ?_⟩
  refine ⟨_, rfl, b, _, rfl, .inl (SqL.of hb), (by show 1 ≤ sizeLine; decide), fun p np => ?_⟩
  have bp : b ≠ p := ne_of_none hb np
  refine ⟨_, rfl, b, rfl, ⟨_, SqL.of ((upd_ne bp).trans hb)⟩, for_list (K := K) (a := b) (xs := vL (pows n l)) (fun i σ H' => ∃ bt : Option V, σ = [some (.ref a), some (.ref b), some (.ref p), bt] ∧ Same H H' ∧ H' p = some (.lst (((l.length : Int) :: (l.take i).flatMap fun i => [((i / n : Nat) : Int), ((i % n : Nat) : Int)]).map V.int))) ?_ ?_ ?_ ?_⟩
  · refine ⟨none, rfl, same_new np _, ?_⟩
    rw [upd_same, vL_len, pows_len]
    rfl
  · rintro i σ H' _ ⟨bt, _, s1, _⟩
    exact SqL.of (s1 _ _ hb)
  · rintro i x σ H' hx ⟨bt, rfl, s1, hp1⟩
    obtain ⟨j, hj, rfl⟩ : ∃ j, l[i]? = some j ∧ x = vN (2 ^ bidx n j) := by
      unfold vL pows at hx
      rw [List.getElem?_map, List.getElem?_map] at hx
      cases e : l[i]? with
      | none =>
        rw [e] at hx
        cases hx
      | some j =>
        rw [e] at hx
        exact ⟨j, rfl, (Option.some.inj hx).symm⟩
    refine ⟨_, rfl, .inl ⟨rfl, _, SqL.of hp1⟩, _, rfl, a, dF, _, rfl, s1 _ _ hF, fF_none, _, rfl, a, n, j, rfl, FR.same s1, hlt j (List.mem_of_getElem? hj), fun t nt => ?_⟩
    have pt : p ≠ t := ne_of_none hp1 nt
    refine ⟨p, t, _, _, rfl, rfl, (upd_ne pt).trans hp1, upd_same, ?_, ?_⟩
    · have e0 : ∀ m : List Nat, (m.flatMap fun i => [((i / n : Nat) : Int), ((i % n : Nat) : Int)]).length = 2 * m.length := by
        intro m
        induction m with
        | nil => rfl
        | cons a m ih =>
          rw [List.flatMap_cons, List.length_append, ih]
          show 2 + 2 * m.length = 2 * (m.length + 1)
          omega
      rw [List.length_map, List.length_cons, e0, List.length_take]
      show _ + 2 ≤ _
      exact Nat.le_of_lt (small1000 (by omega))
    · refine ⟨_, rfl, fun b' o e => ?_, ?_⟩
      · rw [upd_ne (ne_of_none e np), upd_ne (ne_of_none (s1 _ _ e) nt)]
        exact s1 _ _ e
      · rw [upd_same, take_more hj, List.flatMap_append]
        show _ = some (HO.lst (List.map V.int (((l.length : Int) :: (l.take i).flatMap fun i => [((i / n : Nat) : Int), ((i % n : Nat) : Int)]) ++ [((j / n : Nat) : Int), ((j % n : Nat) : Int)])))
        rw [List.map_append]
        rfl
  · rintro σ H' ⟨bt, rfl, s1, hp1⟩
    rw [vL_len, pows_len, List.take_of_length_le (Nat.le_refl _)] at hp1
    exact ⟨_, rfl, q H' p s1 np hp1⟩
end
end Hx
/-! W14: the calls. -/
namespace Hx
open PySem PySem.Spec PyProof.Rows L2
open Mu25 (Game Board)
def SpC (A : Ad) (K : PySem.W.Frag) (ar : List Nat) (cl : Mu25.Call) : Sp := fun vs H Q E => ∃ (k l : Addr) (F : List Addr) (G : Game) (c : Nat), vs = [.ref k, .ref l] ∧ Keeper A H k F (some G) c ∧ SqL K H l (vL ar) ∧ c ≤ 60 ∧ Post A H k F (Mu25.step (some G) cl).1 (Mu25.step (some G) cl).2 (c + 1) Q E
theorem SpC.len {A : Ad} {K : PySem.W.Frag} {ar : List Nat} {cl : Mu25.Call} {vs : List V} {H : Hp} {Q : VK} {E : XK} (h : SpC A K ar cl vs H Q E) : vs.length = 2 := by
  obtain ⟨k, l, F, G, c, rfl, _⟩ := h
  rfl
def sp_call_begin (A : Ad) (K : PySem.W.Frag) : Sp := fun vs H Q E => ∃ (k l : Addr) (F : List Addr) (st : Option Game) (c n : Nat), vs = [.ref k, .ref l] ∧ Keeper A H k F st c ∧ SqL K H l (vL [n]) ∧ Post A H k F (Mu25.step st (.begin_ n)).1 (Mu25.step st (.begin_ n)).2 (c + 1) Q E
def sp_call_play (A : Ad) (K : PySem.W.Frag) : Sp := fun vs H Q E => ∃ r c : Nat, SpC A K [r, c] (.play r c) vs H Q E
def sp_call_swap (A : Ad) (K : PySem.W.Frag) : Sp := SpC A K [] .swap
def sp_call_undo (A : Ad) (K : PySem.W.Frag) : Sp := SpC A K [] .undo
def sp_call_look (A : Ad) (K : PySem.W.Frag) : Sp := SpC A K [] .look
def sp_call_rows (A : Ad) (K : PySem.W.Frag) : Sp := SpC A K [] .rows
def sp_call_lacks (A : Ad) (K : PySem.W.Frag) : Sp := fun vs H Q E => ∃ x : Nat, SpC A K [x] (.lacks x) vs H Q E
def sp_call_chain (A : Ad) (K : PySem.W.Frag) : Sp := SpC A K [] .chain
def sp_call_groups (A : Ad) (K : PySem.W.Frag) : Sp := fun vs H Q E => ∃ x : Nat, SpC A K [x] (.groups x) vs H Q E
def sp_call_threats (A : Ad) (K : PySem.W.Frag) : Sp := fun vs H Q E => ∃ x : Nat, SpC A K [x] (.threats x) vs H Q E
def sp_call_best (A : Ad) (K : PySem.W.Frag) : Sp := SpC A K [] .best
/-- an instance with neither a field nor a size is no part of a game -/
theorem GameL.upd_ins {A : Ad} {H : Hp} {g lp lb lf lo k C dx : Addr} {G : Game} {fs : List (Str × V)} {o : HO} (a : GameL A H g lp lb lf lo G) (hk : H k = some (.ins C dx fs)) (h1 : fs.lookup ("field" : Str) = none) (h2 : fs.lookup ("size" : Str) = none) : GameL A (upd H k o) g lp lb lf lo G := by
  obtain ⟨dg, f, a⟩ := a
  obtain ⟨⟨dF, hF⟩, hb, hf, ho, n2, n11⟩ := a.fld
  have ngk : g ≠ k := fun z => by
    have := a.at_
    rw [z, hk] at this
    injection this with this
    injection this with _ _ c3
    rw [c3, gF_field] at h1
    cases h1
  have nfk : f ≠ k := fun z => by
    rw [z, hk] at hF
    injection hF with this
    injection this with _ _ c3
    rw [c3, fF_size] at h2
    cases h2
  have nl : ∀ {b : Addr} {xs : List V}, H b = some (.lst xs) → b ≠ k := fun {b xs} e z => by
    rw [z, hk] at e
    cases e
  exact ⟨dg, f, (upd_ne ngk).trans a.at_, ⟨⟨dF, (upd_ne nfk).trans hF⟩, (upd_ne (nl hb)).trans hb, (upd_ne (nl hf)).trans hf, (upd_ne (nl ho)).trans ho, n2, n11⟩, (upd_ne (nl a.put)).trans a.put, a.nb, a.nf, a.no, a.ok⟩
section
variable {P : Program} {w : World} {K : PySem.W.Frag} {mg : Str → Option Value} {base : Heap} {A : Ad}
theorem sc_call_begin : FnScope ["keeper", "numbers", "size"] ["keeper", "numbers"] (defScope s_call_begin) := ⟨rfl, rfl, rfl, by decide +kernel, rfl, by decide +kernel, by decide +kernel⟩
theorem ok_call_begin (T : Txt K mg A) : Kp P w K mg base (L2.CX P w) 6 A.f_call_begin ["keeper", "numbers"] (sp_call_begin A K) := by
  refine T.d_call_begin.okX sc_call_begin (fun vs H Q E h => ?_) (fun cdv A' outer s H vs Q E hr h => ?_)
  · obtain ⟨k, l, F, st, c, n, rfl, _⟩ := h
    rfl
  obtain ⟨k, l, F, st, c, n, rfl, hK, hl, post⟩ := h
  refine ⟨_, (pss_cons (ps_set (i := 2) sc_call_begin.nd rfl (Or.inl rfl) (pe_ix ix_list (pv 1) pe_int (fun _ _ => rfl)))
      (pss_cons (ps_expr (pcX (ok_need T) T.g_need hr (takes_of rfl rfl rfl rfl) (by exact (pa_cons (pe_chain op_leN op_leN (pgl T.iLEAST_SIZE) (pv 2) (pgl T.iMOST_SIZE)) (pa_cons (pe_un un_neg pe_int) pa_nil)))))
      (pss_cons (ps_fld (pv 0) (pk T.mkGame (ok_game_init T) T.gGame hr (by exact (pa_cons (pv 2) pa_nil))) rfl)
      (pss_one (ps_ret (pe_lst (pa_cons pe_int pa_nil))))))), ?_⟩
  refine ⟨_, rfl, l, _, _, _, rfl, rfl, hl, atI_nat (j := 0) (by rfl), ?_⟩
  have step_no : ¬ (2 ≤ n ∧ n ≤ 11) → Mu25.step st (.begin_ n) = (st, [-1]) := fun h => by
    show (if n < 2 ∨ 11 < n then (st, [-1]) else _) = _
    rw [if_pos (by omega)]
  have step_yes : 2 ≤ n ∧ n ≤ 11 → Mu25.step st (.begin_ n) = (some ⟨n, [], false⟩, [0]) := fun h => by
    show (if n < 2 ∨ 11 < n then (st, [-1]) else _) = _
    rw [if_neg (by omega)]
  have no : ¬ (2 ≤ n ∧ n ≤ 11) → ∀ d, H d = none → E (.ref A.cRefusal) (some d) (upd H d (.xd [("number", .int (-1))])) := fun h d nd => by
    rw [step_no h] at post
    exact post.no rfl hK (same_new nd _) upd_same
  refine ⟨_, rfl, 2, _, rfl, rfl, _, rfl, ?_⟩
  by_cases c2 : 2 ≤ n
  · refine if_true_of (decide_eq_true c2) ?_
    refine ⟨_, 11, rfl, rfl, _, rfl, _, _, rfl, fun hb => ?_, fun hb => no fun h => ?_⟩
    · have c11 : n ≤ 11 := of_decide_eq_true hb
      rw [step_yes ⟨c2, c11⟩] at post
      refine ⟨_, rfl, ?_⟩
      intro x dx nx nd ne
      refine ⟨x, dx, n, rfl, upd_same, c2, c11, fun H1 lp lb lf lo GL nlp nlb nlf nlo kp => ⟨rfl, ?_⟩⟩
      have s1 := Same.made nx nd kp
      have fr : ∀ {l}, (upd (upd H dx (.own x)) x (.ins A.cGame dx [])) l = none → H l = none := fun {l} e => by
        by_cases z : l = x
        · subst z; exact nx
        · rw [upd_ne z] at e
          by_cases y : l = dx
          · subst y; exact nd
          · rw [upd_ne y] at e; exact e
      obtain ⟨dk, ss, ds, d, kvs, gv, ka, hcnt, hgv⟩ := hK
      have ka1 := ka.same s1
      refine ⟨_, rfl, k, A.cKeeper, dk, _, rfl, ka1.at_, T.clKeeper, T.nKeeper_game, (by show 2 < 1000; decide), ?_⟩
      refine of_upd (kF_set (.ref x)) ?_
      have GL2 := GL.upd_ins (o := .ins A.cKeeper dk (kF (.ref x) ss)) ka1.at_ kF_none kF_none
      have sk : ss ≠ k := fun z => by
        have := ka.srch
        rw [z, ka.at_] at this
        injection this with this
        injection this with _ _ c3
        have e1 : (kF gv ss).lookup ("known" : Str) = (sF d).lookup ("known" : Str) := congrArg _ c3
        rw [kF_none, sF_known] at e1
        cases e1
      have dk' : d ≠ k := fun z => by
        have := ka.dict
        rw [z, ka.at_] at this
        cases this
      have hk0 : k ∈ F ∧ d ∈ F := by
        cases st with
        | none =>
          obtain ⟨_, rfl⟩ := hgv
          simp
        | some G =>
          obtain ⟨g, lp, lb, lf, lo, _, _, rfl⟩ := hgv
          simp
      refine ⟨(by show 1 ≤ sizeLine; decide), fun p np => ?_⟩
      have s3 := same_new np (.lst [.int 0])
      refine post.1 _ [k, d, x, lp, lb, lf, lo] p ⟨dk, ss, ds, d, kvs, .ref x, ⟨s3 _ _ upd_same, s3 _ _ ((upd_ne sk).trans ka1.srch), s3 _ _ ((upd_ne dk').trans ka1.dict), ka.memo⟩, Nat.le_trans hcnt (Nat.mul_le_mul_left _ (Nat.le_succ _)), x, lp, lb, lf, lo, rfl, GL2.same s3, rfl⟩ ⟨fun b o e hb => ?_, fun b hb => ?_⟩ upd_same ?_
      · refine s3 _ _ ?_
        rw [upd_ne fun z => hb (by rw [z]; exact hk0.1)]
        exact s1 _ _ e
      · simp only [List.mem_cons, List.not_mem_nil, or_false] at hb
        rcases hb with rfl | rfl | rfl | rfl | rfl | rfl | rfl
        · exact .inl hk0.1
        · exact .inl hk0.2
        · exact .inr nx
        · exact .inr (fr nlp)
        · exact .inr (fr nlb)
        · exact .inr (fr nlf)
        · exact .inr (fr nlo)
      · refine free_of (p := k) (H := H) ⟨_, upd_same⟩ (fun b o e hb => ?_) np
        rw [upd_ne hb]
        exact s1 _ _ e
    · have := of_decide_eq_false hb
      exact this h.2
  · refine if_false_of (decide_eq_false c2) ?_
    exact ⟨_, rfl, _, _, rfl, fun hb => Bool.noConfusion hb, fun _ => no fun h => c2 h.1⟩
end
end Hx
/-! W15: play, swap, undo, look. -/
namespace Hx
open PySem PySem.Spec PyProof.Rows L2
open Mu25 (Game Board)
theorem wonV_isNone (o : Option Bool) : decide (wonV o = .non) = o.isNone := by
  cases o with
  | none => rfl
  | some w => rfl
theorem GameL.ok {A : Ad} {H : Hp} {g lp lb lf lo : Addr} {G : Game} (a : GameL A H g lp lb lf lo G) : GOk G := by
  obtain ⟨dx, f, a⟩ := a
  exact a.ok
/-- the keeper behind a change of its game's own list and object -/
theorem KeepAt.but {A : Ad} {H H' : Hp} {k dx s ds d g lp lb lf lo : Addr} {kvs : List (List L2.Key × V)} {gv : V} {G : Game} (a : KeepAt A H k dx s ds d kvs gv) (GL : GameL A H g lp lb lf lo G) (keep : ∀ b o, H b = some o → b ≠ lp → b ≠ g → H' b = some o) : KeepAt A H' k dx s ds d kvs gv := by
  obtain ⟨dg, f, ga⟩ := GL
  have ngk : k ≠ g := fun z => by
    have := a.at_
    rw [z, ga.at_] at this
    injection this with this
    injection this with _ _ c3
    have e1 : (gF f lp G.swapped).lookup ("field" : Str) = (kF gv s).lookup ("field" : Str) := congrArg _ c3
    rw [gF_field, kF_none] at e1
    cases e1
  have ngs : s ≠ g := fun z => by
    have := a.srch
    rw [z, ga.at_] at this
    injection this with this
    injection this with _ _ c3
    have e1 : (gF f lp G.swapped).lookup ("field" : Str) = (sF d).lookup ("field" : Str) := congrArg _ c3
    rw [gF_field, sF_none] at e1
    cases e1
  have nd : d ≠ g := fun z => by
    have := a.dict
    rw [z, ga.at_] at this
    cases this
  have nl1 : k ≠ lp := fun z => by
    have := a.at_
    rw [z, ga.put] at this
    cases this
  have nl2 : s ≠ lp := fun z => by
    have := a.srch
    rw [z, ga.put] at this
    cases this
  have nl3 : d ≠ lp := fun z => by
    have := a.dict
    rw [z, ga.put] at this
    cases this
  exact ⟨keep _ _ a.at_ nl1 ngk, keep _ _ a.srch nl2 ngs, keep _ _ a.dict nl3 nd, a.memo⟩
section
variable {P : Program} {w : World} {K : PySem.W.Frag} {mg : Str → Option Value} {base : Heap} {A : Ad}
theorem sc_call_look : FnScope ["keeper", "numbers"] ["keeper", "numbers"] (defScope s_call_look) := ⟨rfl, rfl, rfl, by decide +kernel, rfl, by decide +kernel, by decide +kernel⟩
theorem ok_call_look (T : Txt K mg A) : Kp P w K mg base CX0 6 A.f_call_look ["keeper", "numbers"] (sp_call_look A K) := by
  refine T.d_call_look.ok sc_call_look (fun vs H Q E h => h.len) (fun cdv A' outer s H vs Q E hr h => ?_)
  obtain ⟨k, l, F, G, c, rfl, hK, hl, hc, post⟩ := h
  obtain ⟨dk, ss, ds, d, kvs, gv, ka, hcnt, g, lp, lb, lf, lo, rfl, GL, rfl⟩ := id hK
  obtain ⟨dg, f, ga⟩ := id GL
  refine ⟨_, (pss_one (ps_ret (pm0 (pe_fld (pv 0) rfl) T.clGame T.m_game_standing (ok_game_standing T) hr))), ?_⟩
  exact ⟨_, rfl, k, A.cKeeper, dk, _, _, rfl, ka.at_, T.clKeeper, T.nKeeper_game, kF_game, g, dg, _, rfl, ga.at_, gF_none, g, lp, G, rfl, GL.r, fun H' p s1 np hp => post.ok hK s1 hp np⟩
theorem sc_call_play : FnScope ["keeper", "numbers", "game", "row", "column"] ["keeper", "numbers"] (defScope s_call_play) := ⟨rfl, rfl, rfl, by decide +kernel, rfl, by decide +kernel, by decide +kernel⟩
theorem ok_call_play (T : Txt K mg A) : Kp P w K mg base (L2.CX P w) 6 A.f_call_play ["keeper", "numbers"] (sp_call_play A K) := by
  refine T.d_call_play.okX sc_call_play (fun vs H Q E h => ?_) (fun cdv A' outer s H vs Q E hr h => ?_)
  · obtain ⟨_, _, h⟩ := h
    exact h.len
  obtain ⟨r, c, k, l, F, G, cnt, rfl, hK, hl, hc, post⟩ := h
  obtain ⟨dk, ss, ds, d, kvs, gv, ka, hcnt, g, lp, lb, lf, lo, rfl, GL, rfl⟩ := id hK
  obtain ⟨dg, f, ga⟩ := id GL
  obtain ⟨dF, hF⟩ := ga.fld.at_
  refine ⟨_, (pss_cons (ps_asg (pv 1) (pg_unl rfl (pgs_cons (pg_name (i := 3) sc_call_play.nd rfl (Or.inl rfl)) (pgs_cons (pg_name (i := 4) sc_call_play.nd rfl (Or.inl rfl)) pgs_nil))))
      (pss_cons (ps_set (i := 2) sc_call_play.nd rfl (Or.inl rfl) (pe_fld (pv 0) rfl))
      (pss_cons (ps_expr (pcX (ok_need T) T.g_need hr (takes_of rfl rfl rfl rfl) (by exact (pa_cons (pm (pe_fld (pv 2) rfl) T.clField T.m_field_has (ok_field_has T) hr (pa_cons (pv 3) (pa_cons (pv 4) pa_nil))) (pa_cons (pe_un un_neg pe_int) pa_nil)))))
      (pss_cons (ps_expr (pcX (ok_need T) T.g_need hr (takes_of rfl rfl rfl rfl) (by exact (pa_cons (pe_cmpR op_isN (pm0 (pv 2) T.clGame T.m_game_winner (ok_game_winner T) hr) pe_non (nomark _)) (pa_cons (pe_un un_neg pe_int) pa_nil)))))
      (pss_cons (ps_expr (pcX (ok_need T) T.g_need hr (takes_of rfl rfl rfl rfl) (by exact (pa_cons (pm (pv 2) T.clGame T.m_game_can_put (ok_game_can_put T) hr (pa_cons (pv 3) (pa_cons (pv 4) pa_nil))) (pa_cons (pe_un un_neg pe_int) pa_nil)))))
      (pss_cons (ps_expr (pm (pv 2) T.clGame T.m_game_put_stone (ok_game_put_stone T) hr (pa_cons (pv 3) (pa_cons (pv 4) pa_nil))))
      (pss_one (ps_ret (pm0 (pv 2) T.clGame T.m_game_standing (ok_game_standing T) hr))))))))), ?_⟩
  have st : Mu25.step (some G) (.play r c) = if G.n ≤ r ∨ G.n ≤ c then (some G, [-1]) else if (Mu25.won G).isSome = true then (some G, [-3]) else if (Mu25.place (Mu25.board G) (r * G.n + c)).isSome = true then (some G, [-4]) else (some { G with moves := G.moves ++ [r * G.n + c] }, Mu25.lookNums { G with moves := G.moves ++ [r * G.n + c] }) := rfl
  refine ⟨_, rfl, l, _, rfl, hl, rfl, _, _, rfl, _, _, rfl, rfl, ?_⟩
  refine ⟨_, rfl, k, A.cKeeper, dk, _, _, rfl, ka.at_, T.clKeeper, T.nKeeper_game, kF_game, ?_⟩
  refine ⟨_, rfl, g, A.cGame, dg, _, _, rfl, ga.at_, T.clGame, T.nGame_field, gF_field, f, dF, _, rfl, hF, fF_none, _, rfl, _, rfl, f, G.n, r, c, rfl, ga.fr, _, rfl, _, _, rfl, fun hb => ?_, fun hb d' nd => ?_⟩
  · rw [Bool.and_eq_true, decide_eq_true_iff, decide_eq_true_iff] at hb
    rw [if_neg (by omega)] at st
    refine ⟨_, rfl, g, dg, _, rfl, ga.at_, gF_none, g, lp, G, rfl, GL.r, fun H1 s1 => ⟨rfl, _, rfl, _, _, rfl, fun hw => ?_, fun hw d' nd => ?_⟩⟩
    · rw [wonV_isNone] at hw
      have hw' : Mu25.won G = none := by simpa using hw
      rw [hw'] at st
      rw [if_neg (by simp)] at st
      have ga1 := ga.same s1
      have GL1 := GL.same s1
      refine ⟨_, rfl, g, dg, _, rfl, ga1.at_, gF_none, _, rfl, _, rfl, g, lp, G, r, c, rfl, GL1.r, fun H2 s2 => ⟨_, rfl, _, _, rfl, fun hcan => ?_, fun hcan d' nd => ?_⟩⟩
      · have s12 := s1.trans s2
        have hpl := (canB_parts hcan).2.2.2
        rw [hpl, if_neg (by simp)] at st
        have ga2 := ga.same s12
        have GL2 := GL.same s12
        refine ⟨_, rfl, g, dg, _, rfl, ga2.at_, gF_none, _, rfl, _, rfl, g, lp, lb, lf, lo, G, r, c, rfl, GL2, hcan, fun H3 GL3 keep3 => ?_⟩
        obtain ⟨dg3, f3, ga3⟩ := id GL3
        refine ⟨_, rfl, g, dg3, _, rfl, ga3.at_, gF_none, g, lp, _, rfl, GL3.r, fun H4 p s4 np hp => ?_⟩
        rw [st] at post
        have ka3 : KeepAt A H3 k dk ss ds d kvs (.ref g) := (ka.same s12).but GL2 fun b o e h1 _ => keep3 b o e h1
        refine post.1 H4 [k, d, g, lp, lb, lf, lo] p ⟨dk, ss, ds, d, kvs, .ref g, ka3.same s4, Nat.le_trans hcnt (Nat.mul_le_mul_left _ (Nat.le_succ _)), g, lp, lb, lf, lo, rfl, GL3.same s4, rfl⟩ ⟨fun b o e hb => ?_, fun b hb => .inl hb⟩ hp ?_
        · exact s4 _ _ (keep3 b o (s12 _ _ e) fun z => hb (by simp [z]))
        · exact s12.free (free_of (p := lp) ⟨_, ga3.put⟩ keep3 np)
      · have hpl : (Mu25.place (Mu25.board G) (r * G.n + c)).isSome = true := by
          unfold canB at hcan
          rw [hw'] at hcan
          simpa [hb.1, hb.2] using hcan
        rw [if_pos hpl] at st
        rw [st] at post
        exact post.no rfl hK ((s1.trans s2).trans (same_new nd _)) upd_same
    · rw [wonV_isNone] at hw
      have hw' : (Mu25.won G).isSome = true := by
        cases h : Mu25.won G with
        | none => rw [h] at hw; cases hw
        | some _ => rfl
      rw [if_pos hw'] at st
      rw [st] at post
      exact post.no rfl hK (s1.trans (same_new nd _)) upd_same
  · have hb' : G.n ≤ r ∨ G.n ≤ c := by
      rw [Bool.and_eq_false_iff, decide_eq_false_iff_not, decide_eq_false_iff_not] at hb
      omega
    rw [if_pos hb'] at st
    rw [st] at post
    exact post.no rfl hK (same_new nd _) upd_same
theorem sc_call_swap : FnScope ["keeper", "numbers", "game"] ["keeper", "numbers"] (defScope s_call_swap) := ⟨rfl, rfl, rfl, by decide +kernel, rfl, by decide +kernel, by decide +kernel⟩
theorem ok_call_swap (T : Txt K mg A) : Kp P w K mg base (L2.CX P w) 6 A.f_call_swap ["keeper", "numbers"] (sp_call_swap A K) := by
  refine T.d_call_swap.okX sc_call_swap (fun vs H Q E h => h.len) (fun cdv A' outer s H vs Q E hr h => ?_)
  obtain ⟨k, l, F, G, cnt, rfl, hK, hl, hc, post⟩ := h
  obtain ⟨dk, ss, ds, d, kvs, gv, ka, hcnt, g, lp, lb, lf, lo, rfl, GL, rfl⟩ := id hK
  obtain ⟨dg, f, ga⟩ := id GL
  obtain ⟨dF, hF⟩ := ga.fld.at_
  refine ⟨_, (pss_cons (ps_set (i := 2) sc_call_swap.nd rfl (Or.inl rfl) (pe_fld (pv 0) rfl))
      (pss_cons (ps_expr (pcX (ok_need T) T.g_need hr (takes_of rfl rfl rfl rfl) (by exact (pa_cons (pe_and (pe_cmpR op_eqN (pe_callB call_len_seq rfl T.b_len PySem.boot_len (pa_cons (pe_fld (pv 2) rfl) pa_nil)) pe_int (nomark _)) (pe_one (pe_not (pe_fld (pv 2) rfl)))) (pa_cons (pe_un un_neg pe_int) pa_nil)))))
      (pss_cons (ps_fld (pv 2) pe_bl rfl)
      (pss_one (ps_ret (pm0 (pv 2) T.clGame T.m_game_standing (ok_game_standing T) hr)))))), ?_⟩
  have st : Mu25.step (some G) .swap = if G.moves.length ≠ 1 ∨ G.swapped = true then (some G, [-4]) else (some { G with swapped := true }, Mu25.lookNums { G with swapped := true }) := rfl
  have no : G.moves.length ≠ 1 ∨ G.swapped = true → ∀ d, H d = none → E (.ref A.cRefusal) (some d) (upd H d (.xd [("number", .int (-4))])) := fun h d nd => by
    rw [st, if_pos h] at post
    exact post.no rfl hK (same_new nd _) upd_same
  refine ⟨_, rfl, k, A.cKeeper, dk, _, _, rfl, ka.at_, T.clKeeper, T.nKeeper_game, kF_game, ?_⟩
  refine ⟨_, rfl, g, A.cGame, dg, _, _, rfl, ga.at_, T.clGame, T.nGame_put, gF_put, lp, _, rfl, .inl (SqL.of ga.put), _, 1, rfl, rfl, _, rfl, ?_⟩
  have hll : (vL (pows G.n G.moves)).length = G.moves.length := by rw [vL_len, pows_len]
  by_cases c1 : G.moves.length = 1
  · refine if_true_of (by rw [hll]; exact decide_eq_true c1) ?_
    refine ⟨_, rfl, g, A.cGame, dg, _, _, rfl, ga.at_, T.clGame, T.nGame_is_swapped, gF_sw, _, rfl, _, rfl, _, _, rfl, fun hb => ?_, fun hb => no (.inr (by simpa using hb))⟩
    have hsw : G.swapped = false := by simpa using hb
    rw [if_neg (by rw [hsw]; simp [c1])] at st
    rw [st] at post
    refine ⟨_, rfl, g, A.cGame, dg, _, rfl, ga.at_, T.clGame, T.nGame_is_swapped, (by show 3 < 1000; decide), ?_⟩
    refine of_upd (gF_setSw true) ?_
    have nfg : f ≠ g := fun z => by
      rw [z, ga.at_] at hF
      injection hF with this
      injection this with _ _ c3
      have e1 : (gF f lp G.swapped).lookup ("field" : Str) = (fF G.n lb lf lo).lookup ("field" : Str) := congrArg _ c3
      rw [gF_field, fF_none] at e1
      cases e1
    have ne_g : ∀ {b : Addr} {xs : List V}, H b = some (.lst xs) → b ≠ g := fun {b xs} e z => by
      rw [z, ga.at_] at e
      cases e
    have ga3 : GameAt A (upd H g (.ins A.cGame dg (gF f lp true))) g lp { G with swapped := true } dg f lb lf lo :=
      ⟨upd_same, ⟨⟨dF, (upd_ne nfg).trans hF⟩, (upd_ne (ne_g ga.fld.bits)).trans ga.fld.bits, (upd_ne (ne_g ga.fld.fst)).trans ga.fld.fst, (upd_ne (ne_g ga.fld.oth)).trans ga.fld.oth, ga.fld.n2, ga.fld.n11⟩, (upd_ne (ne_g ga.put)).trans ga.put, ga.nb, ga.nf, ga.no, ga.ok.swap true⟩
    have GL3 : GameL A (upd H g (.ins A.cGame dg (gF f lp true))) g lp lb lf lo { G with swapped := true } := ⟨dg, f, ga3⟩
    refine ⟨_, rfl, g, dg, _, rfl, ga3.at_, gF_none, g, lp, _, rfl, GL3.r, fun H4 p s4 np hp => ?_⟩
    have ka3 : KeepAt A (upd H g (.ins A.cGame dg (gF f lp true))) k dk ss ds d kvs (.ref g) := ka.but GL fun b o e _ h2 => (upd_ne h2).trans e
    refine post.1 H4 [k, d, g, lp, lb, lf, lo] p ⟨dk, ss, ds, d, kvs, .ref g, ka3.same s4, Nat.le_trans hcnt (Nat.mul_le_mul_left _ (Nat.le_succ _)), g, lp, lb, lf, lo, rfl, GL3.same s4, rfl⟩ ⟨fun b o e hb => ?_, fun b hb => .inl hb⟩ hp ?_
    · refine s4 _ _ ((upd_ne fun z => hb (by simp [z])).trans e)
    · exact free_of (p := g) ⟨_, upd_same⟩ (fun b o e hb => (upd_ne hb).trans e) np
  · refine if_false_of (by rw [hll]; exact decide_eq_false c1) ?_
    exact ⟨_, rfl, _, _, rfl, fun hb => Bool.noConfusion hb, fun _ => no (.inl c1)⟩
theorem sc_call_undo : FnScope ["keeper", "numbers", "game"] ["keeper", "numbers"] (defScope s_call_undo) := ⟨rfl, rfl, rfl, by decide +kernel, rfl, by decide +kernel, by decide +kernel⟩
theorem ok_call_undo (T : Txt K mg A) : Kp P w K mg base (L2.CX P w) 6 A.f_call_undo ["keeper", "numbers"] (sp_call_undo A K) := by
  refine T.d_call_undo.okX sc_call_undo (fun vs H Q E h => h.len) (fun cdv A' outer s H vs Q E hr h => ?_)
  obtain ⟨k, l, F, G, cnt, rfl, hK, hl, hc, post⟩ := h
  obtain ⟨dk, ss, ds, d, kvs, gv, ka, hcnt, g, lp, lb, lf, lo, rfl, GL, rfl⟩ := id hK
  obtain ⟨dg, f, ga⟩ := id GL
  refine ⟨_, (pss_cons (ps_set (i := 2) sc_call_undo.nd rfl (Or.inl rfl) (pe_fld (pv 0) rfl))
      (pss_cons (ps_expr (pcX (ok_need T) T.g_need hr (takes_of rfl rfl rfl rfl) (by exact (pa_cons (pe_cmpR op_gtN (pe_callB call_len_seq rfl T.b_len PySem.boot_len (pa_cons (pe_fld (pv 2) rfl) pa_nil)) pe_int (nomark _)) (pa_cons (pe_un un_neg pe_int) pa_nil)))))
      (pss_cons (ps_expr (pm0 (pv 2) T.clGame T.m_game_take_back (ok_game_take_back T) hr))
      (pss_one (ps_ret (pm0 (pv 2) T.clGame T.m_game_standing (ok_game_standing T) hr)))))), ?_⟩
  have st : Mu25.step (some G) .undo = if G.moves.isEmpty = true then (some G, [-4]) else (some { G with moves := G.moves.take (G.moves.length - 1), swapped := G.swapped && decide (1 < G.moves.length) }, Mu25.lookNums { G with moves := G.moves.take (G.moves.length - 1), swapped := G.swapped && decide (1 < G.moves.length) }) := rfl
  have hll : (vL (pows G.n G.moves)).length = G.moves.length := by rw [vL_len, pows_len]
  refine ⟨_, rfl, k, A.cKeeper, dk, _, _, rfl, ka.at_, T.clKeeper, T.nKeeper_game, kF_game, ?_⟩
  refine ⟨_, rfl, g, A.cGame, dg, _, _, rfl, ga.at_, T.clGame, T.nGame_put, gF_put, lp, _, rfl, .inl (SqL.of ga.put), _, 0, rfl, rfl, _, rfl, _, _, rfl, fun hb => ?_, fun hb d' nd => ?_⟩
  · have hlen : 0 < G.moves.length := by
      rw [hll] at hb
      exact of_decide_eq_true hb
    have hne : G.moves ≠ [] := List.length_pos_iff.mp hlen
    rw [if_neg (by simpa using hne)] at st
    rw [st] at post
    refine ⟨_, rfl, g, dg, _, rfl, ga.at_, gF_none, g, lp, lb, lf, lo, G, rfl, GL, hne, fun H3 GL3 keep3 => ?_⟩
    obtain ⟨dg3, f3, ga3⟩ := id GL3
    refine ⟨_, rfl, g, dg3, _, rfl, ga3.at_, gF_none, g, lp, _, rfl, GL3.r, fun H4 p s4 np hp => ?_⟩
    have ka3 : KeepAt A H3 k dk ss ds d kvs (.ref g) := ka.but GL keep3
    refine post.1 H4 [k, d, g, lp, lb, lf, lo] p ⟨dk, ss, ds, d, kvs, .ref g, ka3.same s4, Nat.le_trans hcnt (Nat.mul_le_mul_left _ (Nat.le_succ _)), g, lp, lb, lf, lo, rfl, GL3.same s4, rfl⟩ ⟨fun b o e hb => ?_, fun b hb => .inl hb⟩ hp ?_
    · exact s4 _ _ (keep3 b o e (fun z => hb (by simp [z])) fun z => hb (by simp [z]))
    · cases q : H p with
      | none => rfl
      | some o =>
        by_cases z1 : p = lp
        · rw [z1, ga3.put] at np
          cases np
        · by_cases z2 : p = g
          · rw [z2, ga3.at_] at np
            cases np
          · rw [keep3 p o q z1 z2] at np
            cases np
  · have hlen : G.moves = [] := by
      rw [hll] at hb
      have := of_decide_eq_false hb
      exact List.length_eq_zero_iff.mp (by omega)
    rw [if_pos (by simp [hlen])] at st
    rw [st] at post
    exact post.no rfl hK (same_new nd _) upd_same
end
end Hx
/-! W16: rows, lacks, chain, groups, threats. -/
namespace Hx
open PySem PySem.Spec PyProof.Rows L2
open Mu25 (Game Board)
def rowI : Option Bool → Int
  | none => 0
  | some false => 1
  | some true => 2
theorem rows_eq (G : Game) : (Mu25.board G).on.map (fun (x : Option Bool) => match x with
    | none => (0 : Int)
    | some false => 1
    | some true => 2) = (List.range (G.n * G.n)).map fun i => rowI (Mu25.place (Mu25.board G) i) := by
  apply List.ext_getElem?
  intro i
  rw [List.getElem?_map, List.getElem?_map]
  have hl := board_len G
  by_cases hi : i < G.n * G.n
  · rw [List.getElem?_range hi, List.getElem?_eq_getElem (by omega)]
    rw [Option.map_some, Option.map_some]
    unfold Mu25.place
    rw [List.getElem?_eq_getElem (by omega : i < (Mu25.board G).on.length)]
    cases (Mu25.board G).on[i] with
    | none => rfl
    | some x => cases x <;> rfl
  · rw [List.getElem?_eq_none (by omega), List.getElem?_eq_none (by rw [List.length_range]; omega)]
    rfl
theorem row_val {B : Board} (i : Nat) : ((if Mu25.mine B false i = true then (1 : Int) else 0) + 2 * (if Mu25.mine B true i = true then (1 : Int) else 0)) = rowI (Mu25.place B i) := by
  unfold Mu25.mine
  cases Mu25.place B i with
  | none => rfl
  | some x => cases x <;> rfl
theorem side_sI {x : Nat} (h : x < 2) : vN x = .int (sI (Mu25.side x)) := by
  match x, h with
  | 0, _ => rfl
  | 1, _ => rfl
theorem lacks_eq {G : Game} {w : Bool} {o : Option Nat} (h : LackIs G.n (costP (Mu25.mine (Mu25.board G) w) fun i => (Mu25.place (Mu25.board G) i).isNone) (firstP G.n w) (otherP G.n w) o) : o = Mu25.lacks (Mu25.board G) w := by
  have h2 := lacks_is (Mu25.board G) w
  rw [cost_eq, board_n] at h2
  exact h.eq h2
theorem own_empty {B : Board} {w : Bool} {i : Nat} (h : (Mu25.place B i).isNone = true) : Mu25.mine B w i = false := by
  unfold Mu25.mine
  cases hp : Mu25.place B i with
  | none => rfl
  | some x => rw [hp] at h; cases h
theorem filter_cong {p q : Nat → Bool} : ∀ {l : List Nat}, (∀ i ∈ l, p i = q i) → l.filter p = l.filter q
  | [], _ => rfl
  | a :: l, h => by
    rw [List.filter_cons, List.filter_cons, h a List.mem_cons_self, filter_cong fun i hi => h i (List.mem_cons_of_mem _ hi)]
theorem threats_eq {G : Game} (h : GOk G) (w : Bool) : ((List.range (G.n * G.n)).filter fun i => (Mu25.place (Mu25.board G) i).isNone).filter (fun i => joinB G.n w fun j => Mu25.mine (Mu25.board G) w j || j == i) = Mu25.threats (Mu25.board G) w := by
  have e : (List.range (G.n * G.n)).filter (fun i => (Mu25.place (Mu25.board G) i).isNone) = Mu25.empties (Mu25.board G) := by
    unfold Mu25.empties Mu25.cells
    rw [board_n]
  rw [e]
  unfold Mu25.threats
  refine filter_cong fun i hi => ?_
  obtain ⟨hl, he⟩ := (empties_mem h.bok).mp hi
  rw [joined_eq]
  have en : (Mu25.put (Mu25.board G) i w).n = G.n := board_n G
  rw [en]
  refine joinB_congr fun j _ => ?_
  rw [h.bok.mine_put hl he]
  simp
theorem cellNums_eq (G : Game) (l : List Nat) : Mu25.cellNums (Mu25.board G) l = cellI G.n l := by
  unfold Mu25.cellNums cellI Mu25.row Mu25.col
  rw [board_n]
section
variable {P : Program} {w : World} {K : PySem.W.Frag} {mg : Str → Option Value} {base : Heap} {A : Ad}
theorem sc_call_rows : FnScope ["keeper", "numbers", "game", "black", "white", "bit"] ["keeper", "numbers"] (defScope s_call_rows) := ⟨rfl, rfl, rfl, by decide +kernel, rfl, by decide +kernel, by decide +kernel⟩
theorem ok_call_rows (T : Txt K mg A) : Kp P w K mg base CX0 6 A.f_call_rows ["keeper", "numbers"] (sp_call_rows A K) := by
  refine T.d_call_rows.ok sc_call_rows (fun vs H Q E h => h.len) (fun cdv A' outer s H vs Q E hr h => ?_)
  obtain ⟨k, l, F, G, c, rfl, hK, hl, hc, post⟩ := h
  obtain ⟨dk, ss, ds, d, kvs, gv, ka, hcnt, g, lp, lb, lf, lo, rfl, GL, rfl⟩ := id hK
  obtain ⟨dg, f, ga⟩ := id GL
  obtain ⟨dF, hF⟩ := ga.fld.at_
  refine ⟨_, (pss_cons (ps_set (i := 2) sc_call_rows.nd rfl (Or.inl rfl) (pe_fld (pv 0) rfl))
      (pss_cons (ps_asg (pe_tup (pa_cons (pm (pv 2) T.clGame T.m_game_stones (ok_game_stones T) hr (pa_cons pe_int pa_nil)) (pa_cons (pm (pv 2) T.clGame T.m_game_stones (ok_game_stones T) hr (pa_cons pe_int pa_nil)) pa_nil))) (pg_tup rfl (pgs_cons (pg_name (i := 3) sc_call_rows.nd rfl (Or.inr rfl)) (pgs_cons (pg_name (i := 4) sc_call_rows.nd rfl (Or.inr rfl)) pgs_nil))))
      (pss_one (ps_ret (pe_lc (own := [("bit", 5)]) (g := gName 5) rfl sc_call_rows.nd (pi_list (pe_fld (pe_fld (pv 2) rfl) rfl)) (blkOk_by (N := ["keeper", "numbers", "game", "black", "white", "bit"]) (sc := defScope s_call_rows) (by decide +kernel)) (fun _ _ _ _ _ => pg_name (i := 5) sc_call_rows.nd rfl (Or.inl rfl)) (fun _ _ _ _ _ => pts_nil) (fun _ _ _ _ _ => (pe_op op_add (pe_callTy call_int1 rfl T.b_int (by decide +kernel) (pa_cons (pe_cmpR op_neN (pe_op op_andN (pv 5) (pv 3)) pe_int (nomark _)) pa_nil)) (pe_op op_mul pe_int (pe_callTy call_int1 rfl T.b_int (by decide +kernel) (pa_cons (pe_cmpR op_neN (pe_op op_andN (pv 5) (pv 4)) pe_int (nomark _)) pa_nil)))))))))), ?_⟩
  refine ⟨_, rfl, k, A.cKeeper, dk, _, _, rfl, ka.at_, T.clKeeper, T.nKeeper_game, kF_game, ?_⟩
  refine ⟨_, rfl, g, dg, _, rfl, ga.at_, gF_none, g, lp, G, false, rfl, GL.r, fun H1 s1 => ?_⟩
  refine ⟨_, rfl, g, dg, _, rfl, (ga.same s1).at_, gF_none, g, lp, G, true, rfl, (GL.same s1).r, fun H2 s2 => ?_⟩
  refine ⟨(by show 2 ≤ sizeLine; decide), fun t nt => ?_⟩
  have s3 := (s1.trans s2).trans (same_new nt (.tup [vN (stonesN G false), vN (stonesN G true)]))
  refine ⟨t, _, rfl, SqT.of upd_same, rfl, _, _, rfl, _, _, rfl, rfl, ?_⟩
  have ga3 := ga.same s3
  revert s3 ga3
  generalize upd H2 t (.tup [vN (stonesN G false), vN (stonesN G true)]) = H3
  intro s3 ga3
  refine ⟨_, rfl, g, A.cGame, dg, _, _, rfl, ga3.at_, T.clGame, T.nGame_field, gF_field, f, A.cField, dF, _, _, rfl, s3 _ _ hF, T.clField, T.nField_bits, fF_bits, lb, rfl, ⟨_, SqL.of ga3.fld.bits⟩, fun D nD => lc_list (K := K) (a := lb) (xs := vL (bitsL G.n)) (fun i H' => H' = upd H3 D (.lst ((((List.range (G.n * G.n)).take i).map fun i => rowI (Mu25.place (Mu25.board G) i)).map V.int))) ?_ ?_ ?_ ?_⟩
  · simp
  · rintro i H' _ rfl
    exact SqL.of ((upd_ne (ne_of_none ga3.fld.bits nD)).trans ga3.fld.bits)
  · rintro i x H' hx rfl
    obtain ⟨hi, rfl, hri⟩ := bitsL_at hx
    have e := take_more hri
    refine ⟨rfl, _, rfl, _, rfl, _, _, rfl, rfl, _, 0, rfl, rfl, .inr ⟨_, rfl, _, rfl, _, rfl, _, _, rfl, rfl, _, 0, rfl, rfl, .inr ⟨_, rfl, _, _, rfl, rfl, .inl ⟨by decide, by decide⟩, _, _, rfl, rfl, _, upd_same, ?_, ?_⟩⟩⟩
    · rw [List.length_map, List.length_map, List.length_take, List.length_range]
      have := sq_le ga.ok.n11
      exact small1000 (by omega)
    · rw [upd_upd, e, List.map_append, List.map_append]
      have e1 := one_and ga.ok.pos (ga.ok.stones false) hi
      have e2 := one_and ga.ok.pos (ga.ok.stones true) hi
      have e3 := row_val (B := Mu25.board G) i
      rw [← e1, ← e2] at e3
      congr 3
      exact congrArg (fun z => [V.int z]) e3
  · rintro H' rfl
    rw [vL_len, bitsL_len, List.take_of_length_le (by rw [List.length_range]; exact Nat.le_refl _)]
    refine post.ok hK (s3.trans (same_new nD _)) ?_ (s3.free nD)
    rw [upd_same]
    show _ = some (HO.lst (List.map V.int ((Mu25.board G).on.map _)))
    rw [← rows_eq]
    rfl
theorem sc_call_lacks : FnScope ["keeper", "numbers", "side", "game", "many"] ["keeper", "numbers"] (defScope s_call_lacks) := ⟨rfl, rfl, rfl, by decide +kernel, rfl, by decide +kernel, by decide +kernel⟩
theorem ok_call_lacks (T : Txt K mg A) : Kp P w K mg base (L2.CX P w) 6 A.f_call_lacks ["keeper", "numbers"] (sp_call_lacks A K) := by
  refine T.d_call_lacks.okX sc_call_lacks (fun vs H Q E h => ?_) (fun cdv A' outer s H vs Q E hr h => ?_)
  · obtain ⟨_, h⟩ := h
    exact h.len
  obtain ⟨x, k, l, F, G, c, rfl, hK, hl, hc, post⟩ := h
  obtain ⟨dk, ss, ds, d, kvs, gv, ka, hcnt, g, lp, lb, lf, lo, rfl, GL, rfl⟩ := id hK
  obtain ⟨dg, f, ga⟩ := id GL
  obtain ⟨dF, hF⟩ := ga.fld.at_
  refine ⟨_, (pss_cons (ps_set (i := 2) sc_call_lacks.nd rfl (Or.inl rfl) (pe_ix ix_list (pv 1) pe_int (fun _ _ => rfl)))
      (pss_cons (ps_set (i := 3) sc_call_lacks.nd rfl (Or.inl rfl) (pe_fld (pv 0) rfl))
      (pss_cons (ps_expr (pcX (ok_need T) T.g_need hr (takes_of rfl rfl rfl rfl) (by exact (pa_cons (pe_cmpR op_ltN (pv 2) (pgl T.iSIDES) (nomark _)) (pa_cons (pe_un un_neg pe_int) pa_nil)))))
      (pss_cons (ps_set (i := 4) sc_call_lacks.nd rfl (Or.inl rfl) (pc (ok_fewest T) T.g_fewest hr (pa_cons (pe_fld (pv 3) rfl) (pa_cons (pv 2) (pa_cons (pm (pv 3) T.clGame T.m_game_stones (ok_game_stones T) hr (pa_cons (pv 2) pa_nil)) (pa_cons (pm0 (pv 3) T.clGame T.m_game_empty (ok_game_empty T) hr) pa_nil))))))
      (pss_cons (ps_expr (pcX (ok_need T) T.g_need hr (takes_of rfl rfl rfl rfl) (by exact (pa_cons (pe_cmpR op_notN (pv 4) pe_non (nomark _)) (pa_cons (pe_un un_neg pe_int) pa_nil)))))
      (pss_one (ps_ret (pe_lst (pa_cons (pv 4) pa_nil))))))))), ?_⟩
  have st : Mu25.step (some G) (.lacks x) = (some G, if 1 < x then [-1] else match Mu25.lacks (Mu25.board G) (Mu25.side x) with
    | some x => [(x : Int)]
    | none => [-6]) := rfl
  refine ⟨_, rfl, l, _, _, _, rfl, rfl, hl, atI_nat (j := 0) (by rfl), ?_⟩
  refine ⟨_, rfl, k, A.cKeeper, dk, _, _, rfl, ka.at_, T.clKeeper, T.nKeeper_game, kF_game, ?_⟩
  refine ⟨_, rfl, _, 2, rfl, rfl, _, rfl, _, _, rfl, fun hb => ?_, fun hb d' nd => ?_⟩
  · have hx : x < 2 := of_decide_eq_true hb
    have hxs := side_sI hx
    rw [if_neg (by omega)] at st
    rw [st] at post
    refine ⟨_, rfl, g, A.cGame, dg, _, _, rfl, ga.at_, T.clGame, T.nGame_field, gF_field, _, rfl, _, rfl, g, dg, _, rfl, ga.at_, gF_none, _, rfl, g, lp, G, Mu25.side x, congrArg (fun z => [V.ref g, z]) hxs, GL.r, fun H1 s1 => ?_⟩
    have ga1 := ga.same s1
    refine ⟨_, rfl, g, dg, _, rfl, ga1.at_, gF_none, g, lp, G, rfl, (GL.same s1).r, f, G.n, stonesN G (Mu25.side x), emptyN G, Mu25.side x, _, _, congrArg (fun z => [V.ref f, z, vN (stonesN G (Mu25.side x)), vN (emptyN G)]) hxs, ga1.fr, ga.ok.stones _, ga.ok.emptyBits, fun i _ h => own_empty h, fun o ho => ?_⟩
    have eo := lacks_eq ho
    rw [← eo] at post
    refine ⟨_, rfl, rfl, _, rfl, _, _, rfl, fun hb2 => ?_, fun hb2 d' nd => ?_⟩
    · cases o with
      | none => exact absurd hb2 (by decide)
      | some m =>
        refine ⟨_, rfl, (by show 1 ≤ sizeLine; decide), fun p np => ?_⟩
        exact post.ok hK (s1.trans (same_new np _)) upd_same (s1.free np)
    · cases o with
      | none => exact post.no rfl hK (s1.trans (same_new nd _)) upd_same
      | some m => exact absurd hb2 (by simp [optV, vN])
  · have hx : ¬ x < 2 := of_decide_eq_false hb
    rw [if_pos (by omega)] at st
    rw [st] at post
    exact post.no rfl hK (same_new nd _) upd_same
theorem sc_call_chain : FnScope ["keeper", "numbers", "game", "side"] ["keeper", "numbers"] (defScope s_call_chain) := ⟨rfl, rfl, rfl, by decide +kernel, rfl, by decide +kernel, by decide +kernel⟩
theorem cellI_len (n : Nat) (l : List Nat) : (cellI n l).length = 1 + 2 * l.length := by
  have e0 : ∀ m : List Nat, (m.flatMap fun i => [((i / n : Nat) : Int), ((i % n : Nat) : Int)]).length = 2 * m.length := by
    intro m
    induction m with
    | nil => rfl
    | cons a m ih =>
      rw [List.flatMap_cons, List.length_append, ih]
      show 2 + 2 * m.length = 2 * (m.length + 1)
      omega
  unfold cellI
  rw [List.length_cons, e0]
  omega
theorem won_join {G : Game} {w : Bool} (h : Mu25.won G = some w) : JoinP G.n w (Mu25.mine (Mu25.board G) w) := by
  rw [won_joined] at h
  by_cases c1 : joinB G.n false (Mu25.mine (Mu25.board G) false) = true
  · rw [if_pos c1] at h
    have : false = w := Option.some.inj h
    subst this
    exact joinB_iff.mp c1
  · rw [if_neg c1] at h
    by_cases c2 : joinB G.n true (Mu25.mine (Mu25.board G) true) = true
    · rw [if_pos c2] at h
      have : true = w := Option.some.inj h
      subst this
      exact joinB_iff.mp c2
    · rw [if_neg c2] at h
      cases h
theorem ok_call_chain (T : Txt K mg A) : Kp P w K mg base (L2.CX P w) 6 A.f_call_chain ["keeper", "numbers"] (sp_call_chain A K) := by
  refine T.d_call_chain.okX sc_call_chain (fun vs H Q E h => h.len) (fun cdv A' outer s H vs Q E hr h => ?_)
  obtain ⟨k, l, F, G, c, rfl, hK, hl, hc, post⟩ := h
  obtain ⟨dk, ss, ds, d, kvs, gv, ka, hcnt, g, lp, lb, lf, lo, rfl, GL, rfl⟩ := id hK
  obtain ⟨dg, f, ga⟩ := id GL
  obtain ⟨dF, hF⟩ := ga.fld.at_
  refine ⟨_, (pss_cons (ps_set (i := 2) sc_call_chain.nd rfl (Or.inl rfl) (pe_fld (pv 0) rfl))
      (pss_cons (ps_set (i := 3) sc_call_chain.nd rfl (Or.inl rfl) (pm0 (pv 2) T.clGame T.m_game_winner (ok_game_winner T) hr))
      (pss_cons (ps_expr (pcX (ok_need T) T.g_need hr (takes_of rfl rfl rfl rfl) (by exact (pa_cons (pe_cmpR op_notN (pv 3) pe_non (nomark _)) (pa_cons (pe_un un_neg pe_int) pa_nil)))))
      (pss_one (ps_ret (pe_op op_cat (pe_lst (pa_cons (pv 3) pa_nil)) (pc (ok_cells_told T) T.g_cells_told hr (pa_cons (pe_fld (pv 2) rfl) (pa_cons (pc (ok_shortest_chain T) T.g_shortest_chain hr (pa_cons (pe_fld (pv 2) rfl) (pa_cons (pv 3) (pa_cons (pm (pv 2) T.clGame T.m_game_stones (ok_game_stones T) hr (pa_cons (pv 3) pa_nil)) pa_nil)))) pa_nil))))))))), ?_⟩
  have st : Mu25.step (some G) .chain = (some G, match Mu25.won G with
    | some w => Mu25.code w :: Mu25.cellNums (Mu25.board G) (Mu25.chain (Mu25.board G) w)
    | none => [-6]) := rfl
  refine ⟨_, rfl, k, A.cKeeper, dk, _, _, rfl, ka.at_, T.clKeeper, T.nKeeper_game, kF_game, ?_⟩
  refine ⟨_, rfl, g, dg, _, rfl, ga.at_, gF_none, g, lp, G, rfl, GL.r, fun H1 s1 => ?_⟩
  have ga1 := ga.same s1
  refine ⟨_, rfl, rfl, _, rfl, _, _, rfl, fun hb => ?_, fun hb d' nd => ?_⟩
  · cases hw : Mu25.won G with
    | none =>
      rw [hw] at hb
      exact absurd hb (by decide)
    | some wh =>
      rw [hw] at st
      dsimp only at st
      rw [st, cellNums_eq] at post
      refine ⟨_, rfl, (by show 1 ≤ sizeLine; decide), fun p0 np0 => ?_⟩
      have s2 := s1.trans (same_new np0 (.lst [wonV (some wh)]))
      have p0at : (upd H1 p0 (.lst [wonV (some wh)])) p0 = some (.lst [wonV (some wh)]) := upd_same
      have ga2 := ga.same s2
      revert s2 p0at ga2
      generalize upd H1 p0 (.lst [wonV (some wh)]) = H2
      intro s2 p0at ga2
      refine ⟨_, rfl, g, A.cGame, dg, _, _, rfl, ga2.at_, T.clGame, T.nGame_field, gF_field, _, rfl, g, A.cGame, dg, _, _, rfl, ga2.at_, T.clGame, T.nGame_field, gF_field, _, rfl, _, rfl, g, dg, _, rfl, ga2.at_, gF_none, _, rfl, g, lp, G, wh, rfl, (GL.same s2).r, fun H3 s3 => ?_⟩
      have ga3 := ga2.same s3
      refine ⟨f, stonesN G wh, Mu25.board G, wh, rfl, by rw [board_n]; exact ga3.fr, by rw [board_n]; exact ga.ok.stones wh, by rw [board_n]; exact won_join hw, fun H4 lc s4 nlc hlc hlen hlt => ?_⟩
      rw [board_n] at hlc hlt
      have ga4 := ga3.same s4
      refine ⟨f, lc, G.n, _, rfl, ga4.fr, hlc, hlen, hlt, fun H5 pt s5 npt hpt => ?_⟩
      have p05 := s5 _ _ (s4 _ _ (s3 _ _ p0at))
      refine ⟨p0, pt, _, _, rfl, rfl, p05, hpt, ?_, fun p np => ?_⟩
      · rw [List.length_map, cellI_len]
        show 1 + _ ≤ _
        exact Nat.le_of_lt (small1000 (by omega))
      · have s6 := ((s2.trans s3).trans s4).trans s5
        exact post.ok hK (s6.trans (same_new np _)) upd_same (s6.free np)
  · cases hw : Mu25.won G with
    | none =>
      rw [hw] at st
      rw [st] at post
      exact post.no rfl hK (s1.trans (same_new nd _)) upd_same
    | some wh =>
      rw [hw] at hb
      exact absurd hb (by simp [wonV])
theorem sc_call_groups : FnScope ["keeper", "numbers", "side", "game", "sizes"] ["keeper", "numbers"] (defScope s_call_groups) := ⟨rfl, rfl, rfl, by decide +kernel, rfl, by decide +kernel, by decide +kernel⟩
theorem ok_call_groups (T : Txt K mg A) : Kp P w K mg base (L2.CX P w) 6 A.f_call_groups ["keeper", "numbers"] (sp_call_groups A K) := by
  refine T.d_call_groups.okX sc_call_groups (fun vs H Q E h => ?_) (fun cdv A' outer s H vs Q E hr h => ?_)
  · obtain ⟨_, h⟩ := h
    exact h.len
  obtain ⟨x, k, l, F, G, c, rfl, hK, hl, hc, post⟩ := h
  obtain ⟨dk, ss, ds, d, kvs, gv, ka, hcnt, g, lp, lb, lf, lo, rfl, GL, rfl⟩ := id hK
  obtain ⟨dg, f, ga⟩ := id GL
  obtain ⟨dF, hF⟩ := ga.fld.at_
  refine ⟨_, (pss_cons (ps_set (i := 2) sc_call_groups.nd rfl (Or.inl rfl) (pe_ix ix_list (pv 1) pe_int (fun _ _ => rfl)))
      (pss_cons (ps_set (i := 3) sc_call_groups.nd rfl (Or.inl rfl) (pe_fld (pv 0) rfl))
      (pss_cons (ps_expr (pcX (ok_need T) T.g_need hr (takes_of rfl rfl rfl rfl) (by exact (pa_cons (pe_cmpR op_ltN (pv 2) (pgl T.iSIDES) (nomark _)) (pa_cons (pe_un un_neg pe_int) pa_nil)))))
      (pss_cons (ps_set (i := 4) sc_call_groups.nd rfl (Or.inl rfl) (pc (ok_group_sizes T) T.g_group_sizes hr (pa_cons (pe_fld (pv 3) rfl) (pa_cons (pm (pv 3) T.clGame T.m_game_stones (ok_game_stones T) hr (pa_cons (pv 2) pa_nil)) pa_nil))))
      (pss_one (ps_ret (pe_op op_cat (pe_lst (pa_cons (pe_callB call_len_seq rfl T.b_len PySem.boot_len (pa_cons (pv 4) pa_nil)) pa_nil)) (pv 4)))))))), ?_⟩
  have st : Mu25.step (some G) (.groups x) = (some G, if 1 < x then [-1] else ((Mu25.groupsOf (Mu25.board G) (Mu25.side x)).length : Int) :: Mu25.nums ((Mu25.groupsOf (Mu25.board G) (Mu25.side x)).map fun (l : List Nat) => l.length)) := rfl
  refine ⟨_, rfl, l, _, _, _, rfl, rfl, hl, atI_nat (j := 0) (by rfl), ?_⟩
  refine ⟨_, rfl, k, A.cKeeper, dk, _, _, rfl, ka.at_, T.clKeeper, T.nKeeper_game, kF_game, ?_⟩
  refine ⟨_, rfl, _, 2, rfl, rfl, _, rfl, _, _, rfl, fun hb => ?_, fun hb d' nd => ?_⟩
  · have hx : x < 2 := of_decide_eq_true hb
    have hxs := side_sI hx
    rw [if_neg (by omega)] at st
    rw [st] at post
    refine ⟨_, rfl, g, A.cGame, dg, _, _, rfl, ga.at_, T.clGame, T.nGame_field, gF_field, _, rfl, g, dg, _, rfl, ga.at_, gF_none, _, rfl, g, lp, G, Mu25.side x, congrArg (fun z => [V.ref g, z]) hxs, GL.r, fun H1 s1 => ?_⟩
    have ga1 := ga.same s1
    refine ⟨f, stonesN G (Mu25.side x), Mu25.board G, Mu25.side x, rfl, by rw [board_n]; exact ga1.fr, by rw [board_n]; exact ga.ok.stones _, fun H2 lz s2 nlz hlz hlen => ?_⟩
    refine ⟨_, rfl, lz, _, rfl, .inl (SqL.of hlz), (by show 1 ≤ sizeLine; decide), fun p0 np0 => ?_⟩
    have s3 := same_new np0 (.lst [V.int ((vL ((Mu25.groupsOf (Mu25.board G) (Mu25.side x)).map fun g => g.length)).length : Int)])
    refine ⟨_, rfl, p0, lz, _, _, rfl, rfl, upd_same, s3 _ _ hlz, ?_, fun p np => ?_⟩
    · rw [vL_len, List.length_map]
      show 1 + _ ≤ _
      exact Nat.le_of_lt (small1000 (by omega))
    · have s4 := (s1.trans s2).trans s3
      refine post.ok hK (s4.trans (same_new np _)) ?_ (s4.free np)
      rw [upd_same, List.map_cons]
      rw [vL_int, List.length_map, List.length_map, List.length_map]
      rfl
  · have hx : ¬ x < 2 := of_decide_eq_false hb
    rw [if_pos (by omega)] at st
    rw [st] at post
    exact post.no rfl hK (same_new nd _) upd_same
theorem sc_call_threats : FnScope ["keeper", "numbers", "side", "game"] ["keeper", "numbers"] (defScope s_call_threats) := ⟨rfl, rfl, rfl, by decide +kernel, rfl, by decide +kernel, by decide +kernel⟩
theorem ok_call_threats (T : Txt K mg A) : Kp P w K mg base (L2.CX P w) 6 A.f_call_threats ["keeper", "numbers"] (sp_call_threats A K) := by
  refine T.d_call_threats.okX sc_call_threats (fun vs H Q E h => ?_) (fun cdv A' outer s H vs Q E hr h => ?_)
  · obtain ⟨_, h⟩ := h
    exact h.len
  obtain ⟨x, k, l, F, G, c, rfl, hK, hl, hc, post⟩ := h
  obtain ⟨dk, ss, ds, d, kvs, gv, ka, hcnt, g, lp, lb, lf, lo, rfl, GL, rfl⟩ := id hK
  obtain ⟨dg, f, ga⟩ := id GL
  obtain ⟨dF, hF⟩ := ga.fld.at_
  refine ⟨_, (pss_cons (ps_set (i := 2) sc_call_threats.nd rfl (Or.inl rfl) (pe_ix ix_list (pv 1) pe_int (fun _ _ => rfl)))
      (pss_cons (ps_set (i := 3) sc_call_threats.nd rfl (Or.inl rfl) (pe_fld (pv 0) rfl))
      (pss_cons (ps_expr (pcX (ok_need T) T.g_need hr (takes_of rfl rfl rfl rfl) (by exact (pa_cons (pe_cmpR op_ltN (pv 2) (pgl T.iSIDES) (nomark _)) (pa_cons (pe_un un_neg pe_int) pa_nil)))))
      (pss_cons (ps_expr (pcX (ok_need T) T.g_need hr (takes_of rfl rfl rfl rfl) (by exact (pa_cons (pe_cmpR op_isN (pm0 (pv 3) T.clGame T.m_game_winner (ok_game_winner T) hr) pe_non (nomark _)) (pa_cons (pe_un un_neg pe_int) pa_nil)))))
      (pss_one (ps_ret (pc (ok_cells_told T) T.g_cells_told hr (pa_cons (pe_fld (pv 3) rfl) (pa_cons (pc (ok_joining_cells T) T.g_joining_cells hr (pa_cons (pe_fld (pv 3) rfl) (pa_cons (pv 2) (pa_cons (pm (pv 3) T.clGame T.m_game_stones (ok_game_stones T) hr (pa_cons (pv 2) pa_nil)) (pa_cons (pm0 (pv 3) T.clGame T.m_game_empty (ok_game_empty T) hr) pa_nil))))) pa_nil))))))))), ?_⟩
  have st : Mu25.step (some G) (.threats x) = (some G, if 1 < x then [-1] else if (Mu25.won G).isSome = true then [-3] else Mu25.cellNums (Mu25.board G) (Mu25.threats (Mu25.board G) (Mu25.side x))) := rfl
  refine ⟨_, rfl, l, _, _, _, rfl, rfl, hl, atI_nat (j := 0) (by rfl), ?_⟩
  refine ⟨_, rfl, k, A.cKeeper, dk, _, _, rfl, ka.at_, T.clKeeper, T.nKeeper_game, kF_game, ?_⟩
  refine ⟨_, rfl, _, 2, rfl, rfl, _, rfl, _, _, rfl, fun hb => ?_, fun hb d' nd => ?_⟩
  · have hx : x < 2 := of_decide_eq_true hb
    have hxs := side_sI hx
    rw [if_neg (by omega)] at st
    refine ⟨_, rfl, g, dg, _, rfl, ga.at_, gF_none, g, lp, G, rfl, GL.r, fun H1 s1 => ⟨rfl, _, rfl, _, _, rfl, fun hw => ?_, fun hw d' nd => ?_⟩⟩
    · rw [wonV_isNone] at hw
      have hw' : Mu25.won G = none := by simpa using hw
      rw [hw', if_neg (by simp), cellNums_eq] at st
      rw [st] at post
      have ga1 := ga.same s1
      refine ⟨_, rfl, g, A.cGame, dg, _, _, rfl, ga1.at_, T.clGame, T.nGame_field, gF_field, _, rfl, g, A.cGame, dg, _, _, rfl, ga1.at_, T.clGame, T.nGame_field, gF_field, _, rfl, _, rfl, g, dg, _, rfl, ga1.at_, gF_none, _, rfl, g, lp, G, Mu25.side x, congrArg (fun z => [V.ref g, z]) hxs, (GL.same s1).r, fun H2 s2 => ?_⟩
      have ga2 := ga1.same s2
      refine ⟨_, rfl, g, dg, _, rfl, ga2.at_, gF_none, g, lp, G, rfl, ((GL.same s1).same s2).r, f, G.n, stonesN G (Mu25.side x), emptyN G, Mu25.side x, _, _, congrArg (fun z => [V.ref f, z, vN (stonesN G (Mu25.side x)), vN (emptyN G)]) hxs, ga2.fr, ga.ok.stones _, ga.ok.emptyBits, fun H3 lz s3 nlz hlz => ?_⟩
      rw [threats_eq ga.ok] at hlz
      have hin : ∀ i ∈ Mu25.threats (Mu25.board G) (Mu25.side x), i ∈ Mu25.empties (Mu25.board G) := fun i hi => (List.mem_filter.mp hi).1
      refine ⟨f, lz, G.n, _, rfl, (ga2.same s3).fr, hlz, ?_, fun i hi => ((empties_mem ga.ok.bok).mp (hin i hi)).1, fun H4 pt s4 npt hpt => ?_⟩
      · unfold Mu25.threats Mu25.empties Mu25.cells
        rw [board_n]
        refine Nat.le_trans (List.length_filter_le _ _) ?_
        exact cells_le ga.ok.n11 _
      · have s5 := (s1.trans s2).trans s3
        exact post.ok hK (s5.trans s4) hpt (s5.free npt)
    · rw [wonV_isNone] at hw
      have hw' : (Mu25.won G).isSome = true := by
        cases h : Mu25.won G with
        | none => rw [h] at hw; cases hw
        | some _ => rfl
      rw [if_pos hw'] at st
      rw [st] at post
      exact post.no rfl hK (s1.trans (same_new nd _)) upd_same
  · have hx : ¬ x < 2 := of_decide_eq_false hb
    rw [if_pos (by omega)] at st
    rw [st] at post
    exact post.no rfl hK (same_new nd _) upd_same
end
end Hx
/-! W17: best, try. -/
namespace Hx
open PySem PySem.Spec PyProof.Rows L2
open Mu25 (Game Board)
/-- the keys that may come under a board -/
def keysU (n : Nat) (B : Board) : List (List L2.Key) := (exts (Mu25.empties B) B).flatMap fun C => [keyOf n false (numOf n (Mu25.mine C false)) (numOf n (Mu25.mine C true)), keyOf n true (numOf n (Mu25.mine C true)) (numOf n (Mu25.mine C false))]
theorem flatMap_two {α β : Type} (f g : α → β) : ∀ l : List α, (l.flatMap fun x => [f x, g x]).length = 2 * l.length
  | [] => rfl
  | a :: l => by
    rw [List.flatMap_cons, List.length_append, flatMap_two f g l]
    show 2 + 2 * l.length = 2 * (l.length + 1)
    omega
theorem keysU_len {n : Nat} {B : Board} (h : (Mu25.empties B).length ≤ 9) : (keysU n B).length ≤ 39366 := by
  unfold keysU
  rw [flatMap_two, exts_len]
  have : 3 ^ (Mu25.empties B).length ≤ 3 ^ 9 := Nat.pow_le_pow_right (by decide) h
  have e : 3 ^ 9 = 19683 := by decide
  omega
theorem keysU_under {n : Nat} {B : Board} (h : BOk n B) : Under n (keysU n B) B := by
  intro C hC w
  unfold keysU
  rw [List.mem_flatMap]
  refine ⟨C, hC.mem h, ?_⟩
  cases w
  · exact List.mem_cons_self
  · exact List.mem_cons_of_mem _ List.mem_cons_self
theorem KeepAt.dict' {A : Ad} {H H' : Hp} {k dx s ds d : Addr} {kvs kvs' : List (List L2.Key × V)} {gv : V} (a : KeepAt A H k dx s ds d kvs gv) (hd : H' d = some (.dT kvs')) (hm : Memo0 kvs') (keep : ∀ b o, H b = some o → b ≠ d → H' b = some o) : KeepAt A H' k dx s ds d kvs' gv := by
  refine ⟨keep _ _ a.at_ fun z => ?_, keep _ _ a.srch fun z => ?_, hd, hm⟩
  · have := a.at_
    rw [z, a.dict] at this
    cases this
  · have := a.srch
    rw [z, a.dict] at this
    cases this
theorem GameL.but {A : Ad} {H H' : Hp} {g lp lb lf lo d : Addr} {G : Game} {kvs : List (List L2.Key × V)} (a : GameL A H g lp lb lf lo G) (hd : H d = some (.dT kvs)) (keep : ∀ b o, H b = some o → b ≠ d → H' b = some o) : GameL A H' g lp lb lf lo G := by
  obtain ⟨dg, f, a⟩ := a
  obtain ⟨⟨dF, hF⟩, hb, hf, ho, n2, n11⟩ := a.fld
  have ne : ∀ {b : Addr} {o : HO}, H b = some o → (∀ k, o ≠ .dT k) → b ≠ d := fun {b o} e hn z => by
    rw [z, hd] at e
    exact hn _ (Option.some.inj e).symm
  exact ⟨dg, f, keep _ _ a.at_ (ne a.at_ fun _ z => nomatch z), ⟨⟨dF, keep _ _ hF (ne hF fun _ z => nomatch z)⟩, keep _ _ hb (ne hb fun _ z => nomatch z), keep _ _ hf (ne hf fun _ z => nomatch z), keep _ _ ho (ne ho fun _ z => nomatch z), n2, n11⟩, keep _ _ a.put (ne a.put fun _ z => nomatch z), a.nb, a.nf, a.no, a.ok⟩
section
variable {P : Program} {w : World} {K : PySem.W.Frag} {mg : Str → Option Value} {base : Heap} {A : Ad}
theorem sc_call_best : FnScope ["keeper", "numbers", "game", "field", "side", "bit"] ["keeper", "numbers"] (defScope s_call_best) := ⟨rfl, rfl, rfl, by decide +kernel, rfl, by decide +kernel, by decide +kernel⟩
theorem ok_call_best (T : Txt K mg A) : Kp P w K mg base (L2.CX P w) 24 A.f_call_best ["keeper", "numbers"] (sp_call_best A K) := by
  refine T.d_call_best.okX sc_call_best (fun vs H Q E h => h.len) (fun cdv A' outer s H vs Q E hr h => ?_)
  obtain ⟨k, l, F, G, c, rfl, hK, hl, hc, post⟩ := h
  obtain ⟨dk, ss, ds, d, kvs, gv, ka, hcnt, g, lp, lb, lf, lo, rfl, GL, rfl⟩ := id hK
  obtain ⟨dg, f, ga⟩ := id GL
  obtain ⟨dF, hF⟩ := ga.fld.at_
  refine ⟨_, (pss_cons (ps_set (i := 2) sc_call_best.nd rfl (Or.inl rfl) (pe_fld (pv 0) rfl))
      (pss_cons (ps_set (i := 3) sc_call_best.nd rfl (Or.inl rfl) (pe_fld (pv 2) rfl))
      (pss_cons (ps_expr (pcX (ok_need T) T.g_need hr (takes_of rfl rfl rfl rfl) (by exact (pa_cons (pe_cmpR op_isN (pm0 (pv 2) T.clGame T.m_game_winner (ok_game_winner T) hr) pe_non (nomark _)) (pa_cons (pe_un un_neg pe_int) pa_nil)))))
      (pss_cons (ps_expr (pcX (ok_need T) T.g_need hr (takes_of rfl rfl rfl rfl) (by exact (pa_cons (pe_and (pe_cmpR op_leN (pe_fld (pv 3) rfl) (pgl T.iMOST_SEARCHED) (nomark _)) (pe_one (pe_cmpR op_leN (pe_callB call_len_seq rfl T.b_len PySem.boot_len (pa_cons (pm (pv 3) T.clField T.m_field_cells_in (ok_field_cells_in T) hr (pa_cons (pm0 (pv 2) T.clGame T.m_game_empty (ok_game_empty T) hr) pa_nil)) pa_nil)) (pgl T.iMOST_EMPTY) (nomark _)))) (pa_cons (pe_un un_neg pe_int) pa_nil)))))
      (pss_cons (ps_set (i := 4) sc_call_best.nd rfl (Or.inl rfl) (pm0 (pv 2) T.clGame T.m_game_side (ok_game_side T) hr))
      (pss_cons (ps_set (i := 5) sc_call_best.nd rfl (Or.inl rfl) (pm (pe_fld (pv 0) rfl) T.clSearcher T.m_searcher_first_win (search_ok T 10) hr (pa_cons (pv 3) (pa_cons (pv 4) (pa_cons (pm (pv 2) T.clGame T.m_game_stones (ok_game_stones T) hr (pa_cons (pv 4) pa_nil)) (pa_cons (pm (pv 2) T.clGame T.m_game_stones (ok_game_stones T) hr (pa_cons (pe_op op_sub pe_int (pv 4)) pa_nil)) pa_nil))))))
      (pss_cons (ps_if (pt_cmpR op_eqN (pv 5) pe_int (nomark _)) (pss_one (ps_ret (pe_lst (pa_cons pe_int pa_nil)))) pss_nil)
      (pss_one (ps_ret (pe_op op_cat (pe_lst (pa_cons pe_int pa_nil)) (pm (pv 3) T.clField T.m_field_place_of (ok_field_place_of T) hr (pa_cons (pv 5) pa_nil)))))))))))), ?_⟩
  have st : Mu25.step (some G) .best = (some G, if (Mu25.won G).isSome = true then [-3] else if 4 < G.n ∨ 9 < (Mu25.empties (Mu25.board G)).length then [-7] else match Mu25.winner (Mu25.board G) (Mu25.turn G) with
    | some i => [1, (Mu25.row (Mu25.board G) i : Int), (Mu25.col (Mu25.board G) i : Int)]
    | none => [0]) := rfl
  have hlist : (List.range (G.n * G.n)).filter (fun i => (Mu25.place (Mu25.board G) i).isNone) = Mu25.empties (Mu25.board G) := by
    unfold Mu25.empties Mu25.cells
    rw [board_n]
  refine ⟨_, rfl, k, A.cKeeper, dk, _, _, rfl, ka.at_, T.clKeeper, T.nKeeper_game, kF_game, ?_⟩
  refine ⟨_, rfl, g, A.cGame, dg, _, _, rfl, ga.at_, T.clGame, T.nGame_field, gF_field, ?_⟩
  refine ⟨_, rfl, g, dg, _, rfl, ga.at_, gF_none, g, lp, G, rfl, GL.r, fun H1 s1 => ⟨rfl, _, rfl, _, _, rfl, fun hw => ?_, fun hw d' nd => ?_⟩⟩
  rotate_left
  · rw [wonV_isNone] at hw
    have hw' : (Mu25.won G).isSome = true := by
      cases h : Mu25.won G with
      | none => rw [h] at hw; cases hw
      | some _ => rfl
    rw [if_pos hw'] at st
    rw [st] at post
    exact post.no rfl hK (s1.trans (same_new nd _)) upd_same
  rw [wonV_isNone] at hw
  have hw' : Mu25.won G = none := by simpa using hw
  rw [hw', if_neg (by simp)] at st
  have ga1 := ga.same s1
  have hF1 := s1 _ _ hF
  have no : 4 < G.n ∨ 9 < (Mu25.empties (Mu25.board G)).length → ∀ {H2 : Hp}, Same H H2 → ∀ d, H2 d = none → E (.ref A.cRefusal) (some d) (upd H2 d (.xd [("number", .int (-7))])) := fun h H2 s2 d nd => by
    rw [st, if_pos h] at post
    exact post.no rfl hK (s2.trans (same_new nd _)) upd_same
  refine ⟨_, rfl, f, A.cField, dF, _, _, rfl, hF1, T.clField, T.nField_size, fF_size, _, 4, rfl, rfl, _, rfl, ?_⟩
  by_cases c4 : G.n ≤ 4
  rotate_left
  · refine if_false_of (decide_eq_false c4) ?_
    exact ⟨_, rfl, _, _, rfl, fun hb => Bool.noConfusion hb, fun _ => no (.inl (by omega)) s1⟩
  refine if_true_of (decide_eq_true c4) ?_
  refine ⟨_, rfl, f, dF, _, rfl, hF1, fF_none, _, rfl, g, dg, _, rfl, ga1.at_, gF_none, g, lp, G, rfl, (GL.same s1).r, f, G.n, emptyN G, _, rfl, ga1.fr, ga.ok.emptyBits, fun le nle => ?_⟩
  have s2 := s1.trans (same_new nle (.lst (vL (cellsL G.n fun i => (Mu25.place (Mu25.board G) i).isNone))))
  have hle : (vL (cellsL G.n fun i => (Mu25.place (Mu25.board G) i).isNone)).length = (Mu25.empties (Mu25.board G)).length := by rw [cellsL_len, hlist]
  refine ⟨le, _, rfl, .inl (SqL.of upd_same), _, 9, rfl, rfl, _, rfl, _, _, rfl, fun hb => ?_, fun hb => no (.inr ?_) s2⟩
  rotate_left
  · rw [hle] at hb
    have := of_decide_eq_false hb
    omega
  rw [hle] at hb
  have c9 : (Mu25.empties (Mu25.board G)).length ≤ 9 := of_decide_eq_true hb
  rw [if_neg (by omega)] at st
  rw [st] at post
  revert s2
  generalize upd H1 le (.lst (vL (cellsL G.n fun i => (Mu25.place (Mu25.board G) i).isNone))) = H2
  intro s2
  have ga2 := ga.same s2
  have ka2 := ka.same s2
  have GL2 := GL.same s2
  refine ⟨_, rfl, g, dg, _, rfl, ga2.at_, gF_none, g, lp, G, rfl, GL2.r, ?_⟩
  refine ⟨_, rfl, k, A.cKeeper, dk, _, _, rfl, ka2.at_, T.clKeeper, T.nKeeper_searcher, kF_searcher, ss, ds, _, rfl, ka2.srch, sF_none, _, rfl, _, rfl, _, rfl, g, dg, _, rfl, ga2.at_, gF_none, _, rfl, g, lp, G, Mu25.turn G, rfl, GL2.r, fun H3 s3 => ?_⟩
  have ga3 := ga2.same s3
  have GL3 := GL2.same s3
  refine ⟨_, rfl, g, dg, _, rfl, ga3.at_, gF_none, _, rfl, _, _, rfl, rfl, g, lp, G, !(Mu25.turn G), congrArg (fun z => [V.ref g, V.int z]) (one_minus (Mu25.turn G)), GL3.r, fun H4 s4 => ?_⟩
  have s24 := s3.trans s4
  have ka4 := ka2.same s24
  have ga4 := ga2.same s24
  have GL4 := GL2.same s24
  have bok := ga.ok.bok
  have hP := keysU_len (n := G.n) c9
  have hroom : (kvs.map (·.1)).length + (keysU G.n (Mu25.board G)).length < sizeLine := by
    rw [List.length_map]
    have : (4000000 : Nat) < sizeLine := by decide
    have : 40000 * c ≤ 40000 * 60 := Nat.mul_le_mul_left _ hc
    omega
  refine ⟨ss, ds, d, f, kvs, G.n, stonesN G (Mu25.turn G), stonesN G (!(Mu25.turn G)), Mu25.turn G, Mu25.board G, kvs.map (·.1), keysU G.n (Mu25.board G), rfl, ⟨ka4.srch, ka4.dict, ga4.fr, bok, ga.ok.stones _, ga.ok.stones _, ka.memo.memo _, hroom, keysU_under bok⟩, by omega, fun H5 kvs5 hd5 hme5 keep5 => ?_⟩
  have hlen5 := hme5.len
  have s04 := s2.trans s24
  have K5 : Keeper A H5 k [k, d, g, lp, lb, lf, lo] (some G) (c + 1) := ⟨dk, ss, ds, d, kvs5, .ref g, ka4.dict' hd5 hme5.zero keep5, by
    rw [List.length_map] at hlen5
    omega, g, lp, lb, lf, lo, rfl, GL4.but ka4.dict keep5, rfl⟩
  have fr5 : ∀ {p}, H5 p = none → H p = none := fun {p} np => s04.free (free_of (p := d) ⟨_, hd5⟩ keep5 np)
  have Fr5 : ∀ {H6 : Hp}, Same H5 H6 → Frame H [k, d, g, lp, lb, lf, lo] H6 [k, d, g, lp, lb, lf, lo] := fun {H6} s6 => ⟨fun b o e hb => s6 _ _ (keep5 _ _ (s04 _ _ e) fun z => hb (by simp [z])), fun b hb => .inl hb⟩
  refine ⟨_, rfl, _, 0, rfl, rfl, _, rfl, ?_⟩
  cases hwn : Mu25.winner (Mu25.board G) (Mu25.turn G) with
  | none =>
    rw [hwn] at post
    refine if_true_of (by rfl) ?_
    refine ⟨(by show 1 ≤ sizeLine; decide), fun p np => ?_⟩
    have s6 := same_new np (.lst [.int 0])
    exact post.1 _ _ p (K5.same s6) (Fr5 s6) upd_same (fr5 np)
  | some i =>
    rw [hwn] at post
    have hi : i < G.n * G.n := by
      have := List.mem_of_find?_eq_some (show (Mu25.empties (Mu25.board G)).find? _ = some i from hwn)
      exact ((empties_mem bok).mp this).1
    have hnz : winVal G.n (some i) ≠ 0 := fun z => by
      have := winVal_zero.mp z
      cases this
    refine if_false_of (decide_eq_false hnz) ?_
    refine ⟨(by show 1 ≤ sizeLine; decide), fun p0 np0 => ?_⟩
    have s6 := same_new np0 (.lst [.int 1])
    have F5 : FieldR A H5 f G.n := by
      obtain ⟨lb', lf', lo', F⟩ := ga4.fr
      exact FieldR.but ⟨lb', lf', lo', F⟩ ka4.dict keep5
    have hF5 : H5 f = some (.ins A.cField dF (fF G.n lb lf lo)) := keep5 _ _ (s04 _ _ hF) fun z => by
      have := ka.dict
      rw [← z, hF] at this
      cases this
    refine ⟨_, rfl, f, dF, _, rfl, s6 _ _ hF5, fF_none, _, rfl, f, G.n, i, rfl, F5.same s6, hi, fun pt npt => ?_⟩
    have s7 := same_new npt (.lst [vN (i / G.n), vN (i % G.n)])
    refine ⟨p0, pt, _, _, rfl, rfl, s7 _ _ upd_same, upd_same, (by show 3 ≤ sizeLine; decide), fun p np => ?_⟩
    have s8 := (s6.trans s7).trans (same_new np (.lst ([V.int 1] ++ [vN (i / G.n), vN (i % G.n)])))
    refine post.1 _ _ p (K5.same s8) (Fr5 s8) ?_ (fr5 ((s6.trans s7).free np))
    rw [upd_same]
    show _ = some (HO.lst [V.int 1, V.int ((i / (Mu25.board G).n : Nat) : Int), V.int ((i % (Mu25.board G).n : Nat) : Int)])
    rw [board_n]
    rfl
/-! ### try -/
def cellsN : List Nat → List (Nat × Nat)
  | a :: b :: l => (a, b) :: cellsN l
  | _ => []
theorem cellsN_drop : ∀ (l : List Nat) (t : Nat), (cellsN l).drop t = cellsN (l.drop (2 * t))
  | l, 0 => by simp
  | [], t + 1 => by simp [cellsN]
  | [a], t + 1 => by
    have : ([a] : List Nat).drop (2 * (t + 1)) = [] := List.drop_of_length_le (by simp; omega)
    rw [this]
    simp [cellsN]
  | a :: b :: l, t + 1 => by
    show (cellsN l).drop t = cellsN ((a :: b :: l).drop (2 * (t + 1)))
    rw [cellsN_drop l t]
    rfl
theorem canB_not {G : Game} {r c : Nat} (h : canB G r c = false) : G.n ≤ r ∨ (G.n ≤ c ∨ (Mu25.place (Mu25.board G) (r * G.n + c)).isSome = true ∨ (Mu25.won G).isSome = true) := by
  apply Classical.byContradiction
  intro z
  have z1 : r < G.n := by
    rcases Nat.lt_or_ge r G.n with h | h
    · exact h
    · exact absurd (.inl h) z
  have z2 : c < G.n := by
    rcases Nat.lt_or_ge c G.n with h | h
    · exact h
    · exact absurd (.inr (.inl h)) z
  have z3 : Mu25.place (Mu25.board G) (r * G.n + c) = none := by
    cases hp : Mu25.place (Mu25.board G) (r * G.n + c) with
    | none => rfl
    | some _ => exact absurd (.inr (.inr (.inl (by rw [hp]; rfl)))) z
  have z4 : Mu25.won G = none := by
    cases hp : Mu25.won G with
    | none => rfl
    | some _ => exact absurd (.inr (.inr (.inr (by rw [hp]; rfl)))) z
  unfold canB at h
  rw [z3, z4, decide_eq_true z1, decide_eq_true z2] at h
  cases h
theorem played_no {G : Game} {r c : Nat} {l : List (Nat × Nat)} (h : canB G r c = false) : Mu25.played G ((r, c) :: l) = (G, 0) := by
  show (if G.n ≤ r ∨ (G.n ≤ c ∨ (Mu25.place (Mu25.board G) (r * G.n + c)).isSome = true ∨ (Mu25.won G).isSome = true) then (G, 0) else _) = _
  rw [if_pos (canB_not h)]
theorem played_yes {G : Game} {r c : Nat} {l : List (Nat × Nat)} (h : canB G r c = true) : Mu25.played G ((r, c) :: l) = ((Mu25.played { G with moves := G.moves ++ [r * G.n + c] } l).1, (Mu25.played { G with moves := G.moves ++ [r * G.n + c] } l).2 + 1) := by
  obtain ⟨h1, h2, h3, h4⟩ := canB_parts h
  show (if G.n ≤ r ∨ (G.n ≤ c ∨ (Mu25.place (Mu25.board G) (r * G.n + c)).isSome = true ∨ (Mu25.won G).isSome = true) then (G, 0) else _) = _
  rw [if_neg]
  rw [h3, h4]
  simp
  omega
def sp_call_try (A : Ad) (K : PySem.W.Frag) : Sp := fun vs H Q E => ∃ ar : List Nat, ar.length % 2 = 0 ∧ ar.length ≤ 60 ∧ SpC A K ar (.try_ (cellsN ar)) vs H Q E
def muT (m : Nat) : List (Option V) → Nat
  | _ :: _ :: _ :: some (V.int f) :: _ => m - f.toNat
  | _ => 0
theorem sc_call_try : FnScope ["keeper", "numbers", "game", "many"] ["keeper", "numbers"] (defScope s_call_try) := ⟨rfl, rfl, rfl, by decide +kernel, rfl, by decide +kernel, by decide +kernel⟩
theorem ok_call_try (T : Txt K mg A) : Kp P w K mg base CX0 7 A.f_call_try ["keeper", "numbers"] (sp_call_try A K) := by
  refine T.d_call_try.ok sc_call_try (fun vs H Q E h => ?_) (fun cdv A' outer s H vs Q E hr h => ?_)
  · obtain ⟨_, _, _, h⟩ := h
    exact h.len
  obtain ⟨ar, hev, h60, k, l, F, G, c, rfl, hK, hl, hc, post⟩ := h
  obtain ⟨dk, ss, ds, d, kvs, gv, ka, hcnt, g, lp, lb, lf, lo, rfl, GL, rfl⟩ := id hK
  obtain ⟨dg, f, ga⟩ := id GL
  refine ⟨_, (pss_cons (ps_set (i := 2) sc_call_try.nd rfl (Or.inl rfl) (pm0 (pe_fld (pv 0) rfl) T.clGame T.m_game_copy (ok_game_copy T) hr))
      (pss_cons (ps_set (i := 3) sc_call_try.nd rfl (Or.inl rfl) pe_int)
      (pss_cons (ps_while PassesOwn.never (PW.pt (pw_and (pt_cmpR op_ltN (pe_op op_mulN pe_int (pv 3)) (pe_callB call_len_seq rfl T.b_len PySem.boot_len (pa_cons (pv 1) pa_nil)) (nomark _)) (pw_and1 (pt_val (pm (pv 2) T.clGame T.m_game_can_put (ok_game_can_put T) hr (pa_cons (pe_ix ix_list (pv 1) (pe_op op_mulN pe_int (pv 3)) (fun _ _ => rfl)) (pa_cons (pe_ix ix_list (pv 1) (pe_op op_addN (pe_op op_mulN pe_int (pv 3)) pe_int) (fun _ _ => rfl)) pa_nil))))))) (pss_cons (ps_expr (pm (pv 2) T.clGame T.m_game_put_stone (ok_game_put_stone T) hr (pa_cons (pe_ix ix_list (pv 1) (pe_op op_mulN pe_int (pv 3)) (fun _ _ => rfl)) (pa_cons (pe_ix ix_list (pv 1) (pe_op op_addN (pe_op op_mulN pe_int (pv 3)) pe_int) (fun _ _ => rfl)) pa_nil))))
      (pss_one (ps_aug (i := 3) sc_call_try.nd rfl (Or.inl rfl) pe_int ip_add))))
      (pss_one (ps_ret (pe_op op_cat (pe_lst (pa_cons (pv 3) pa_nil)) (pm0 (pv 2) T.clGame T.m_game_standing (ok_game_standing T) hr))))))), ?_⟩
  have st : Mu25.step (some G) (.try_ (cellsN ar)) = (some G, ((Mu25.played G (cellsN ar)).2 : Int) :: Mu25.lookNums (Mu25.played G (cellsN ar)).1) := rfl
  rw [st] at post
  refine ⟨_, rfl, k, A.cKeeper, dk, _, _, rfl, ka.at_, T.clKeeper, T.nKeeper_game, kF_game, g, dg, _, rfl, ga.at_, gF_none, g, lp, G, rfl, GL.r, fun H1 g2 lp2 s1 ng2 nlp2 GR1 => ?_⟩
  refine while_my (fun σ H' => ∃ (t : Nat) (Gt : Game), σ = [some (.ref k), some (.ref l), some (.ref g2), some (vN t)] ∧ Same H H' ∧ GameR A H' g2 lp2 Gt ∧ 2 * t ≤ ar.length ∧ Mu25.played G (cellsN ar) = ((Mu25.played Gt (cellsN (ar.drop (2 * t)))).1, (Mu25.played Gt (cellsN (ar.drop (2 * t)))).2 + t))
    (fun σ _ => muT ar.length σ) ⟨0, G, rfl, s1, GR1, by omega, by simp⟩ ?_
  rintro σ H' ⟨t, Gt, rfl, s2, GR2, htl, hpl⟩
  obtain ⟨dg2, f2, lb2, lf2, lo2, ga2⟩ := id GR2
  have hl2 := s2.seq hl
  have hll : (vL ar).length = ar.length := vL_len ar
  -- both ways out
  have hend : Mu25.played Gt (cellsN (ar.drop (2 * t))) = (Gt, 0) → ∀ {H3 H4 : Hp} {p0 pt p : Addr}, Same H H3 → H3 p0 = none → Same (upd H3 p0 (.lst [vN t])) H4 → H4 pt = some (.lst ((Mu25.lookNums Gt).map V.int)) → H4 p = none → Q (.ref p) (upd H4 p (.lst ([vN t] ++ (Mu25.lookNums Gt).map V.int))) := fun hz H3 H4 p0 pt p s3 np0 s4 hpt np => by
    rw [hz] at hpl
    have s5 := (s3.trans (same_new np0 (.lst [vN t]))).trans s4
    refine post.ok hK (s5.trans (same_new np _)) ?_ (s5.free np)
    rw [upd_same, hpl]
    show _ = some (HO.lst (V.int ((0 + t : Nat) : Int) :: (Mu25.lookNums Gt).map V.int))
    rw [Nat.zero_add]
    rfl
  refine ⟨_, rfl, 2, t, rfl, rfl, by decide, _, rfl, l, _, rfl, .inl hl2, _, _, rfl, rfl, _, rfl, ?_⟩
  by_cases c1 : 2 * t < ar.length
  · refine if_true_of (by rw [hll]; exact decide_eq_true c1) ?_
    have e1 : ar.drop (2 * t) = ar[2 * t] :: ar[2 * t + 1] :: ar.drop (2 * (t + 1)) := by
      rw [List.drop_eq_getElem_cons c1, List.drop_eq_getElem_cons (by omega : 2 * t + 1 < ar.length)]
      rfl
    have g1 : atI (vL ar) ((2 * t : Nat) : Int) = some (vN ar[2 * t]) := atI_nat (by
      unfold vL
      rw [List.getElem?_map, List.getElem?_eq_getElem c1]
      rfl)
    have g2' : atI (vL ar) ((2 * t + 1 : Nat) : Int) = some (vN ar[2 * t + 1]) := atI_nat (by
      unfold vL
      rw [List.getElem?_map, List.getElem?_eq_getElem (by omega : 2 * t + 1 < ar.length)]
      rfl)
    generalize ar[2 * t] = r at e1 g1
    generalize ar[2 * t + 1] = cc at e1 g2'
    have e2 : cellsN (ar.drop (2 * t)) = (r, cc) :: cellsN (ar.drop (2 * (t + 1))) := by
      rw [e1]
      rfl
    refine ⟨_, rfl, g2, dg2, _, rfl, ga2.at_, gF_none, _, rfl, _, rfl, 2, t, rfl, rfl, by decide, l, _, _, _, rfl, rfl, hl2, g1, _, rfl, _, rfl, 2, t, rfl, rfl, by decide, _, 1, rfl, rfl, l, _, _, _, rfl, rfl, hl2, g2', g2, lp2, Gt, r, cc, rfl, GR2, fun H3 s3 => ⟨_, rfl, ?_⟩⟩
    have s03 := s2.trans s3
    have ga3 := ga2.same s3
    have hl3 := s3.seq hl2
    cases hcan : canB Gt r cc with
    | true =>
      refine iteT (turn_of ?_)
      refine ⟨_, rfl, g2, dg2, _, rfl, ga3.at_, gF_none, _, rfl, _, rfl, 2, t, rfl, rfl, by decide, l, _, _, _, rfl, rfl, hl3, g1, _, rfl, _, rfl, 2, t, rfl, rfl, by decide, _, 1, rfl, rfl, l, _, _, _, rfl, rfl, hl3, g2', g2, lp2, lb2, lf2, lo2, Gt, r, cc, rfl, ⟨dg2, f2, ga3⟩, hcan, fun H4 GL4 keep4 => ?_⟩
      refine ⟨_, rfl, _, _, rfl, rfl, ⟨t + 1, _, rfl, fun b o e => keep4 b o (s03 _ _ e) (ne_of_none e nlp2), GL4.r, by omega, ?_⟩, ?_⟩
      · rw [hpl, e2, played_yes hcan]
        dsimp only
        rw [Nat.add_assoc, Nat.add_comm 1 t]
      · show ar.length - ((t : Int) + 1).toNat < ar.length - (t : Int).toNat
        omega
    | false =>
      refine iteF ?_
      have hz : Mu25.played Gt (cellsN (ar.drop (2 * t))) = (Gt, 0) := by
        rw [e2]
        exact played_no hcan
      refine ⟨_, rfl, (by show 1 ≤ sizeLine; decide), fun p0 np0 => ?_⟩
      have s4 := same_new np0 (.lst [vN t])
      refine ⟨_, rfl, g2, dg2, _, rfl, s4 _ _ ga3.at_, gF_none, g2, lp2, Gt, rfl, (GR2.same s3).same s4, fun H5 pt s5 npt hpt => ?_⟩
      exact ⟨p0, pt, _, _, rfl, rfl, s5 _ _ upd_same, hpt, (by show 1 + 4 ≤ sizeLine; decide), fun p np => hend hz s03 np0 s5 hpt np⟩
  · refine if_false_of (by rw [hll]; exact decide_eq_false c1) ?_
    have hz : Mu25.played Gt (cellsN (ar.drop (2 * t))) = (Gt, 0) := by
      rw [List.drop_of_length_le (by omega)]
      rfl
    refine ⟨_, rfl, (by show 1 ≤ sizeLine; decide), fun p0 np0 => ?_⟩
    have s4 := same_new np0 (.lst [vN t])
    refine ⟨_, rfl, g2, dg2, _, rfl, s4 _ _ ga2.at_, gF_none, g2, lp2, Gt, rfl, GR2.same s4, fun H5 pt s5 npt hpt => ?_⟩
    exact ⟨p0, pt, _, _, rfl, rfl, s5 _ _ upd_same, hpt, (by show 1 + 4 ≤ sizeLine; decide), fun p np => hend hz s2 np0 s5 hpt np⟩
end
end Hx
/-! W18: answered. -/
namespace Hx
open PySem PySem.Spec PyProof.Rows L2
open Mu25 (Game Board)
/-- a call as the program has it: its place, its numbers -/
inductive CallIs : Nat → List Nat → Mu25.Call → Prop
  | begin_ (n : Nat) : CallIs 0 [n] (.begin_ n)
  | play (r c : Nat) : CallIs 1 [r, c] (.play r c)
  | swap : CallIs 2 [] .swap
  | undo : CallIs 3 [] .undo
  | look : CallIs 4 [] .look
  | rows : CallIs 5 [] .rows
  | lacks (x : Nat) : CallIs 6 [x] (.lacks x)
  | chain : CallIs 7 [] .chain
  | groups (x : Nat) : CallIs 8 [x] (.groups x)
  | threats (x : Nat) : CallIs 9 [x] (.threats x)
  | best : CallIs 10 [] .best
  | try_ (l : List Nat) (h : l.length % 2 = 0) (h60 : l.length ≤ 60) : CallIs 11 l (.try_ (cellsN l))
section
variable {X : Cx} {j k i : Nat} {f : Addr} {ps : List Str} {sp : Sp} {x : Str} {p pos : Pos} {e : Expr} {es : List Expr} {t : TA}
def tCallL1 (i : Nat) (f : Addr) (sp : Sp) (E : L2.St → XK) (t : TA) : TE := fun σ H Q => σ[i]? = some (some (.ref f)) ∧ t σ H fun vs H1 => sp vs H1 Q (E σ)
/-- a local that holds the def at f, called within a try -/
theorem pcL {W : WX} (F : Kp X.prog X.w X.K X.mg X.base (L2.CX X.prog X.w) j f ps sp) (hr : Room k X.A) (tk : Takes X W) (hN : X.N[i]? = some x) (hv : Vis X.env.scope x) (ha : PA X (e :: es) t) (hjk : j ≤ k := by decide)
    (hdb : (x == ("__debug__" : Str)) = false := by decide) (hcd : (x == ("__classdict__" : Str)) = false := by decide)
    (he : starEach (e :: es) X.env = (false, eval e X.env) :: starEach es X.env := by rfl) (hpl : (backTo pos (starEach es X.env)).any (·.1) = false := by rfl) : PE X (.Call (.Name x p) (e :: es) [] pos) (tCallL1 i f sp (WE W) t) := by
  refine ⟨fun pins s σ H Q I h => ?_⟩
  obtain ⟨hs, ht⟩ := h
  obtain ⟨fd, F, hb, hk⟩ := F.ex
  refine wpAny_Call_Name_kw (thn ((pe_var (pos := p) hN hv hdb hcd).run pins s σ H (fun v H1 => v = .ref f ∧ H1 = H) I ⟨.ref f, hs, rfl, rfl⟩) fun u s1 ⟨v, H1, I1, r1, q1⟩ => ?_)
  obtain ⟨rfl, rfl⟩ := q1
  cases r1
  refine PySem.W.callWith_K (h₀ := X.base) I.ok.mod.kin hk (thn (ha.run pos pins s1 σ _ _ I1 ht) fun us s2 ⟨vs, H2, I2, r, q⟩ => ⟨I2.kIn, ?_⟩) he hpl
  exact run_fnS F (hr.mono hjk) hb (passAt tk σ) I2 r q
end
def callsL (A : Ad) : List V := [.ref A.f_call_begin, .ref A.f_call_play, .ref A.f_call_swap, .ref A.f_call_undo, .ref A.f_call_look, .ref A.f_call_rows, .ref A.f_call_lacks, .ref A.f_call_chain, .ref A.f_call_groups, .ref A.f_call_threats, .ref A.f_call_best, .ref A.f_call_try]
def sp_answered (A : Ad) (K : PySem.W.Frag) : Sp := fun vs H Q _ => ∃ (k l : Addr) (pl : Nat) (ar : List Nat) (cl : Mu25.Call) (F : List Addr) (st : Option Game) (c : Nat), vs = [.ref k, vN pl, .ref l] ∧ Keeper A H k F st c ∧ SqL K H l (vL ar) ∧ CallIs pl ar cl ∧ c ≤ 60 ∧
  ∀ H' F' p, Keeper A H' k F' (Mu25.step st cl).1 (c + 1) → Frame H F H' F' → H' p = some (.lst ((Mu25.step st cl).2.map V.int)) → H p = none → Q (.ref p) H'
theorem post_of {A : Ad} {H : Hp} {k : Addr} {F : List Addr} {st : Option Game} {ans : List Int} {cnt : Nat} {Q : VK} {E : XK} (q : ∀ H' F' p, Keeper A H' k F' st cnt → Frame H F H' F' → H' p = some (.lst (ans.map V.int)) → H p = none → Q (.ref p) H')
    (hE : ∀ H' dd z, H' dd = some (.xd [("number", .int z)]) → (∀ p, H' p = none → Q (.ref p) (upd H' p (.lst [.int z]))) → E (.ref A.cRefusal) (some dd) H') : Post A H k F st ans cnt Q E := by
  refine ⟨q, fun H' d z ha hK hs hx => hE H' d z hx fun p np => ?_⟩
  subst ha
  exact q _ F p (hK.same (same_new np _)) (.of_same (hs.trans (same_new np _))) upd_same (hs.free np)
theorem GameV.of_ne {A : Ad} {H : Hp} {k d : Addr} {Fp : List Addr} {gv : V} {st : Option Game} (h : GameV A H k d Fp gv st) (hn : gv ≠ .non) : ∃ G, st = some G := by
  cases st with
  | none => exact absurd h.1 hn
  | some G => exact ⟨G, rfl⟩
theorem GameV.of_non {A : Ad} {H : Hp} {k d : Addr} {Fp : List Addr} {gv : V} {st : Option Game} (h : GameV A H k d Fp gv st) (hn : gv = .non) : st = none := by
  cases st with
  | none => rfl
  | some G =>
    obtain ⟨g, lp, lb, lf, lo, e, _⟩ := h
    rw [hn] at e
    cases e
theorem step_none {pl : Nat} {ar : List Nat} {cl : Mu25.Call} (h : CallIs pl ar cl) (hp : pl ≠ 0) : Mu25.step none cl = (none, [-9]) := by
  cases h with
  | begin_ n => exact absurd rfl hp
  | _ => rfl
section
variable {P : Program} {w : World} {K : PySem.W.Frag} {mg : Str → Option Value} {base : Heap} {A : Ad}
theorem sc_answered : FnScope ["keeper", "place", "numbers", "call", "refusal"] ["keeper", "place", "numbers"] (defScope s_answered) := ⟨rfl, rfl, rfl, by decide +kernel, rfl, by decide +kernel, by decide +kernel⟩
/-- the try's body: the look whether there is a game, then the call that the slot holds -/
def tTryB (K : PySem.W.Frag) (A : Ad) (f : Addr) (sp : Sp) (W : WX) : TS :=
  tSeq (tDrop (tCallS (sp_need A) (WE W) (tCons (tOrV (tOp (fun x y H Q => y = .non ∧ Q (.bl (!decide (x = .non))) H) (tFld K (tVar 0) "game") (tC .non)) (tOp (rNB fun i j => decide (i = j)) (tVar 1) (tC (.int 0)))) (tCons (tUn (rU fun i => .int (-i)) (tC (.int 9))) tNil))))
    (tRet (tCallL1 3 f sp (WE W) (tCons (tVar 0) (tCons (tVar 2) tNil))))
/-- the clause's suite: the error's number in a list -/
def tTryS (A : Ad) : Addr → Value → Option Addr → TS := fun a cls d => tRet (tLst (tCons (tNumRef A.cRefusal a cls d (tVar 4)) tNil))
/-- the body, where call holds the def at f -/
theorem answered_body (T : Txt K mg A) {cdv : Value} {A' : Around} {outer : List Env} {s : Shared} {H : Hp} {E : XK} {Q : VK} {f k l : Addr} {pl : Nat} {sp : Sp}
    (hr : Room 25 (A'.deeper (envOfC "answered" (defScope s_answered) s.heap.objs.size A.f_answered cdv))) (F : Kp P w K mg base (L2.CX P w) 24 f ["keeper", "numbers"] sp)
    (hat : atI (callsL A) ((pl : Nat) : Int) = some (.ref f)) {dk ss : Addr} {gv : V} (hk : H k = some (.ins A.cKeeper dk (kF gv ss)))
    (h9 : gv = .non → pl ≠ 0 → ∀ d p, H d = none → (upd H d (.xd [("number", .int (-9))])) p = none → Q (.ref p) (upd (upd H d (.xd [("number", .int (-9))])) p (.lst [.int (-9)])))
    (hsp : (gv ≠ .non ∨ pl = 0) → ∀ E' : XK, (∀ H' dd z, H' dd = some (.xd [("number", .int z)]) → (∀ p, H' p = none → Q (.ref p) (upd H' p (.lst [.int z]))) → E' (.ref A.cRefusal) (some dd) H') → sp [.ref k, .ref l] H Q E') :
    ∃ t, PSs (cxOf CX0 P w K mg base ["keeper", "place", "numbers", "call", "refusal"] "answered" (defScope s_answered) A.f_answered cdv A' outer s H E).nox (defBody s_answered) t ∧ t { nx := fun _ H' => Q .non H', rt := Q } (start ["keeper", "place", "numbers", "call", "refusal"] [.ref k, vN pl, .ref l]) H := by
  refine ⟨_, (pss_cons (ps_set (i := 3) sc_answered.nd rfl (Or.inl rfl) (pe_ix ix_tup (pe_glob (v := .ref A.tCALLS) rfl T.gCALLS rfl) (pv 1) (fun _ _ => rfl)))
      (pss_one (ps_try_as (i := 4) (tb := tTryB K A f sp) (ts := tTryS A) (Wout := fun _ _ _ _ => False) rfl rfl sc_answered.nd rfl rfl ⟨rfl, by decide, Or.inl T.ref.gC⟩ takes0
        (fun W pn xe tk _ => pss_cons (ps_expr (by exact (pcS (ok_need T) T.g_need hr tk (by exact (pa_cons (pe_or (pe_cmpR op_notN (pe_fld (pv 0) rfl) pe_non (nomark _)) (pe_one (pe_cmpR op_eqN (pv 1) (pgl T.iBEGIN) (nomark _)))) (pa_cons (pe_un un_neg pe_int) pa_nil)))))) (pss_one (ps_ret (by exact (pcL (i := 3) F hr tk rfl (Or.inl rfl) (by exact (pa_cons (pv 0) (pa_cons (pv 2) pa_nil))))))))
        (fun a oe cls d pn hz hf => pss_one (ps_ret (by exact (pe_lst (pa_cons (pe_numRef T.ref hz hf (pv 4)) pa_nil)))))))), ?_⟩
  refine ⟨_, rfl, A.tCALLS, _, _, _, rfl, rfl, T.sCALLS H, hat, ?_⟩
  -- what the clause does with an error that tells z
  have suite : ∀ (σ : L2.St) (H' : Hp) (dd : Addr) (z : Int), σ.length = 5 → H' dd = some (.xd [("number", .int z)]) → (∀ p, H' p = none → Q (.ref p) (upd H' p (.lst [.int z]))) →
      WE (wAs K (.ref A.cRefusal) 4 (tTryS A) (fun _ _ _ _ => False) { nx := fun _ H' => Q .non H', rt := Q }) σ (.ref A.cRefusal) (some dd) H' := fun σ H' dd z hl hx hq => by
    refine ⟨true, T.ref.te, fun _ a _ => ?_, fun q => Bool.noConfusion q⟩
    have e4 : (σ.set 4 (some (V.ref a)))[4]? = some (some (V.ref a)) := List.getElem?_set_self (by omega)
    exact ⟨_, e4, rfl, rfl, dd, _, rfl, hx, (by show 1 ≤ sizeLine; decide), fun p np => hq p np⟩
  refine ⟨_, rfl, k, A.cKeeper, dk, _, _, rfl, hk, T.clKeeper, T.nKeeper_game, kF_game, rfl, _, rfl, ?_⟩
  have go : (gv ≠ .non ∨ pl = 0) → tRet (tCallL1 3 f sp (WE (wAs K (.ref A.cRefusal) 4 (tTryS A) (fun _ _ _ _ => False) { nx := fun _ H' => Q .non H', rt := Q })) (tCons (tVar 0) (tCons (tVar 2) tNil))) { nx := fun _ H' => Q .non H', rt := Q } [some (.ref k), some (vN pl), some (.ref l), some (.ref f), none] H := fun hg =>
    ⟨rfl, _, rfl, _, rfl, hsp hg _ fun H' dd z hx hq => suite _ H' dd z rfl hx hq⟩
  by_cases c : gv = .non
  · refine if_false_of (by simp [c]) ?_
    refine ⟨_, rfl, _, 0, rfl, rfl, _, rfl, _, _, rfl, fun hb => ?_, fun hb d nd => ?_⟩
    · exact go (.inr (of_decide_eq_true hb))
    · exact suite _ _ d (-9) rfl upd_same fun p np => h9 c (of_decide_eq_false hb) d p nd np
  · refine if_true_of (by simp [c]) ?_
    refine ⟨_, rfl, true, (-9), rfl, fun _ => go (.inl c), fun hb => Bool.noConfusion hb⟩
theorem ok_answered (T : Txt K mg A) : Kp P w K mg base CX0 26 A.f_answered ["keeper", "place", "numbers"] (sp_answered A K) := by
  refine T.d_answered.ok sc_answered (fun vs H Q E h => ?_) (fun cdv A' outer s H vs Q E hr h => ?_)
  · obtain ⟨k, l, pl, ar, cl, F, st, c, rfl, _⟩ := h
    rfl
  obtain ⟨k, l, pl, ar, cl, F, st, c, rfl, hK, hl, hcl, hc, q⟩ := h
  obtain ⟨dk, ss, ds, d, kvs, gv, ka, hcnt, hgv⟩ := id hK
  have h9 : gv = .non → pl ≠ 0 → ∀ d p, H d = none → (upd H d (.xd [("number", .int (-9))])) p = none → Q (.ref p) (upd (upd H d (.xd [("number", .int (-9))])) p (.lst [.int (-9)])) := fun hn hp d p nd np => by
    have e := step_none hcl hp
    have hst := hgv.of_non hn
    subst hst
    rw [e] at q
    have s1 := same_new nd (.xd [("number", .int (-9))])
    have s2 := s1.trans (same_new np (.lst [.int (-9)]))
    exact q _ F p ((hK.same s2).more (Nat.le_succ _)) (.of_same s2) upd_same (s1.free np)
  have some_of : ∀ {n : Nat}, (gv ≠ .non ∨ n = 0) → n ≠ 0 → ∃ G, st = some G := fun hg hn => hgv.of_ne (hg.elim id fun z => absurd z hn)
  cases hcl with
  | begin_ n => exact answered_body T hr ((ok_call_begin T).mono (by decide)) (atI_nat (j := 0) (by rfl)) ka.at_ h9 fun hg E' hE => ⟨k, l, F, st, c, n, rfl, hK, hl, post_of q hE⟩
  | play r cc =>
    refine answered_body T hr ((ok_call_play T).mono (by decide)) (atI_nat (j := 1) (by rfl)) ka.at_ h9 fun hg E' hE => ?_
    obtain ⟨G, rfl⟩ := some_of hg (by decide)
    exact ⟨r, cc, k, l, F, G, c, rfl, hK, hl, hc, post_of q hE⟩
  | swap =>
    refine answered_body T hr ((ok_call_swap T).mono (by decide)) (atI_nat (j := 2) (by rfl)) ka.at_ h9 fun hg E' hE => ?_
    obtain ⟨G, rfl⟩ := some_of hg (by decide)
    exact ⟨k, l, F, G, c, rfl, hK, hl, hc, post_of q hE⟩
  | undo =>
    refine answered_body T hr ((ok_call_undo T).mono (by decide)) (atI_nat (j := 3) (by rfl)) ka.at_ h9 fun hg E' hE => ?_
    obtain ⟨G, rfl⟩ := some_of hg (by decide)
    exact ⟨k, l, F, G, c, rfl, hK, hl, hc, post_of q hE⟩
  | look =>
    refine answered_body T hr ((ok_call_look T).up.mono (by decide)) (atI_nat (j := 4) (by rfl)) ka.at_ h9 fun hg E' hE => ?_
    obtain ⟨G, rfl⟩ := some_of hg (by decide)
    exact ⟨k, l, F, G, c, rfl, hK, hl, hc, post_of q hE⟩
  | rows =>
    refine answered_body T hr ((ok_call_rows T).up.mono (by decide)) (atI_nat (j := 5) (by rfl)) ka.at_ h9 fun hg E' hE => ?_
    obtain ⟨G, rfl⟩ := some_of hg (by decide)
    exact ⟨k, l, F, G, c, rfl, hK, hl, hc, post_of q hE⟩
  | lacks x =>
    refine answered_body T hr ((ok_call_lacks T).mono (by decide)) (atI_nat (j := 6) (by rfl)) ka.at_ h9 fun hg E' hE => ?_
    obtain ⟨G, rfl⟩ := some_of hg (by decide)
    exact ⟨x, k, l, F, G, c, rfl, hK, hl, hc, post_of q hE⟩
  | chain =>
    refine answered_body T hr ((ok_call_chain T).mono (by decide)) (atI_nat (j := 7) (by rfl)) ka.at_ h9 fun hg E' hE => ?_
    obtain ⟨G, rfl⟩ := some_of hg (by decide)
    exact ⟨k, l, F, G, c, rfl, hK, hl, hc, post_of q hE⟩
  | groups x =>
    refine answered_body T hr ((ok_call_groups T).mono (by decide)) (atI_nat (j := 8) (by rfl)) ka.at_ h9 fun hg E' hE => ?_
    obtain ⟨G, rfl⟩ := some_of hg (by decide)
    exact ⟨x, k, l, F, G, c, rfl, hK, hl, hc, post_of q hE⟩
  | threats x =>
    refine answered_body T hr ((ok_call_threats T).mono (by decide)) (atI_nat (j := 9) (by rfl)) ka.at_ h9 fun hg E' hE => ?_
    obtain ⟨G, rfl⟩ := some_of hg (by decide)
    exact ⟨x, k, l, F, G, c, rfl, hK, hl, hc, post_of q hE⟩
  | best =>
    refine answered_body T hr ((ok_call_best T).mono (by decide)) (atI_nat (j := 10) (by rfl)) ka.at_ h9 fun hg E' hE => ?_
    obtain ⟨G, rfl⟩ := some_of hg (by decide)
    exact ⟨k, l, F, G, c, rfl, hK, hl, hc, post_of q hE⟩
  | try_ _ hev h60 =>
    refine answered_body T hr ((ok_call_try T).up.mono (by decide)) (atI_nat (j := 11) (by rfl)) ka.at_ h9 fun hg E' hE => ?_
    obtain ⟨G, rfl⟩ := some_of hg (by decide)
    exact ⟨ar, hev, h60, k, l, F, G, c, rfl, hK, hl, hc, post_of q hE⟩
end
end Hx
/-! W19: the flat list of calls. -/
namespace Hx
open Mu25 (Game Board)
abbrev C3 := Nat × List Nat × Mu25.Call
def encC (x : C3) : List Nat := if x.1 = 11 then 11 :: x.2.1.length :: x.2.1 else x.1 :: x.2.1
def runC : Option Game → List C3 → List (List Int)
  | _, [] => []
  | st, x :: r => (Mu25.step st x.2.2).2 :: runC (Mu25.step st x.2.2).1 r
def stC : Option Game → List C3 → Option Game
  | st, [] => st
  | st, x :: r => stC (Mu25.step st x.2.2).1 r
theorem stC_append : ∀ (a b : List C3) (st : Option Game), stC st (a ++ b) = stC (stC st a) b
  | [], _, _ => rfl
  | x :: a, b, st => stC_append a b (Mu25.step st x.2.2).1
theorem runC_append : ∀ (a b : List C3) (st : Option Game), runC st (a ++ b) = runC st a ++ runC (stC st a) b
  | [], _, _ => rfl
  | x :: a, b, st => by
    show (Mu25.step st x.2.2).2 :: runC (Mu25.step st x.2.2).1 (a ++ b) = (Mu25.step st x.2.2).2 :: (runC (Mu25.step st x.2.2).1 a ++ runC (stC (Mu25.step st x.2.2).1 a) b)
    rw [runC_append a b]
theorem told_append (a b : List (List Int)) : PyFlat.told (a ++ b) = PyFlat.told a ++ PyFlat.told b := by
  unfold PyFlat.told
  rw [List.flatMap_append]
def natL (l : List Nat) : List Int := l.map fun (x : Nat) => (x : Int)
theorem natL_append (a b : List Nat) : natL (a ++ b) = natL a ++ natL b := List.map_append
theorem twenty_nat {z : Int} (h : Mu25Neutral.twenty z = true) : z = ((z.toNat : Nat) : Int) := by
  unfold Mu25Neutral.twenty NeutralIO.within at h
  rw [Bool.and_eq_true, decide_eq_true_iff] at h
  omega
theorem five_nat {z : Int} (h : Mu25Neutral.five z = true) : z = ((z.toNat : Nat) : Int) := by
  unfold Mu25Neutral.five NeutralIO.within at h
  rw [Bool.and_eq_true, decide_eq_true_iff] at h
  omega
theorem all_nat : ∀ {l : List Int}, l.all Mu25Neutral.twenty = true → l = natL (l.map Int.toNat)
  | [], _ => rfl
  | a :: l, h => by
    rw [List.all_cons, Bool.and_eq_true] at h
    show a :: l = ((a.toNat : Nat) : Int) :: natL (l.map Int.toNat)
    rw [← twenty_nat h.1, ← all_nat h.2]
theorem cellsOf_nat : ∀ l : List Int, Mu25Neutral.cellsOf l = cellsN (l.map Int.toNat)
  | [] => rfl
  | [_] => rfl
  | a :: b :: l => by
    show (a.toNat, b.toNat) :: Mu25Neutral.cellsOf l = (a.toNat, b.toNat) :: cellsN (l.map Int.toNat)
    rw [cellsOf_nat l]
theorem one_call {c : List (List Int)} (h : Mu25Neutral.asked1 c = true) : ∃ x : C3, CallIs x.1 x.2.1 x.2.2 ∧ Mu25Neutral.callOf c = some x.2.2 ∧ PyFlat.put1 c = natL (encC x) := by
  unfold Mu25Neutral.asked1 at h
  split at h
  · rename_i n
    exact ⟨(0, [n.toNat], .begin_ n.toNat), .begin_ _, rfl, by show [0, n] = [0, ((n.toNat : Nat) : Int)]; rw [← twenty_nat h]⟩
  · rename_i r c
    rw [Bool.and_eq_true] at h
    exact ⟨(1, [r.toNat, c.toNat], .play r.toNat c.toNat), .play _ _, rfl, by show [1, r, c] = [1, ((r.toNat : Nat) : Int), ((c.toNat : Nat) : Int)]; rw [← twenty_nat h.1, ← twenty_nat h.2]⟩
  · exact ⟨(2, [], .swap), .swap, rfl, rfl⟩
  · exact ⟨(3, [], .undo), .undo, rfl, rfl⟩
  · exact ⟨(4, [], .look), .look, rfl, rfl⟩
  · exact ⟨(5, [], .rows), .rows, rfl, rfl⟩
  · rename_i n
    exact ⟨(6, [n.toNat], .lacks n.toNat), .lacks _, rfl, by show [6, n] = [6, ((n.toNat : Nat) : Int)]; rw [← five_nat h]⟩
  · exact ⟨(7, [], .chain), .chain, rfl, rfl⟩
  · rename_i n
    exact ⟨(8, [n.toNat], .groups n.toNat), .groups _, rfl, by show [8, n] = [8, ((n.toNat : Nat) : Int)]; rw [← five_nat h]⟩
  · rename_i n
    exact ⟨(9, [n.toNat], .threats n.toNat), .threats _, rfl, by show [9, n] = [9, ((n.toNat : Nat) : Int)]; rw [← five_nat h]⟩
  · exact ⟨(10, [], .best), .best, rfl, rfl⟩
  · rename_i l
    rw [Bool.and_eq_true, Bool.and_eq_true, decide_eq_true_iff, beq_iff_eq] at h
    have e := all_nat h.2.2
    refine ⟨(11, l.map Int.toNat, .try_ (cellsN (l.map Int.toNat))), .try_ _ (by rw [List.length_map]; exact h.2.1) (by rw [List.length_map]; exact h.1), ?_, ?_⟩
    · show some (Mu25.Call.try_ (Mu25Neutral.cellsOf l)) = _
      rw [cellsOf_nat]
    · show [11] ++ ((((l.length : Nat) : Int) :: l) ++ []) = 11 :: (((l.map Int.toNat).length : Nat) : Int) :: natL (l.map Int.toNat)
      rw [← e, List.length_map, List.append_nil]
      rfl
  · cases h
theorem all_calls : ∀ {cs : List (List (List Int))}, cs.all Mu25Neutral.asked1 = true → ∃ xs : List C3, (∀ x ∈ xs, CallIs x.1 x.2.1 x.2.2) ∧ PyFlat.put cs = natL (xs.flatMap encC) ∧ xs.length = cs.length ∧ ∀ st, PyFlat.played Mu25Neutral.step st cs = runC st xs
  | [], _ => ⟨[], fun _ h => (nomatch h), rfl, rfl, fun _ => rfl⟩
  | c :: cs, h => by
    rw [List.all_cons, Bool.and_eq_true] at h
    obtain ⟨x, hx1, hx2, hx3⟩ := one_call h.1
    obtain ⟨xs, h1, h2, h3, h4⟩ := all_calls h.2
    refine ⟨x :: xs, fun y hy => ?_, ?_, by rw [List.length_cons, List.length_cons, h3], fun st => ?_⟩
    · rcases List.mem_cons.mp hy with rfl | hy
      · exact hx1
      · exact h1 y hy
    · show PyFlat.put1 c ++ PyFlat.put cs = _
      rw [hx3, h2, List.flatMap_cons, natL_append]
    · have e : Mu25Neutral.step st c = Mu25.step st x.2.2 := by
        unfold Mu25Neutral.step
        rw [hx2]
      show (Mu25Neutral.step st c).2 :: PyFlat.played Mu25Neutral.step (Mu25Neutral.step st c).1 cs = (Mu25.step st x.2.2).2 :: runC (Mu25.step st x.2.2).1 xs
      rw [e, h4]
theorem whole_id (c : List (List Int)) : PyMu25.whole c = c := by
  unfold PyMu25.whole
  split <;> rfl
theorem decoded {ns : List Int} (h : PyMu25.answers_asked ns = true) : ∃ xs : List C3, ns = natL (xs.flatMap encC) ∧ (∀ x ∈ xs, CallIs x.1 x.2.1 x.2.2) ∧ xs.length ≤ 60 ∧ PyMu25.answers ns = PyFlat.told (runC none xs) ∧ (PyMu25.answers ns).length ≤ 10000000 := by
  unfold PyMu25.answers_asked at h
  cases e : PyFlat.calls PyMu25.shape ns.length ns with
  | none =>
    rw [e] at h
    cases h
  | some raw =>
    rw [e] at h
    dsimp only at h
    have ew : raw.map PyMu25.whole = raw := by
      have : PyMu25.whole = id := funext whole_id
      rw [this, List.map_id]
    rw [ew] at h
    simp only [Bool.and_eq_true] at h
    obtain ⟨⟨_, ha⟩, hs⟩ := h
    unfold Mu25Neutral.asked at ha
    simp only [Bool.and_eq_true, decide_eq_true_iff] at ha
    obtain ⟨_, hlen, hall⟩ := ha
    obtain ⟨xs, h1, h2, h3, h4⟩ := all_calls hall
    have hput := (PyFlat.put_calls _ _ _ e).1
    refine ⟨xs, hput.trans h2, h1, by rw [h3]; exact hlen, ?_, ?_⟩
    · unfold PyMu25.answers PyMu25.calls
      rw [e]
      dsimp only
      rw [ew, h4]
      rfl
    · unfold PyFlat.short at hs
      exact of_decide_eq_true hs
end Hx
/-! W20: answers. -/
namespace Hx
open PySem PySem.Spec PyProof.Rows L2
open Mu25 (Game Board)
def sp_answers (K : PySem.W.Frag) : Sp := fun vs H Q _ => ∃ (a : Addr) (ns : List Int), vs = [.ref a] ∧ SqL K H a (ns.map V.int) ∧ PyMu25.answers_asked ns = true ∧
  ∀ (H' : Hp) (p : Addr), H' p = some (.lst ((PyMu25.answers ns).map V.int)) → Q (.ref p) H'
theorem natL_vL (l : List Nat) : (natL l).map V.int = vL l := (vL_int l).symm
theorem lens_at {pl : Nat} {ar : List Nat} {cl : Mu25.Call} (h : CallIs pl ar cl) (hp : pl ≠ 11) : atI ([1, 2, 0, 0, 0, 0, 1, 0, 1, 1, 0, 0].map V.int) ((pl : Nat) : Int) = some (vN ar.length) := by
  cases h with
  | begin_ n => exact atI_nat (j := 0) (by rfl)
  | play r c => exact atI_nat (j := 1) (by rfl)
  | swap => exact atI_nat (j := 2) (by rfl)
  | undo => exact atI_nat (j := 3) (by rfl)
  | look => exact atI_nat (j := 4) (by rfl)
  | rows => exact atI_nat (j := 5) (by rfl)
  | lacks x => exact atI_nat (j := 6) (by rfl)
  | chain => exact atI_nat (j := 7) (by rfl)
  | groups x => exact atI_nat (j := 8) (by rfl)
  | threats x => exact atI_nat (j := 9) (by rfl)
  | best => exact atI_nat (j := 10) (by rfl)
  | try_ _ _ _ => exact absurd rfl hp
theorem lens_try : atI ([1, 2, 0, 0, 0, 0, 1, 0, 1, 1, 0, 0].map V.int) ((11 : Nat) : Int) = some (vN 0) := atI_nat (j := 11) (by rfl)
theorem cut_mid (pre ar post : List Nat) : cutV (vL (pre ++ (ar ++ post))) (some ((pre.length : Nat) : Int)) (some ((pre.length + ar.length : Nat) : Int)) = vL ar := by
  rw [cutV_map, HT.sIx_nat, HT.sIx_nat, List.length_append, List.length_append]
  have e1 : min pre.length (pre.length + (ar.length + post.length)) = pre.length := by omega
  have e2 : min (pre.length + ar.length) (pre.length + (ar.length + post.length)) = pre.length + ar.length := by omega
  rw [e1, e2, List.drop_left, Nat.add_sub_cancel_left, List.take_left]
theorem at_mid (pre : List Nat) (x : Nat) (post : List Nat) : atI (vL (pre ++ x :: post)) ((pre.length : Nat) : Int) = some (vN x) := by
  refine atI_nat ?_
  unfold vL
  rw [List.getElem?_map, List.getElem?_append_right (Nat.le_refl _), Nat.sub_self]
  rfl
def muA (m : Nat) : List (Option V) → Nat
  | _ :: _ :: _ :: some (V.int f) :: _ => m - f.toNat
  | _ => 0
theorem told_one (a : List Int) : PyFlat.told [a] = (a.length : Int) :: a := by
  unfold PyFlat.told
  simp
theorem answered_mono {A : Ad} {K : PySem.W.Frag} {vs : List V} {H : Hp} {Q Q' : VK} {E E' : XK} (h : sp_answered A K vs H Q E) (imp : ∀ v H, Q v H → Q' v H) : sp_answered A K vs H Q' E' := by
  obtain ⟨k, l, pl, ar, cl, F, st, c, h1, h2, h3, h4, h5, q⟩ := h
  exact ⟨k, l, pl, ar, cl, F, st, c, h1, h2, h3, h4, h5, fun H' F' p a b d e => imp _ _ (q H' F' p a b d e)⟩
theorem Keeper.upd_lst {A : Ad} {H : Hp} {k fo : Addr} {F : List Addr} {st : Option Game} {c : Nat} {xs : List V} {o : HO} (a : Keeper A H k F st c) (hf : H fo = some (.lst xs)) (hn : fo ∉ F) : Keeper A (upd H fo o) k F st c := by
  obtain ⟨dx, s, ds, d, kvs, gv, ka, hc, hg⟩ := a
  have ni : ∀ {b : Addr} {C d' : Addr} {fs : List (Str × V)}, H b = some (.ins C d' fs) → b ≠ fo := fun {b C d' fs} e z => by
    rw [z, hf] at e
    cases e
  have nd : d ≠ fo := fun z => by
    have := ka.dict
    rw [z, hf] at this
    cases this
  refine ⟨dx, s, ds, d, kvs, gv, ⟨(upd_ne (ni ka.at_)).trans ka.at_, (upd_ne (ni ka.srch)).trans ka.srch, (upd_ne nd).trans ka.dict, ka.memo⟩, hc, ?_⟩
  cases st with
  | none => exact hg
  | some G =>
    obtain ⟨g, lp, lb, lf, lo, e1, ⟨dg, f, ga⟩, rfl⟩ := hg
    simp only [List.mem_cons, List.not_mem_nil, or_false, not_or] at hn
    obtain ⟨_, _, _, h4, h5, h6, h7⟩ := hn
    obtain ⟨⟨dF, hF⟩, hb, hf', ho, n2, n11⟩ := ga.fld
    exact ⟨g, lp, lb, lf, lo, e1, ⟨dg, f, (upd_ne (ni ga.at_)).trans ga.at_, ⟨⟨dF, (upd_ne (ni hF)).trans hF⟩, (upd_ne (Ne.symm h5)).trans hb, (upd_ne (Ne.symm h6)).trans hf', (upd_ne (Ne.symm h7)).trans ho, n2, n11⟩, (upd_ne (Ne.symm h4)).trans ga.put, ga.nb, ga.nf, ga.no, ga.ok⟩, rfl⟩
section
variable {P : Program} {w : World} {K : PySem.W.Frag} {mg : Str → Option Value} {base : Heap} {A : Ad}
theorem sc_answers : FnScope ["calls", "keeper", "found", "at", "place", "begin", "many", "answer"] ["calls"] (defScope s_answers) := ⟨rfl, rfl, rfl, by decide +kernel, rfl, by decide +kernel, by decide +kernel⟩
theorem ok_answers (T : Txt K mg A) {fd : FuncData} (Ff : Fun K "answers" "answers" s_answers A.f_answers fd) : FnOk P w K mg base CX0 27 A.f_answers fd ["calls"] (sp_answers K) := by
  refine Ff.ok sc_answers (fun vs H Q E h => ?_) (fun cdv A' outer s H vs Q E hr h => ?_)
  · obtain ⟨a, ns, rfl, _⟩ := h
    rfl
  obtain ⟨a, ns, rfl, hS, hask, q⟩ := h
  obtain ⟨xs, rfl, hxs, hx60, hans, hlen⟩ := decoded hask
  rw [natL_vL] at hS
  rw [hans] at hlen
  refine ⟨_, (pss_cons (ps_set (i := 1) sc_answers.nd rfl (Or.inl rfl) (pk0 T.mkKeeper (ok_keeper_init T) T.gKeeper hr))
      (pss_cons (ps_set (i := 2) sc_answers.nd rfl (Or.inl rfl) (pe_lst pa_nil))
      (pss_cons (ps_set (i := 3) sc_answers.nd rfl (Or.inl rfl) pe_int)
      (pss_cons (ps_while PassesOwn.never (pt_cmpR op_ltN (pv 3) (pe_callB call_len_seq rfl T.b_len PySem.boot_len (pa_cons (pv 0) pa_nil)) (nomark _)) (pss_cons (ps_set (i := 4) sc_answers.nd rfl (Or.inl rfl) (pe_ix ix_list (pv 0) (pv 3) (fun _ _ => rfl)))
      (pss_cons (ps_set (i := 5) sc_answers.nd rfl (Or.inl rfl) (pe_op op_addN (pv 3) pe_int))
      (pss_cons (ps_set (i := 6) sc_answers.nd rfl (Or.inl rfl) (pe_ix ix_tup (pe_glob (v := .ref A.tLENGTHS) rfl T.gLENGTHS rfl) (pv 4) (fun _ _ => rfl)))
      (pss_cons (ps_if (pt_cmpR op_eqN (pv 4) (pgl T.iTRY) (nomark _)) (pss_cons (ps_set (i := 6) sc_answers.nd rfl (Or.inl rfl) (pe_ix ix_list (pv 0) (pv 5) (fun _ _ => rfl)))
      (pss_one (ps_aug (i := 5) sc_answers.nd rfl (Or.inl rfl) pe_int ip_add))) pss_nil)
      (pss_cons (ps_set (i := 3) sc_answers.nd rfl (Or.inl rfl) (pe_op op_addN (pv 5) (pv 6)))
      (pss_cons (ps_set (i := 7) sc_answers.nd rfl (Or.inl rfl) (pc (ok_answered T) T.g_answered hr (pa_cons (pv 1) (pa_cons (pv 4) (pa_cons (pe_slice sl_list (pv 0) (po_some (pv 5)) (po_some (pv 3))) pa_nil)))))
      (pss_cons (ps_expr (pe_bm PySem.F.plainAttrs_list PySem.F.slot_list_append PySem.F.type_list_append mt_append (pv 2) (pa_cons (pe_callB call_len_seq rfl T.b_len PySem.boot_len (pa_cons (pv 7) pa_nil)) pa_nil)))
      (pss_one (ps_expr (pe_bm PySem.F.plainAttrs_list PySem.F.slot_list_extend PySem.F.type_list_extend mt_extend (pv 2) (pa_cons (pv 7) pa_nil))))))))))))
      (pss_one (ps_ret (pv 2))))))), ?_⟩
  -- the keeper is made
  intro k dk nk ndk ne
  refine ⟨k, dk, rfl, upd_same, fun H1 ss ds d ka nd kp => ⟨rfl, ?_⟩⟩
  have s1 := Same.made nk ndk kp
  -- the list of what is found
  refine ⟨(by show 0 ≤ sizeLine; decide), fun fo nfo => ?_⟩
  have s2 := s1.trans (same_new nfo (.lst []))
  have ka2 := ka.same (same_new nfo (.lst []))
  have fok : fo ≠ k := fun z => by
    rw [z, ka.at_] at nfo
    cases nfo
  have fod : fo ≠ d := fun z => by
    rw [z, ka.dict] at nfo
    cases nfo
  have nfo0 : H fo = none := s1.free nfo
  have nd0 : H d = none := by
    have dk1 : d ≠ k := fun z => by
      have := ka.dict
      rw [z, ka.at_] at this
      cases this
    rw [upd_ne dk1] at nd
    by_cases z : d = dk
    · rw [z]; exact ndk
    · rw [upd_ne z] at nd; exact nd
  have hL : (vL (xs.flatMap encC)).length = (xs.flatMap encC).length := vL_len _
  refine while_my (fun σ H' => ∃ (done rest : List C3) (F : List Addr) (v4 v5 v6 v7 : Option V), xs = done ++ rest ∧ σ = [some (.ref a), some (.ref k), some (.ref fo), some (vN (done.flatMap encC).length), v4, v5, v6, v7] ∧ Same H H' ∧ Keeper A H' k F (stC none done) done.length ∧ fo ∉ F ∧ (∀ b o, H b = some o → b ∉ F) ∧ H' fo = some (.lst ((PyFlat.told (runC none done)).map V.int)))
    (fun σ _ => muA (xs.flatMap encC).length σ) ⟨[], xs, [k, d], none, none, none, none, rfl, rfl, s2, ⟨dk, ss, ds, d, [], .non, ka2, Nat.zero_le _, rfl, rfl⟩, by simp [fok, fod], fun b o e => by simp [ne_of_none e nk, ne_of_none e nd0], upd_same⟩ ?_
  rintro σ H' ⟨done, rest, F, v4, v5, v6, v7, hsp, rfl, s3, hK, hfF, hHF, hfo⟩
  have hS3 := s3.seq hS
  refine ⟨_, rfl, _, rfl, a, _, rfl, .inl hS3, _, _, rfl, rfl, _, rfl, ?_⟩
  cases rest with
  | nil =>
    rw [List.append_nil] at hsp
    refine if_false_of (by rw [hL, hsp]; exact decide_eq_false (Nat.lt_irrefl _)) ?_
    refine ⟨_, rfl, q H' fo ?_⟩
    rw [hans, hsp]
    exact hfo
  | cons x rest =>
    obtain ⟨pl, ar, cl⟩ := x
    have hcl : CallIs pl ar cl := hxs (pl, ar, cl) (by rw [hsp]; simp)
    have eall : xs.flatMap encC = done.flatMap encC ++ (encC (pl, ar, cl) ++ rest.flatMap encC) := by
      rw [hsp, List.flatMap_append, List.flatMap_cons]
    have elt : (done.flatMap encC).length < (xs.flatMap encC).length := by
      rw [eall, List.length_append, List.length_append]
      have : 0 < (encC (pl, ar, cl)).length := by
        unfold encC
        by_cases z : pl = 11
        · rw [if_pos z]; simp
        · rw [if_neg z]; simp
      omega
    refine if_true_of (by rw [hL]; exact decide_eq_true elt) (turn_of ?_)
    have dlen : done.length + 1 ≤ 60 := by
      have : xs.length = done.length + (rest.length + 1) := by rw [hsp, List.length_append, List.length_cons]
      omega
    -- the turn behind begin and many
    have fin : ∀ (b m : Nat) (v4' : V) (pre post : List Nat), v4' = vN pl → m = ar.length → xs.flatMap encC = pre ++ (ar ++ post) → pre.length = b → b + m = ((done ++ [(pl, ar, cl)]).flatMap encC).length → ∀ {lc : Addr}, H' lc = none →
        sp_answered A K [.ref k, v4', .ref lc] (upd H' lc (.lst (cutV (vL (xs.flatMap encC)) (some ((b : Nat) : Int)) (some ((b + m : Nat) : Int))))) (fun v H2 => ∃ p, v = .ref p ∧ (∃ F', Keeper A H2 k F' (stC none (done ++ [(pl, ar, cl)])) (done.length + 1) ∧ fo ∉ F' ∧ ∀ b o, H b = some o → b ∉ F') ∧ Same H H2 ∧ H2 fo = some (.lst ((PyFlat.told (runC none done)).map V.int)) ∧ H2 p = some (.lst ((Mu25.step (stC none done) cl).2.map V.int)) ∧ p ≠ fo) (fun _ _ _ => False) := by
      intro b m v4' pre post e4 em eL eb eat lc nlc
      subst e4 em eb
      have s4 := same_new nlc (.lst (cutV (vL (xs.flatMap encC)) (some ((pre.length : Nat) : Int)) (some ((pre.length + ar.length : Nat) : Int))))
      refine ⟨k, lc, pl, ar, cl, F, stC none done, done.length, rfl, hK.same s4, SqL.of ?_, hcl, by omega, fun H2 F2 p hK2 hF2 hp np => ?_⟩
      · rw [upd_same, eL, cut_mid]
      · have est : stC none (done ++ [(pl, ar, cl)]) = (Mu25.step (stC none done) cl).1 := by
          rw [stC_append]
          rfl
        refine ⟨p, rfl, ⟨F2, by rw [est]; exact hK2, fun z => ?_, fun b o e z => ?_⟩, fun b o e => hF2.1 b o (s4 _ _ (s3 _ _ e)) (hHF b o e), hF2.1 fo _ (s4 _ _ hfo) hfF, hp, fun z => ?_⟩
        · rcases hF2.2 fo z with z | z
          · exact hfF z
          · rw [s4 _ _ hfo] at z
            cases z
        · rcases hF2.2 b z with z | z
          · exact hHF b o e z
          · rw [s4 _ _ (s3 _ _ e)] at z
            cases z
        · rw [z, s4 _ _ hfo] at np
          cases np
    -- what is found, behind the turn
    have etold : PyFlat.told (runC none (done ++ [(pl, ar, cl)])) = PyFlat.told (runC none done) ++ (((Mu25.step (stC none done) cl).2.length : Int) :: (Mu25.step (stC none done) cl).2) := by
      rw [runC_append, told_append]
      congr 1
      exact told_one _
    have elen : (PyFlat.told (runC none done)).length + ((Mu25.step (stC none done) cl).2.length + 1) ≤ 10000000 := by
      have e1 : PyFlat.told (runC none xs) = PyFlat.told (runC none (done ++ [(pl, ar, cl)])) ++ PyFlat.told (runC (stC none (done ++ [(pl, ar, cl)])) rest) := by
        rw [← told_append, ← runC_append, hsp, List.append_assoc]
        rfl
      rw [e1, etold, List.length_append, List.length_append, List.length_cons] at hlen
      omega
    have big : (10000000 : Nat) < sizeLine := by decide
    -- the last two statements and the next turn
    have last : ∀ {H2 : Hp} {p : Addr} {va : V} {v4' v5' v6' : Option V}, va = vN ((done ++ [(pl, ar, cl)]).flatMap encC).length → (∃ F', Keeper A H2 k F' (stC none (done ++ [(pl, ar, cl)])) (done.length + 1) ∧ fo ∉ F' ∧ ∀ b o, H b = some o → b ∉ F') → Same H H2 → H2 fo = some (.lst ((PyFlat.told (runC none done)).map V.int)) → H2 p = some (.lst ((Mu25.step (stC none done) cl).2.map V.int)) → p ≠ fo →
        (∃ (done' rest' : List C3) (F' : List Addr) (v4 v5 v6 v7 : Option V), xs = done' ++ rest' ∧ [some (.ref a), some (.ref k), some (.ref fo), some va, v4', v5', v6', some (V.ref p)] = [some (.ref a), some (.ref k), some (.ref fo), some (vN (done'.flatMap encC).length), v4, v5, v6, v7] ∧
          Same H (upd (upd H2 fo (.lst ((PyFlat.told (runC none done)).map V.int ++ [V.int (((Mu25.step (stC none done) cl).2.map V.int).length : Int)]))) fo (.lst (((PyFlat.told (runC none done)).map V.int ++ [V.int (((Mu25.step (stC none done) cl).2.map V.int).length : Int)]) ++ (Mu25.step (stC none done) cl).2.map V.int))) ∧
          Keeper A (upd (upd H2 fo (.lst ((PyFlat.told (runC none done)).map V.int ++ [V.int (((Mu25.step (stC none done) cl).2.map V.int).length : Int)]))) fo (.lst (((PyFlat.told (runC none done)).map V.int ++ [V.int (((Mu25.step (stC none done) cl).2.map V.int).length : Int)]) ++ (Mu25.step (stC none done) cl).2.map V.int))) k F' (stC none done') done'.length ∧ fo ∉ F' ∧ (∀ b o, H b = some o → b ∉ F') ∧
          (upd (upd H2 fo (.lst ((PyFlat.told (runC none done)).map V.int ++ [V.int (((Mu25.step (stC none done) cl).2.map V.int).length : Int)]))) fo (.lst (((PyFlat.told (runC none done)).map V.int ++ [V.int (((Mu25.step (stC none done) cl).2.map V.int).length : Int)]) ++ (Mu25.step (stC none done) cl).2.map V.int))) fo = some (.lst ((PyFlat.told (runC none done')).map V.int))) := by
      rintro H2 p va v4' v5' v6' rfl ⟨F', hK2, hfF2, hHF2⟩ sH2 hfo2 hp2 pfo
      rw [upd_upd]
      refine ⟨done ++ [(pl, ar, cl)], rest, F', v4', v5', v6', some (.ref p), by rw [hsp, List.append_assoc]; rfl, rfl, fun b o e => (upd_ne (ne_of_none e nfo0)).trans (sH2 _ _ e), ?_, hfF2, hHF2, ?_⟩
      · rw [List.length_append, List.length_singleton]
        exact hK2.upd_lst hfo2 hfF2
      · rw [upd_same, etold, List.map_append, List.map_cons, List.append_assoc, List.length_map]
        rfl
    have enext : ((done ++ [(pl, ar, cl)]).flatMap encC).length = (done.flatMap encC).length + (encC (pl, ar, cl)).length := by
      rw [List.flatMap_append, List.length_append, List.flatMap_cons, List.flatMap_nil, List.append_nil]
    have mlt : ∀ {va : V}, va = vN ((done ++ [(pl, ar, cl)]).flatMap encC).length → ∀ {v4' v5' v6' v7' : Option V}, muA (xs.flatMap encC).length [some (.ref a), some (.ref k), some (.ref fo), some va, v4', v5', v6', v7'] < muA (xs.flatMap encC).length [some (.ref a), some (.ref k), some (.ref fo), some (vN (done.flatMap encC).length), v4, v5, v6, v7] := by
      intro va hva v4' v5' v6' v7'
      subst hva
      show (xs.flatMap encC).length - (((done ++ [(pl, ar, cl)]).flatMap encC).length : Int).toNat < (xs.flatMap encC).length - ((done.flatMap encC).length : Int).toNat
      rw [Int.toNat_natCast, Int.toNat_natCast, enext]
      have : 0 < (encC (pl, ar, cl)).length := by
        unfold encC
        by_cases z : pl = 11
        · rw [if_pos z]; simp
        · rw [if_neg z]; simp
      omega
    by_cases z : pl = 11
    · subst z
      have henc : encC (11, ar, cl) = 11 :: ar.length :: ar := by
        unfold encC
        rw [if_pos rfl]
      have eL0 : xs.flatMap encC = done.flatMap encC ++ 11 :: (ar.length :: (ar ++ rest.flatMap encC)) := by
        rw [eall, henc]
        rfl
      have eL1 : xs.flatMap encC = (done.flatMap encC ++ [11]) ++ ar.length :: (ar ++ rest.flatMap encC) := by
        rw [eL0, List.append_assoc]
        rfl
      have eL2 : xs.flatMap encC = (done.flatMap encC ++ [11, ar.length]) ++ (ar ++ rest.flatMap encC) := by
        rw [eL0, List.append_assoc]
        rfl
      have a0 : atI (vL (xs.flatMap encC)) (((done.flatMap encC).length : Nat) : Int) = some (vN 11) := by
        rw [eL0]
        exact at_mid _ _ _
      have a1 : atI (vL (xs.flatMap encC)) (((done.flatMap encC).length + 1 : Nat) : Int) = some (vN ar.length) := by
        have := at_mid (done.flatMap encC ++ [11]) ar.length (ar ++ rest.flatMap encC)
        rw [← eL1, List.length_append, List.length_singleton] at this
        exact this
      have eat : (done.flatMap encC).length + 1 + 1 + ar.length = ((done ++ [(11, ar, cl)]).flatMap encC).length := by
        rw [enext, henc, List.length_cons, List.length_cons]
        omega
      refine ⟨_, rfl, _, rfl, a, _, _, _, rfl, rfl, hS3, a0, ?_⟩
      refine ⟨_, rfl, _, 1, rfl, rfl, ?_⟩
      refine ⟨_, rfl, A.tLENGTHS, _, _, _, rfl, rfl, T.sLENGTHS H', lens_try, ?_⟩
      refine ⟨_, rfl, _, 11, rfl, rfl, _, rfl, if_true_of (by rfl) ?_⟩
      refine ⟨_, rfl, _, rfl, a, _, _, _, rfl, rfl, hS3, a1, ?_⟩
      refine ⟨_, rfl, _, _, rfl, rfl, ?_⟩
      refine ⟨_, rfl, _, rfl, (done.flatMap encC).length + 1 + 1, _, rfl, rfl, ?_⟩
      refine ⟨_, rfl, _, rfl, _, rfl, _, rfl, _, rfl, _, rfl, _, rfl, a, _, rfl, hS3, fun lc nlc => ?_⟩
      obtain ⟨k1, l1, pl1, ar1, cl1, F1, st1, c1, g1, g2, g3, g4, g5, qq⟩ := fin ((done.flatMap encC).length + 1 + 1) ar.length (vN 11) _ _ rfl rfl eL2 (by rw [List.length_append]; rfl) eat nlc
      refine ⟨k1, l1, pl1, ar1, cl1, F1, st1, c1, g1, g2, g3, g4, g5, fun H2 F2 p0 y1 y2 y3 y4 => ?_⟩
      obtain ⟨p, ep, hkk, sH2, hfo2, hp2, pfo⟩ := qq H2 F2 p0 y1 y2 y3 y4
      obtain rfl : p0 = p := V.ref.inj ep
      refine ⟨_, rfl, .inl ⟨rfl, _, SqL.of hfo2⟩, _, rfl, p0, _, rfl, .inl (SqL.of hp2), fo, _, _, rfl, rfl, hfo2, ?_, ?_⟩
      · rw [List.length_map]
        omega
      refine ⟨_, rfl, .inl ⟨rfl, _, SqL.of upd_same⟩, _, rfl, fo, p0, _, _, rfl, rfl, upd_same, (upd_ne pfo).trans hp2, ?_, ?_⟩
      · rw [List.length_append, List.length_map, List.length_map, List.length_singleton]
        omega
      · exact ⟨last (congrArg vN eat) hkk sH2 hfo2 hp2 pfo, mlt (congrArg vN eat)⟩
    · have henc : encC (pl, ar, cl) = pl :: ar := by
        unfold encC
        rw [if_neg z]
      have eL0 : xs.flatMap encC = done.flatMap encC ++ pl :: (ar ++ rest.flatMap encC) := by
        rw [eall, henc]
        rfl
      have eL2 : xs.flatMap encC = (done.flatMap encC ++ [pl]) ++ (ar ++ rest.flatMap encC) := by
        rw [eL0, List.append_assoc]
        rfl
      have a0 : atI (vL (xs.flatMap encC)) (((done.flatMap encC).length : Nat) : Int) = some (vN pl) := by
        rw [eL0]
        exact at_mid _ _ _
      have eat : (done.flatMap encC).length + 1 + ar.length = ((done ++ [(pl, ar, cl)]).flatMap encC).length := by
        rw [enext, henc, List.length_cons]
        omega
      refine ⟨_, rfl, _, rfl, a, _, _, _, rfl, rfl, hS3, a0, ?_⟩
      refine ⟨_, rfl, _, 1, rfl, rfl, ?_⟩
      refine ⟨_, rfl, A.tLENGTHS, _, _, _, rfl, rfl, T.sLENGTHS H', lens_at hcl z, ?_⟩
      refine ⟨_, rfl, _, 11, rfl, rfl, _, rfl, if_false_of (decide_eq_false z) ?_⟩
      refine ⟨_, rfl, _, rfl, _, _, rfl, rfl, ?_⟩
      refine ⟨_, rfl, _, rfl, _, rfl, _, rfl, _, rfl, _, rfl, _, rfl, a, _, rfl, hS3, fun lc nlc => ?_⟩
      obtain ⟨k1, l1, pl1, ar1, cl1, F1, st1, c1, g1, g2, g3, g4, g5, qq⟩ := fin ((done.flatMap encC).length + 1) ar.length (vN pl) _ _ rfl rfl eL2 (by rw [List.length_append]; rfl) eat nlc
      refine ⟨k1, l1, pl1, ar1, cl1, F1, st1, c1, g1, g2, g3, g4, g5, fun H2 F2 p0 y1 y2 y3 y4 => ?_⟩
      obtain ⟨p, ep, hkk, sH2, hfo2, hp2, pfo⟩ := qq H2 F2 p0 y1 y2 y3 y4
      obtain rfl : p0 = p := V.ref.inj ep
      refine ⟨_, rfl, .inl ⟨rfl, _, SqL.of hfo2⟩, _, rfl, p0, _, rfl, .inl (SqL.of hp2), fo, _, _, rfl, rfl, hfo2, ?_, ?_⟩
      · rw [List.length_map]
        omega
      refine ⟨_, rfl, .inl ⟨rfl, _, SqL.of upd_same⟩, _, rfl, fo, p0, _, _, rfl, rfl, upd_same, (upd_ne pfo).trans hp2, ?_, ?_⟩
      · rw [List.length_append, List.length_map, List.length_map, List.length_singleton]
        omega
      · exact ⟨last (congrArg vN eat) hkk sH2 hfo2 hp2 pfo, mlt (congrArg vN eat)⟩
end
end Hx
/-! W21: the end. -/
namespace Hx
open PySem PySem.Spec PyProof.Rows L2
theorem txt_mk {K : PySem.W.Frag} {h : Heap} {mg : Str → Option Value} (X : K.In h) (G : h.Ns mainGlobals mg)
    {cField cGame cSearcher cKeeper cRefusal : Addr}
    {f_field_init f_field_bit f_field_place_of f_field_has f_field_beside f_field_grown f_field_is_joined f_field_cells_in f_bits_of f_fewest f_layers_to f_shortest_chain f_group_sizes f_joining_cells f_game_init f_game_side f_game_stones f_game_empty f_game_player_of f_game_winner f_game_standing f_game_copy f_game_can_put f_game_put_stone f_game_take_back f_searcher_init f_searcher_first_win f_searcher_looked_for f_keeper_init f_refusal_init f_need f_cells_told f_call_begin f_call_play f_call_swap f_call_undo f_call_look f_call_rows f_call_lacks f_call_chain f_call_groups f_call_threats f_call_best f_call_try f_answered f_answers : Addr}
    {tLENGTHS tCALLS : Addr}
    {od_field_init an_field_init od_field_bit an_field_bit od_field_place_of an_field_place_of od_field_has an_field_has od_field_beside an_field_beside od_field_grown an_field_grown od_field_is_joined an_field_is_joined od_field_cells_in an_field_cells_in od_bits_of an_bits_of od_fewest an_fewest od_layers_to an_layers_to od_shortest_chain an_shortest_chain od_group_sizes an_group_sizes od_joining_cells an_joining_cells od_game_init an_game_init od_game_side an_game_side od_game_stones an_game_stones od_game_empty an_game_empty od_game_player_of an_game_player_of od_game_winner an_game_winner od_game_standing an_game_standing od_game_copy an_game_copy od_game_can_put an_game_can_put od_game_put_stone an_game_put_stone od_game_take_back an_game_take_back od_searcher_init an_searcher_init od_searcher_first_win an_searcher_first_win od_searcher_looked_for an_searcher_looked_for od_keeper_init an_keeper_init od_need an_need od_cells_told an_cells_told od_call_begin an_call_begin od_call_play an_call_play od_call_swap an_call_swap od_call_undo an_call_undo od_call_look an_call_look od_call_rows an_call_rows od_call_lacks an_call_lacks od_call_chain an_call_chain od_call_groups an_call_groups od_call_threats an_call_threats od_call_best an_call_best od_call_try an_call_try od_answered an_answered od_answers an_answers : Option Addr}
    {sl_field_init sl_field_bit sl_field_place_of sl_field_has sl_field_beside sl_field_grown sl_field_is_joined sl_field_cells_in sl_bits_of sl_fewest sl_layers_to sl_shortest_chain sl_group_sizes sl_joining_cells sl_game_init sl_game_side sl_game_stones sl_game_empty sl_game_player_of sl_game_winner sl_game_standing sl_game_copy sl_game_can_put sl_game_put_stone sl_game_take_back sl_searcher_init sl_searcher_first_win sl_searcher_looked_for sl_keeper_init sl_need sl_cells_told sl_call_begin sl_call_play sl_call_swap sl_call_undo sl_call_look sl_call_rows sl_call_lacks sl_call_chain sl_call_groups sl_call_threats sl_call_best sl_call_try sl_answered sl_answers : Array (Option Value)}
    {oc_field_init kV_field_init dc_field_init pm_field_init cd_field_init ct_field_init oc_field_bit kV_field_bit dc_field_bit pm_field_bit cd_field_bit ct_field_bit oc_field_place_of kV_field_place_of dc_field_place_of pm_field_place_of cd_field_place_of ct_field_place_of oc_field_has kV_field_has dc_field_has pm_field_has cd_field_has ct_field_has oc_field_beside kV_field_beside dc_field_beside pm_field_beside cd_field_beside ct_field_beside oc_field_grown kV_field_grown dc_field_grown pm_field_grown cd_field_grown ct_field_grown oc_field_is_joined kV_field_is_joined dc_field_is_joined pm_field_is_joined cd_field_is_joined ct_field_is_joined oc_field_cells_in kV_field_cells_in dc_field_cells_in pm_field_cells_in cd_field_cells_in ct_field_cells_in oc_bits_of kV_bits_of dc_bits_of pm_bits_of cd_bits_of ct_bits_of oc_fewest kV_fewest dc_fewest pm_fewest cd_fewest ct_fewest oc_layers_to kV_layers_to dc_layers_to pm_layers_to cd_layers_to ct_layers_to oc_shortest_chain kV_shortest_chain dc_shortest_chain pm_shortest_chain cd_shortest_chain ct_shortest_chain oc_group_sizes kV_group_sizes dc_group_sizes pm_group_sizes cd_group_sizes ct_group_sizes oc_joining_cells kV_joining_cells dc_joining_cells pm_joining_cells cd_joining_cells ct_joining_cells oc_game_init kV_game_init dc_game_init pm_game_init cd_game_init ct_game_init oc_game_side kV_game_side dc_game_side pm_game_side cd_game_side ct_game_side oc_game_stones kV_game_stones dc_game_stones pm_game_stones cd_game_stones ct_game_stones oc_game_empty kV_game_empty dc_game_empty pm_game_empty cd_game_empty ct_game_empty oc_game_player_of kV_game_player_of dc_game_player_of pm_game_player_of cd_game_player_of ct_game_player_of oc_game_winner kV_game_winner dc_game_winner pm_game_winner cd_game_winner ct_game_winner oc_game_standing kV_game_standing dc_game_standing pm_game_standing cd_game_standing ct_game_standing oc_game_copy kV_game_copy dc_game_copy pm_game_copy cd_game_copy ct_game_copy oc_game_can_put kV_game_can_put dc_game_can_put pm_game_can_put cd_game_can_put ct_game_can_put oc_game_put_stone kV_game_put_stone dc_game_put_stone pm_game_put_stone cd_game_put_stone ct_game_put_stone oc_game_take_back kV_game_take_back dc_game_take_back pm_game_take_back cd_game_take_back ct_game_take_back oc_searcher_init kV_searcher_init dc_searcher_init pm_searcher_init cd_searcher_init ct_searcher_init oc_searcher_first_win kV_searcher_first_win dc_searcher_first_win pm_searcher_first_win cd_searcher_first_win ct_searcher_first_win oc_searcher_looked_for kV_searcher_looked_for dc_searcher_looked_for pm_searcher_looked_for cd_searcher_looked_for ct_searcher_looked_for oc_keeper_init kV_keeper_init dc_keeper_init pm_keeper_init cd_keeper_init ct_keeper_init oc_need kV_need dc_need pm_need cd_need ct_need oc_cells_told kV_cells_told dc_cells_told pm_cells_told cd_cells_told ct_cells_told oc_call_begin kV_call_begin dc_call_begin pm_call_begin cd_call_begin ct_call_begin oc_call_play kV_call_play dc_call_play pm_call_play cd_call_play ct_call_play oc_call_swap kV_call_swap dc_call_swap pm_call_swap cd_call_swap ct_call_swap oc_call_undo kV_call_undo dc_call_undo pm_call_undo cd_call_undo ct_call_undo oc_call_look kV_call_look dc_call_look pm_call_look cd_call_look ct_call_look oc_call_rows kV_call_rows dc_call_rows pm_call_rows cd_call_rows ct_call_rows oc_call_lacks kV_call_lacks dc_call_lacks pm_call_lacks cd_call_lacks ct_call_lacks oc_call_chain kV_call_chain dc_call_chain pm_call_chain cd_call_chain ct_call_chain oc_call_groups kV_call_groups dc_call_groups pm_call_groups cd_call_groups ct_call_groups oc_call_threats kV_call_threats dc_call_threats pm_call_threats cd_call_threats ct_call_threats oc_call_best kV_call_best dc_call_best pm_call_best cd_call_best ct_call_best oc_call_try kV_call_try dc_call_try pm_call_try cd_call_try ct_call_try oc_answered kV_answered dc_answered pm_answered cd_answered ct_answered oc_answers kV_answers dc_answers pm_answers cd_answers ct_answers : Value}
    {nm q : Str} {NN : Addr} {bs : List Value} {sn : List Str} {sub : List Value} {ab : Bool} {col : Option Bool} {ddd : Option Addr} {m0 m1 m2 m3 m5 : Option Value} {roc rdc rpm rcd rct : Value} {rod ran : Option Addr} {rsl : Array (Option Value)}
    {tNOBODY tLEAST_SIZE tMOST_SIZE tMOST_SEARCHED tMOST_EMPTY tSIDES tBEGIN tTRY tl0 tl1 tl2 tl3 tl4 tl5 tl6 tl7 tl8 tl9 tl10 tl11 : Tok}
    {odL odS : Option Addr} {nL nS : Nat} {slL slS : Array (Option Value)}
    (aCField : PySem.W.nsIn K mainGlobals "Field" = some (some (.ref cField)))
    (pgField : PySem.W.plainGet K cField Str.empty = true)
    (hdField : PySem.W.hasDictIn K cField = true)
    (poField : PySem.W.plainOver K cField = true)
    (saField : PySem.W.findIn K (.ref cField) "__setattr__" = some (some (.builtin "object.__setattr__")))
    (mmField : PySem.W.makesIn K cField = true)
    (kcField : PySem.W.keepIn K (.ref cField) = true)
    (nField_size : PySem.W.findIn K (.ref cField) "size" = some none)
    (nField_bits : PySem.W.findIn K (.ref cField) "bits" = some none)
    (nField_all_cells : PySem.W.findIn K (.ref cField) "all_cells" = some none)
    (nField_firsts : PySem.W.findIn K (.ref cField) "firsts" = some none)
    (nField_others : PySem.W.findIn K (.ref cField) "others" = some none)
    (aCGame : PySem.W.nsIn K mainGlobals "Game" = some (some (.ref cGame)))
    (pgGame : PySem.W.plainGet K cGame Str.empty = true)
    (hdGame : PySem.W.hasDictIn K cGame = true)
    (poGame : PySem.W.plainOver K cGame = true)
    (saGame : PySem.W.findIn K (.ref cGame) "__setattr__" = some (some (.builtin "object.__setattr__")))
    (mmGame : PySem.W.makesIn K cGame = true)
    (kcGame : PySem.W.keepIn K (.ref cGame) = true)
    (nGame_field : PySem.W.findIn K (.ref cGame) "field" = some none)
    (nGame_put : PySem.W.findIn K (.ref cGame) "put" = some none)
    (nGame_is_swapped : PySem.W.findIn K (.ref cGame) "is_swapped" = some none)
    (aCSearcher : PySem.W.nsIn K mainGlobals "Searcher" = some (some (.ref cSearcher)))
    (pgSearcher : PySem.W.plainGet K cSearcher Str.empty = true)
    (hdSearcher : PySem.W.hasDictIn K cSearcher = true)
    (poSearcher : PySem.W.plainOver K cSearcher = true)
    (saSearcher : PySem.W.findIn K (.ref cSearcher) "__setattr__" = some (some (.builtin "object.__setattr__")))
    (mmSearcher : PySem.W.makesIn K cSearcher = true)
    (kcSearcher : PySem.W.keepIn K (.ref cSearcher) = true)
    (nSearcher_known : PySem.W.findIn K (.ref cSearcher) "known" = some none)
    (aCKeeper : PySem.W.nsIn K mainGlobals "Keeper" = some (some (.ref cKeeper)))
    (pgKeeper : PySem.W.plainGet K cKeeper Str.empty = true)
    (hdKeeper : PySem.W.hasDictIn K cKeeper = true)
    (poKeeper : PySem.W.plainOver K cKeeper = true)
    (saKeeper : PySem.W.findIn K (.ref cKeeper) "__setattr__" = some (some (.builtin "object.__setattr__")))
    (mmKeeper : PySem.W.makesIn K cKeeper = true)
    (kcKeeper : PySem.W.keepIn K (.ref cKeeper) = true)
    (nKeeper_game : PySem.W.findIn K (.ref cKeeper) "game" = some none)
    (nKeeper_searcher : PySem.W.findIn K (.ref cKeeper) "searcher" = some none)
    (a_field_init : PySem.W.findIn K (.ref cField) "__init__" = some (some (.ref f_field_init)))
    (i_field_init : PySem.W.isFn K (.ref f_field_init) = true)
    (l_field_init : K.lookup f_field_init = some ⟨oc_field_init, od_field_init, .func (PySem.W.fnOf "__init__" "Field.__init__" (defArgs s_field_init) (defBody s_field_init) (defScope s_field_init) .none kV_field_init dc_field_init pm_field_init an_field_init cd_field_init ct_field_init), sl_field_init⟩)
    (c_field_init : PySem.W.codeIn K cd_field_init "Field.__init__" = true)
    (k_field_init : PySem.W.keepIn K (.ref f_field_init) = true)
    (a_field_bit : PySem.W.findIn K (.ref cField) "bit" = some (some (.ref f_field_bit)))
    (i_field_bit : PySem.W.isFn K (.ref f_field_bit) = true)
    (l_field_bit : K.lookup f_field_bit = some ⟨oc_field_bit, od_field_bit, .func (PySem.W.fnOf "bit" "Field.bit" (defArgs s_field_bit) (defBody s_field_bit) (defScope s_field_bit) .none kV_field_bit dc_field_bit pm_field_bit an_field_bit cd_field_bit ct_field_bit), sl_field_bit⟩)
    (c_field_bit : PySem.W.codeIn K cd_field_bit "Field.bit" = true)
    (k_field_bit : PySem.W.keepIn K (.ref f_field_bit) = true)
    (a_field_place_of : PySem.W.findIn K (.ref cField) "place_of" = some (some (.ref f_field_place_of)))
    (i_field_place_of : PySem.W.isFn K (.ref f_field_place_of) = true)
    (l_field_place_of : K.lookup f_field_place_of = some ⟨oc_field_place_of, od_field_place_of, .func (PySem.W.fnOf "place_of" "Field.place_of" (defArgs s_field_place_of) (defBody s_field_place_of) (defScope s_field_place_of) .none kV_field_place_of dc_field_place_of pm_field_place_of an_field_place_of cd_field_place_of ct_field_place_of), sl_field_place_of⟩)
    (c_field_place_of : PySem.W.codeIn K cd_field_place_of "Field.place_of" = true)
    (k_field_place_of : PySem.W.keepIn K (.ref f_field_place_of) = true)
    (a_field_has : PySem.W.findIn K (.ref cField) "has" = some (some (.ref f_field_has)))
    (i_field_has : PySem.W.isFn K (.ref f_field_has) = true)
    (l_field_has : K.lookup f_field_has = some ⟨oc_field_has, od_field_has, .func (PySem.W.fnOf "has" "Field.has" (defArgs s_field_has) (defBody s_field_has) (defScope s_field_has) .none kV_field_has dc_field_has pm_field_has an_field_has cd_field_has ct_field_has), sl_field_has⟩)
    (c_field_has : PySem.W.codeIn K cd_field_has "Field.has" = true)
    (k_field_has : PySem.W.keepIn K (.ref f_field_has) = true)
    (a_field_beside : PySem.W.findIn K (.ref cField) "beside" = some (some (.ref f_field_beside)))
    (i_field_beside : PySem.W.isFn K (.ref f_field_beside) = true)
    (l_field_beside : K.lookup f_field_beside = some ⟨oc_field_beside, od_field_beside, .func (PySem.W.fnOf "beside" "Field.beside" (defArgs s_field_beside) (defBody s_field_beside) (defScope s_field_beside) .none kV_field_beside dc_field_beside pm_field_beside an_field_beside cd_field_beside ct_field_beside), sl_field_beside⟩)
    (c_field_beside : PySem.W.codeIn K cd_field_beside "Field.beside" = true)
    (k_field_beside : PySem.W.keepIn K (.ref f_field_beside) = true)
    (a_field_grown : PySem.W.findIn K (.ref cField) "grown" = some (some (.ref f_field_grown)))
    (i_field_grown : PySem.W.isFn K (.ref f_field_grown) = true)
    (l_field_grown : K.lookup f_field_grown = some ⟨oc_field_grown, od_field_grown, .func (PySem.W.fnOf "grown" "Field.grown" (defArgs s_field_grown) (defBody s_field_grown) (defScope s_field_grown) .none kV_field_grown dc_field_grown pm_field_grown an_field_grown cd_field_grown ct_field_grown), sl_field_grown⟩)
    (c_field_grown : PySem.W.codeIn K cd_field_grown "Field.grown" = true)
    (k_field_grown : PySem.W.keepIn K (.ref f_field_grown) = true)
    (a_field_is_joined : PySem.W.findIn K (.ref cField) "is_joined" = some (some (.ref f_field_is_joined)))
    (i_field_is_joined : PySem.W.isFn K (.ref f_field_is_joined) = true)
    (l_field_is_joined : K.lookup f_field_is_joined = some ⟨oc_field_is_joined, od_field_is_joined, .func (PySem.W.fnOf "is_joined" "Field.is_joined" (defArgs s_field_is_joined) (defBody s_field_is_joined) (defScope s_field_is_joined) .none kV_field_is_joined dc_field_is_joined pm_field_is_joined an_field_is_joined cd_field_is_joined ct_field_is_joined), sl_field_is_joined⟩)
    (c_field_is_joined : PySem.W.codeIn K cd_field_is_joined "Field.is_joined" = true)
    (k_field_is_joined : PySem.W.keepIn K (.ref f_field_is_joined) = true)
    (a_field_cells_in : PySem.W.findIn K (.ref cField) "cells_in" = some (some (.ref f_field_cells_in)))
    (i_field_cells_in : PySem.W.isFn K (.ref f_field_cells_in) = true)
    (l_field_cells_in : K.lookup f_field_cells_in = some ⟨oc_field_cells_in, od_field_cells_in, .func (PySem.W.fnOf "cells_in" "Field.cells_in" (defArgs s_field_cells_in) (defBody s_field_cells_in) (defScope s_field_cells_in) .none kV_field_cells_in dc_field_cells_in pm_field_cells_in an_field_cells_in cd_field_cells_in ct_field_cells_in), sl_field_cells_in⟩)
    (c_field_cells_in : PySem.W.codeIn K cd_field_cells_in "Field.cells_in" = true)
    (k_field_cells_in : PySem.W.keepIn K (.ref f_field_cells_in) = true)
    (a_bits_of : PySem.W.nsIn K mainGlobals "bits_of" = some (some (.ref f_bits_of)))
    (l_bits_of : K.lookup f_bits_of = some ⟨oc_bits_of, od_bits_of, .func (PySem.W.fnOf "bits_of" "bits_of" (defArgs s_bits_of) (defBody s_bits_of) (defScope s_bits_of) .none kV_bits_of dc_bits_of pm_bits_of an_bits_of cd_bits_of ct_bits_of), sl_bits_of⟩)
    (c_bits_of : PySem.W.codeIn K cd_bits_of "bits_of" = true)
    (k_bits_of : PySem.W.keepIn K (.ref f_bits_of) = true)
    (a_fewest : PySem.W.nsIn K mainGlobals "fewest" = some (some (.ref f_fewest)))
    (l_fewest : K.lookup f_fewest = some ⟨oc_fewest, od_fewest, .func (PySem.W.fnOf "fewest" "fewest" (defArgs s_fewest) (defBody s_fewest) (defScope s_fewest) .none kV_fewest dc_fewest pm_fewest an_fewest cd_fewest ct_fewest), sl_fewest⟩)
    (c_fewest : PySem.W.codeIn K cd_fewest "fewest" = true)
    (k_fewest : PySem.W.keepIn K (.ref f_fewest) = true)
    (a_layers_to : PySem.W.nsIn K mainGlobals "layers_to" = some (some (.ref f_layers_to)))
    (l_layers_to : K.lookup f_layers_to = some ⟨oc_layers_to, od_layers_to, .func (PySem.W.fnOf "layers_to" "layers_to" (defArgs s_layers_to) (defBody s_layers_to) (defScope s_layers_to) .none kV_layers_to dc_layers_to pm_layers_to an_layers_to cd_layers_to ct_layers_to), sl_layers_to⟩)
    (c_layers_to : PySem.W.codeIn K cd_layers_to "layers_to" = true)
    (k_layers_to : PySem.W.keepIn K (.ref f_layers_to) = true)
    (a_shortest_chain : PySem.W.nsIn K mainGlobals "shortest_chain" = some (some (.ref f_shortest_chain)))
    (l_shortest_chain : K.lookup f_shortest_chain = some ⟨oc_shortest_chain, od_shortest_chain, .func (PySem.W.fnOf "shortest_chain" "shortest_chain" (defArgs s_shortest_chain) (defBody s_shortest_chain) (defScope s_shortest_chain) .none kV_shortest_chain dc_shortest_chain pm_shortest_chain an_shortest_chain cd_shortest_chain ct_shortest_chain), sl_shortest_chain⟩)
    (c_shortest_chain : PySem.W.codeIn K cd_shortest_chain "shortest_chain" = true)
    (k_shortest_chain : PySem.W.keepIn K (.ref f_shortest_chain) = true)
    (a_group_sizes : PySem.W.nsIn K mainGlobals "group_sizes" = some (some (.ref f_group_sizes)))
    (l_group_sizes : K.lookup f_group_sizes = some ⟨oc_group_sizes, od_group_sizes, .func (PySem.W.fnOf "group_sizes" "group_sizes" (defArgs s_group_sizes) (defBody s_group_sizes) (defScope s_group_sizes) .none kV_group_sizes dc_group_sizes pm_group_sizes an_group_sizes cd_group_sizes ct_group_sizes), sl_group_sizes⟩)
    (c_group_sizes : PySem.W.codeIn K cd_group_sizes "group_sizes" = true)
    (k_group_sizes : PySem.W.keepIn K (.ref f_group_sizes) = true)
    (a_joining_cells : PySem.W.nsIn K mainGlobals "joining_cells" = some (some (.ref f_joining_cells)))
    (l_joining_cells : K.lookup f_joining_cells = some ⟨oc_joining_cells, od_joining_cells, .func (PySem.W.fnOf "joining_cells" "joining_cells" (defArgs s_joining_cells) (defBody s_joining_cells) (defScope s_joining_cells) .none kV_joining_cells dc_joining_cells pm_joining_cells an_joining_cells cd_joining_cells ct_joining_cells), sl_joining_cells⟩)
    (c_joining_cells : PySem.W.codeIn K cd_joining_cells "joining_cells" = true)
    (k_joining_cells : PySem.W.keepIn K (.ref f_joining_cells) = true)
    (a_game_init : PySem.W.findIn K (.ref cGame) "__init__" = some (some (.ref f_game_init)))
    (i_game_init : PySem.W.isFn K (.ref f_game_init) = true)
    (l_game_init : K.lookup f_game_init = some ⟨oc_game_init, od_game_init, .func (PySem.W.fnOf "__init__" "Game.__init__" (defArgs s_game_init) (defBody s_game_init) (defScope s_game_init) .none kV_game_init dc_game_init pm_game_init an_game_init cd_game_init ct_game_init), sl_game_init⟩)
    (c_game_init : PySem.W.codeIn K cd_game_init "Game.__init__" = true)
    (k_game_init : PySem.W.keepIn K (.ref f_game_init) = true)
    (a_game_side : PySem.W.findIn K (.ref cGame) "side" = some (some (.ref f_game_side)))
    (i_game_side : PySem.W.isFn K (.ref f_game_side) = true)
    (l_game_side : K.lookup f_game_side = some ⟨oc_game_side, od_game_side, .func (PySem.W.fnOf "side" "Game.side" (defArgs s_game_side) (defBody s_game_side) (defScope s_game_side) .none kV_game_side dc_game_side pm_game_side an_game_side cd_game_side ct_game_side), sl_game_side⟩)
    (c_game_side : PySem.W.codeIn K cd_game_side "Game.side" = true)
    (k_game_side : PySem.W.keepIn K (.ref f_game_side) = true)
    (a_game_stones : PySem.W.findIn K (.ref cGame) "stones" = some (some (.ref f_game_stones)))
    (i_game_stones : PySem.W.isFn K (.ref f_game_stones) = true)
    (l_game_stones : K.lookup f_game_stones = some ⟨oc_game_stones, od_game_stones, .func (PySem.W.fnOf "stones" "Game.stones" (defArgs s_game_stones) (defBody s_game_stones) (defScope s_game_stones) .none kV_game_stones dc_game_stones pm_game_stones an_game_stones cd_game_stones ct_game_stones), sl_game_stones⟩)
    (c_game_stones : PySem.W.codeIn K cd_game_stones "Game.stones" = true)
    (k_game_stones : PySem.W.keepIn K (.ref f_game_stones) = true)
    (a_game_empty : PySem.W.findIn K (.ref cGame) "empty" = some (some (.ref f_game_empty)))
    (i_game_empty : PySem.W.isFn K (.ref f_game_empty) = true)
    (l_game_empty : K.lookup f_game_empty = some ⟨oc_game_empty, od_game_empty, .func (PySem.W.fnOf "empty" "Game.empty" (defArgs s_game_empty) (defBody s_game_empty) (defScope s_game_empty) .none kV_game_empty dc_game_empty pm_game_empty an_game_empty cd_game_empty ct_game_empty), sl_game_empty⟩)
    (c_game_empty : PySem.W.codeIn K cd_game_empty "Game.empty" = true)
    (k_game_empty : PySem.W.keepIn K (.ref f_game_empty) = true)
    (a_game_player_of : PySem.W.findIn K (.ref cGame) "player_of" = some (some (.ref f_game_player_of)))
    (i_game_player_of : PySem.W.isFn K (.ref f_game_player_of) = true)
    (l_game_player_of : K.lookup f_game_player_of = some ⟨oc_game_player_of, od_game_player_of, .func (PySem.W.fnOf "player_of" "Game.player_of" (defArgs s_game_player_of) (defBody s_game_player_of) (defScope s_game_player_of) .none kV_game_player_of dc_game_player_of pm_game_player_of an_game_player_of cd_game_player_of ct_game_player_of), sl_game_player_of⟩)
    (c_game_player_of : PySem.W.codeIn K cd_game_player_of "Game.player_of" = true)
    (k_game_player_of : PySem.W.keepIn K (.ref f_game_player_of) = true)
    (a_game_winner : PySem.W.findIn K (.ref cGame) "winner" = some (some (.ref f_game_winner)))
    (i_game_winner : PySem.W.isFn K (.ref f_game_winner) = true)
    (l_game_winner : K.lookup f_game_winner = some ⟨oc_game_winner, od_game_winner, .func (PySem.W.fnOf "winner" "Game.winner" (defArgs s_game_winner) (defBody s_game_winner) (defScope s_game_winner) .none kV_game_winner dc_game_winner pm_game_winner an_game_winner cd_game_winner ct_game_winner), sl_game_winner⟩)
    (c_game_winner : PySem.W.codeIn K cd_game_winner "Game.winner" = true)
    (k_game_winner : PySem.W.keepIn K (.ref f_game_winner) = true)
    (a_game_standing : PySem.W.findIn K (.ref cGame) "standing" = some (some (.ref f_game_standing)))
    (i_game_standing : PySem.W.isFn K (.ref f_game_standing) = true)
    (l_game_standing : K.lookup f_game_standing = some ⟨oc_game_standing, od_game_standing, .func (PySem.W.fnOf "standing" "Game.standing" (defArgs s_game_standing) (defBody s_game_standing) (defScope s_game_standing) .none kV_game_standing dc_game_standing pm_game_standing an_game_standing cd_game_standing ct_game_standing), sl_game_standing⟩)
    (c_game_standing : PySem.W.codeIn K cd_game_standing "Game.standing" = true)
    (k_game_standing : PySem.W.keepIn K (.ref f_game_standing) = true)
    (a_game_copy : PySem.W.findIn K (.ref cGame) "copy" = some (some (.ref f_game_copy)))
    (i_game_copy : PySem.W.isFn K (.ref f_game_copy) = true)
    (l_game_copy : K.lookup f_game_copy = some ⟨oc_game_copy, od_game_copy, .func (PySem.W.fnOf "copy" "Game.copy" (defArgs s_game_copy) (defBody s_game_copy) (defScope s_game_copy) .none kV_game_copy dc_game_copy pm_game_copy an_game_copy cd_game_copy ct_game_copy), sl_game_copy⟩)
    (c_game_copy : PySem.W.codeIn K cd_game_copy "Game.copy" = true)
    (k_game_copy : PySem.W.keepIn K (.ref f_game_copy) = true)
    (a_game_can_put : PySem.W.findIn K (.ref cGame) "can_put" = some (some (.ref f_game_can_put)))
    (i_game_can_put : PySem.W.isFn K (.ref f_game_can_put) = true)
    (l_game_can_put : K.lookup f_game_can_put = some ⟨oc_game_can_put, od_game_can_put, .func (PySem.W.fnOf "can_put" "Game.can_put" (defArgs s_game_can_put) (defBody s_game_can_put) (defScope s_game_can_put) .none kV_game_can_put dc_game_can_put pm_game_can_put an_game_can_put cd_game_can_put ct_game_can_put), sl_game_can_put⟩)
    (c_game_can_put : PySem.W.codeIn K cd_game_can_put "Game.can_put" = true)
    (k_game_can_put : PySem.W.keepIn K (.ref f_game_can_put) = true)
    (a_game_put_stone : PySem.W.findIn K (.ref cGame) "put_stone" = some (some (.ref f_game_put_stone)))
    (i_game_put_stone : PySem.W.isFn K (.ref f_game_put_stone) = true)
    (l_game_put_stone : K.lookup f_game_put_stone = some ⟨oc_game_put_stone, od_game_put_stone, .func (PySem.W.fnOf "put_stone" "Game.put_stone" (defArgs s_game_put_stone) (defBody s_game_put_stone) (defScope s_game_put_stone) .none kV_game_put_stone dc_game_put_stone pm_game_put_stone an_game_put_stone cd_game_put_stone ct_game_put_stone), sl_game_put_stone⟩)
    (c_game_put_stone : PySem.W.codeIn K cd_game_put_stone "Game.put_stone" = true)
    (k_game_put_stone : PySem.W.keepIn K (.ref f_game_put_stone) = true)
    (a_game_take_back : PySem.W.findIn K (.ref cGame) "take_back" = some (some (.ref f_game_take_back)))
    (i_game_take_back : PySem.W.isFn K (.ref f_game_take_back) = true)
    (l_game_take_back : K.lookup f_game_take_back = some ⟨oc_game_take_back, od_game_take_back, .func (PySem.W.fnOf "take_back" "Game.take_back" (defArgs s_game_take_back) (defBody s_game_take_back) (defScope s_game_take_back) .none kV_game_take_back dc_game_take_back pm_game_take_back an_game_take_back cd_game_take_back ct_game_take_back), sl_game_take_back⟩)
    (c_game_take_back : PySem.W.codeIn K cd_game_take_back "Game.take_back" = true)
    (k_game_take_back : PySem.W.keepIn K (.ref f_game_take_back) = true)
    (a_searcher_init : PySem.W.findIn K (.ref cSearcher) "__init__" = some (some (.ref f_searcher_init)))
    (i_searcher_init : PySem.W.isFn K (.ref f_searcher_init) = true)
    (l_searcher_init : K.lookup f_searcher_init = some ⟨oc_searcher_init, od_searcher_init, .func (PySem.W.fnOf "__init__" "Searcher.__init__" (defArgs s_searcher_init) (defBody s_searcher_init) (defScope s_searcher_init) .none kV_searcher_init dc_searcher_init pm_searcher_init an_searcher_init cd_searcher_init ct_searcher_init), sl_searcher_init⟩)
    (c_searcher_init : PySem.W.codeIn K cd_searcher_init "Searcher.__init__" = true)
    (k_searcher_init : PySem.W.keepIn K (.ref f_searcher_init) = true)
    (a_searcher_first_win : PySem.W.findIn K (.ref cSearcher) "first_win" = some (some (.ref f_searcher_first_win)))
    (i_searcher_first_win : PySem.W.isFn K (.ref f_searcher_first_win) = true)
    (l_searcher_first_win : K.lookup f_searcher_first_win = some ⟨oc_searcher_first_win, od_searcher_first_win, .func (PySem.W.fnOf "first_win" "Searcher.first_win" (defArgs s_searcher_first_win) (defBody s_searcher_first_win) (defScope s_searcher_first_win) .none kV_searcher_first_win dc_searcher_first_win pm_searcher_first_win an_searcher_first_win cd_searcher_first_win ct_searcher_first_win), sl_searcher_first_win⟩)
    (c_searcher_first_win : PySem.W.codeIn K cd_searcher_first_win "Searcher.first_win" = true)
    (k_searcher_first_win : PySem.W.keepIn K (.ref f_searcher_first_win) = true)
    (a_searcher_looked_for : PySem.W.findIn K (.ref cSearcher) "looked_for" = some (some (.ref f_searcher_looked_for)))
    (i_searcher_looked_for : PySem.W.isFn K (.ref f_searcher_looked_for) = true)
    (l_searcher_looked_for : K.lookup f_searcher_looked_for = some ⟨oc_searcher_looked_for, od_searcher_looked_for, .func (PySem.W.fnOf "looked_for" "Searcher.looked_for" (defArgs s_searcher_looked_for) (defBody s_searcher_looked_for) (defScope s_searcher_looked_for) .none kV_searcher_looked_for dc_searcher_looked_for pm_searcher_looked_for an_searcher_looked_for cd_searcher_looked_for ct_searcher_looked_for), sl_searcher_looked_for⟩)
    (c_searcher_looked_for : PySem.W.codeIn K cd_searcher_looked_for "Searcher.looked_for" = true)
    (k_searcher_looked_for : PySem.W.keepIn K (.ref f_searcher_looked_for) = true)
    (a_keeper_init : PySem.W.findIn K (.ref cKeeper) "__init__" = some (some (.ref f_keeper_init)))
    (i_keeper_init : PySem.W.isFn K (.ref f_keeper_init) = true)
    (l_keeper_init : K.lookup f_keeper_init = some ⟨oc_keeper_init, od_keeper_init, .func (PySem.W.fnOf "__init__" "Keeper.__init__" (defArgs s_keeper_init) (defBody s_keeper_init) (defScope s_keeper_init) .none kV_keeper_init dc_keeper_init pm_keeper_init an_keeper_init cd_keeper_init ct_keeper_init), sl_keeper_init⟩)
    (c_keeper_init : PySem.W.codeIn K cd_keeper_init "Keeper.__init__" = true)
    (k_keeper_init : PySem.W.keepIn K (.ref f_keeper_init) = true)
    (a_need : PySem.W.nsIn K mainGlobals "need" = some (some (.ref f_need)))
    (l_need : K.lookup f_need = some ⟨oc_need, od_need, .func (PySem.W.fnOf "need" "need" (defArgs s_need) (defBody s_need) (defScope s_need) .none kV_need dc_need pm_need an_need cd_need ct_need), sl_need⟩)
    (c_need : PySem.W.codeIn K cd_need "need" = true)
    (k_need : PySem.W.keepIn K (.ref f_need) = true)
    (a_cells_told : PySem.W.nsIn K mainGlobals "cells_told" = some (some (.ref f_cells_told)))
    (l_cells_told : K.lookup f_cells_told = some ⟨oc_cells_told, od_cells_told, .func (PySem.W.fnOf "cells_told" "cells_told" (defArgs s_cells_told) (defBody s_cells_told) (defScope s_cells_told) .none kV_cells_told dc_cells_told pm_cells_told an_cells_told cd_cells_told ct_cells_told), sl_cells_told⟩)
    (c_cells_told : PySem.W.codeIn K cd_cells_told "cells_told" = true)
    (k_cells_told : PySem.W.keepIn K (.ref f_cells_told) = true)
    (a_call_begin : PySem.W.nsIn K mainGlobals "call_begin" = some (some (.ref f_call_begin)))
    (l_call_begin : K.lookup f_call_begin = some ⟨oc_call_begin, od_call_begin, .func (PySem.W.fnOf "call_begin" "call_begin" (defArgs s_call_begin) (defBody s_call_begin) (defScope s_call_begin) .none kV_call_begin dc_call_begin pm_call_begin an_call_begin cd_call_begin ct_call_begin), sl_call_begin⟩)
    (c_call_begin : PySem.W.codeIn K cd_call_begin "call_begin" = true)
    (k_call_begin : PySem.W.keepIn K (.ref f_call_begin) = true)
    (a_call_play : PySem.W.nsIn K mainGlobals "call_play" = some (some (.ref f_call_play)))
    (l_call_play : K.lookup f_call_play = some ⟨oc_call_play, od_call_play, .func (PySem.W.fnOf "call_play" "call_play" (defArgs s_call_play) (defBody s_call_play) (defScope s_call_play) .none kV_call_play dc_call_play pm_call_play an_call_play cd_call_play ct_call_play), sl_call_play⟩)
    (c_call_play : PySem.W.codeIn K cd_call_play "call_play" = true)
    (k_call_play : PySem.W.keepIn K (.ref f_call_play) = true)
    (a_call_swap : PySem.W.nsIn K mainGlobals "call_swap" = some (some (.ref f_call_swap)))
    (l_call_swap : K.lookup f_call_swap = some ⟨oc_call_swap, od_call_swap, .func (PySem.W.fnOf "call_swap" "call_swap" (defArgs s_call_swap) (defBody s_call_swap) (defScope s_call_swap) .none kV_call_swap dc_call_swap pm_call_swap an_call_swap cd_call_swap ct_call_swap), sl_call_swap⟩)
    (c_call_swap : PySem.W.codeIn K cd_call_swap "call_swap" = true)
    (k_call_swap : PySem.W.keepIn K (.ref f_call_swap) = true)
    (a_call_undo : PySem.W.nsIn K mainGlobals "call_undo" = some (some (.ref f_call_undo)))
    (l_call_undo : K.lookup f_call_undo = some ⟨oc_call_undo, od_call_undo, .func (PySem.W.fnOf "call_undo" "call_undo" (defArgs s_call_undo) (defBody s_call_undo) (defScope s_call_undo) .none kV_call_undo dc_call_undo pm_call_undo an_call_undo cd_call_undo ct_call_undo), sl_call_undo⟩)
    (c_call_undo : PySem.W.codeIn K cd_call_undo "call_undo" = true)
    (k_call_undo : PySem.W.keepIn K (.ref f_call_undo) = true)
    (a_call_look : PySem.W.nsIn K mainGlobals "call_look" = some (some (.ref f_call_look)))
    (l_call_look : K.lookup f_call_look = some ⟨oc_call_look, od_call_look, .func (PySem.W.fnOf "call_look" "call_look" (defArgs s_call_look) (defBody s_call_look) (defScope s_call_look) .none kV_call_look dc_call_look pm_call_look an_call_look cd_call_look ct_call_look), sl_call_look⟩)
    (c_call_look : PySem.W.codeIn K cd_call_look "call_look" = true)
    (k_call_look : PySem.W.keepIn K (.ref f_call_look) = true)
    (a_call_rows : PySem.W.nsIn K mainGlobals "call_rows" = some (some (.ref f_call_rows)))
    (l_call_rows : K.lookup f_call_rows = some ⟨oc_call_rows, od_call_rows, .func (PySem.W.fnOf "call_rows" "call_rows" (defArgs s_call_rows) (defBody s_call_rows) (defScope s_call_rows) .none kV_call_rows dc_call_rows pm_call_rows an_call_rows cd_call_rows ct_call_rows), sl_call_rows⟩)
    (c_call_rows : PySem.W.codeIn K cd_call_rows "call_rows" = true)
    (k_call_rows : PySem.W.keepIn K (.ref f_call_rows) = true)
    (a_call_lacks : PySem.W.nsIn K mainGlobals "call_lacks" = some (some (.ref f_call_lacks)))
    (l_call_lacks : K.lookup f_call_lacks = some ⟨oc_call_lacks, od_call_lacks, .func (PySem.W.fnOf "call_lacks" "call_lacks" (defArgs s_call_lacks) (defBody s_call_lacks) (defScope s_call_lacks) .none kV_call_lacks dc_call_lacks pm_call_lacks an_call_lacks cd_call_lacks ct_call_lacks), sl_call_lacks⟩)
    (c_call_lacks : PySem.W.codeIn K cd_call_lacks "call_lacks" = true)
    (k_call_lacks : PySem.W.keepIn K (.ref f_call_lacks) = true)
    (a_call_chain : PySem.W.nsIn K mainGlobals "call_chain" = some (some (.ref f_call_chain)))
    (l_call_chain : K.lookup f_call_chain = some ⟨oc_call_chain, od_call_chain, .func (PySem.W.fnOf "call_chain" "call_chain" (defArgs s_call_chain) (defBody s_call_chain) (defScope s_call_chain) .none kV_call_chain dc_call_chain pm_call_chain an_call_chain cd_call_chain ct_call_chain), sl_call_chain⟩)
    (c_call_chain : PySem.W.codeIn K cd_call_chain "call_chain" = true)
    (k_call_chain : PySem.W.keepIn K (.ref f_call_chain) = true)
    (a_call_groups : PySem.W.nsIn K mainGlobals "call_groups" = some (some (.ref f_call_groups)))
    (l_call_groups : K.lookup f_call_groups = some ⟨oc_call_groups, od_call_groups, .func (PySem.W.fnOf "call_groups" "call_groups" (defArgs s_call_groups) (defBody s_call_groups) (defScope s_call_groups) .none kV_call_groups dc_call_groups pm_call_groups an_call_groups cd_call_groups ct_call_groups), sl_call_groups⟩)
    (c_call_groups : PySem.W.codeIn K cd_call_groups "call_groups" = true)
    (k_call_groups : PySem.W.keepIn K (.ref f_call_groups) = true)
    (a_call_threats : PySem.W.nsIn K mainGlobals "call_threats" = some (some (.ref f_call_threats)))
    (l_call_threats : K.lookup f_call_threats = some ⟨oc_call_threats, od_call_threats, .func (PySem.W.fnOf "call_threats" "call_threats" (defArgs s_call_threats) (defBody s_call_threats) (defScope s_call_threats) .none kV_call_threats dc_call_threats pm_call_threats an_call_threats cd_call_threats ct_call_threats), sl_call_threats⟩)
    (c_call_threats : PySem.W.codeIn K cd_call_threats "call_threats" = true)
    (k_call_threats : PySem.W.keepIn K (.ref f_call_threats) = true)
    (a_call_best : PySem.W.nsIn K mainGlobals "call_best" = some (some (.ref f_call_best)))
    (l_call_best : K.lookup f_call_best = some ⟨oc_call_best, od_call_best, .func (PySem.W.fnOf "call_best" "call_best" (defArgs s_call_best) (defBody s_call_best) (defScope s_call_best) .none kV_call_best dc_call_best pm_call_best an_call_best cd_call_best ct_call_best), sl_call_best⟩)
    (c_call_best : PySem.W.codeIn K cd_call_best "call_best" = true)
    (k_call_best : PySem.W.keepIn K (.ref f_call_best) = true)
    (a_call_try : PySem.W.nsIn K mainGlobals "call_try" = some (some (.ref f_call_try)))
    (l_call_try : K.lookup f_call_try = some ⟨oc_call_try, od_call_try, .func (PySem.W.fnOf "call_try" "call_try" (defArgs s_call_try) (defBody s_call_try) (defScope s_call_try) .none kV_call_try dc_call_try pm_call_try an_call_try cd_call_try ct_call_try), sl_call_try⟩)
    (c_call_try : PySem.W.codeIn K cd_call_try "call_try" = true)
    (k_call_try : PySem.W.keepIn K (.ref f_call_try) = true)
    (a_answered : PySem.W.nsIn K mainGlobals "answered" = some (some (.ref f_answered)))
    (l_answered : K.lookup f_answered = some ⟨oc_answered, od_answered, .func (PySem.W.fnOf "answered" "answered" (defArgs s_answered) (defBody s_answered) (defScope s_answered) .none kV_answered dc_answered pm_answered an_answered cd_answered ct_answered), sl_answered⟩)
    (c_answered : PySem.W.codeIn K cd_answered "answered" = true)
    (k_answered : PySem.W.keepIn K (.ref f_answered) = true)
    (a_answers : PySem.W.nsIn K mainGlobals "answers" = some (some (.ref f_answers)))
    (l_answers : K.lookup f_answers = some ⟨oc_answers, od_answers, .func (PySem.W.fnOf "answers" "answers" (defArgs s_answers) (defBody s_answers) (defScope s_answers) .none kV_answers dc_answers pm_answers an_answers cd_answers ct_answers), sl_answers⟩)
    (c_answers : PySem.W.codeIn K cd_answers "answers" = true)
    (k_answers : PySem.W.keepIn K (.ref f_answers) = true)
    (rC : PySem.W.nsIn K mainGlobals "Refusal" = some (some (.ref cRefusal)))
    (rL : K.lookup cRefusal = some (excClassObj nm q cRefusal NN bs [.type "ValueError", .type "Exception", .type "BaseException", .type "object"] true sn sub ab col ddd m0 m1 m2 m3 m5 "ValueError.__new__"))
    (rsa : PySem.W.findIn K (.ref cRefusal) "__setattr__" = some (some (.builtin "object.__setattr__")))
    (rga : PySem.W.findIn K (.ref cRefusal) "__getattribute__" = some (some (.builtin "BaseException.__getattribute__")))
    (rgg : PySem.W.findIn K (.ref cRefusal) "__getattr__" = some none)
    (rnb : PySem.W.findIn K (.ref cRefusal) "number" = some none)
    (ra : PySem.W.findIn K (.ref cRefusal) "__init__" = some (some (.ref f_refusal_init)))
    (rt : PySem.W.typeIn K (.ref f_refusal_init) = some (.type "function"))
    (rl : K.lookup f_refusal_init = some ⟨roc, rod, .func (PySem.W.fnOf "__init__" "Refusal.__init__" (PySem.RefX.iA ⟨165, 17, 165, 21⟩ ⟨165, 23, 165, 29⟩) (PySem.RefX.iB ⟨166, 8, 166, 12⟩ ⟨166, 8, 166, 19⟩ ⟨166, 22, 166, 28⟩ ⟨166, 8, 166, 28⟩) PySem.RefX.iS .none .none rdc rpm ran rcd rct), rsl⟩)
    (rc : PySem.W.codeIn K rcd "Refusal.__init__" = true)
    (rk : PySem.W.keepIn K (.ref cRefusal) = true)
    (re : PySem.W.subIn K (.ref cRefusal) (.type "BaseException") = some true)
    (rty : PySem.W.typeIn K (.ref cRefusal) = some (.type "type"))
    (rh : PySem.W.hasDictIn K cRefusal = true)
    (ri : PySem.W.isClsIn K cRefusal = true)
    (rs : PySem.W.subIn K (.ref cRefusal) (.ref cRefusal) = some true)
    (iNOBODY : PySem.W.nsIn K mainGlobals "NOBODY" = some (some (.int (-1) tNOBODY)))
    (iLEAST_SIZE : PySem.W.nsIn K mainGlobals "LEAST_SIZE" = some (some (.int 2 tLEAST_SIZE)))
    (iMOST_SIZE : PySem.W.nsIn K mainGlobals "MOST_SIZE" = some (some (.int 11 tMOST_SIZE)))
    (iMOST_SEARCHED : PySem.W.nsIn K mainGlobals "MOST_SEARCHED" = some (some (.int 4 tMOST_SEARCHED)))
    (iMOST_EMPTY : PySem.W.nsIn K mainGlobals "MOST_EMPTY" = some (some (.int 9 tMOST_EMPTY)))
    (iSIDES : PySem.W.nsIn K mainGlobals "SIDES" = some (some (.int 2 tSIDES)))
    (iBEGIN : PySem.W.nsIn K mainGlobals "BEGIN" = some (some (.int 0 tBEGIN)))
    (iTRY : PySem.W.nsIn K mainGlobals "TRY" = some (some (.int 11 tTRY)))
    (b_sum : PySem.W.nsIn K mainGlobals "sum" = some none)
    (b_len : PySem.W.nsIn K mainGlobals "len" = some none)
    (b_int : PySem.W.nsIn K mainGlobals "int" = some none)
    (b_list : PySem.W.nsIn K mainGlobals "list" = some none)
    (b_range : PySem.W.nsIn K mainGlobals "range" = some none)
    (b_reversed : PySem.W.nsIn K mainGlobals "reversed" = some none)
    (aL : PySem.W.nsIn K mainGlobals "LENGTHS" = some (some (.ref tLENGTHS)))
    (lL : K.lookup tLENGTHS = some ⟨.type "tuple", odL, .seq (#[.int 1 tl0, .int 2 tl1, .int 0 tl2, .int 0 tl3, .int 0 tl4, .int 0 tl5, .int 1 tl6, .int 0 tl7, .int 1 tl8, .int 1 tl9, .int 0 tl10, .int 0 tl11]) nL, slL⟩)
    (aS : PySem.W.nsIn K mainGlobals "CALLS" = some (some (.ref tCALLS)))
    (lS : K.lookup tCALLS = some ⟨.type "tuple", odS, .seq (#[.ref f_call_begin, .ref f_call_play, .ref f_call_swap, .ref f_call_undo, .ref f_call_look, .ref f_call_rows, .ref f_call_lacks, .ref f_call_chain, .ref f_call_groups, .ref f_call_threats, .ref f_call_best, .ref f_call_try]) nS, slS⟩)
    : Txt K mg { cField := cField, cGame := cGame, cSearcher := cSearcher, cKeeper := cKeeper, cRefusal := cRefusal, f_field_init := f_field_init, f_field_bit := f_field_bit, f_field_place_of := f_field_place_of, f_field_has := f_field_has, f_field_beside := f_field_beside, f_field_grown := f_field_grown, f_field_is_joined := f_field_is_joined, f_field_cells_in := f_field_cells_in, f_bits_of := f_bits_of, f_fewest := f_fewest, f_layers_to := f_layers_to, f_shortest_chain := f_shortest_chain, f_group_sizes := f_group_sizes, f_joining_cells := f_joining_cells, f_game_init := f_game_init, f_game_side := f_game_side, f_game_stones := f_game_stones, f_game_empty := f_game_empty, f_game_player_of := f_game_player_of, f_game_winner := f_game_winner, f_game_standing := f_game_standing, f_game_copy := f_game_copy, f_game_can_put := f_game_can_put, f_game_put_stone := f_game_put_stone, f_game_take_back := f_game_take_back, f_searcher_init := f_searcher_init, f_searcher_first_win := f_searcher_first_win, f_searcher_looked_for := f_searcher_looked_for, f_keeper_init := f_keeper_init, f_refusal_init := f_refusal_init, f_need := f_need, f_cells_told := f_cells_told, f_call_begin := f_call_begin, f_call_play := f_call_play, f_call_swap := f_call_swap, f_call_undo := f_call_undo, f_call_look := f_call_look, f_call_rows := f_call_rows, f_call_lacks := f_call_lacks, f_call_chain := f_call_chain, f_call_groups := f_call_groups, f_call_threats := f_call_threats, f_call_best := f_call_best, f_call_try := f_call_try, f_answered := f_answered, f_answers := f_answers, tLENGTHS := tLENGTHS, tCALLS := tCALLS } := by
  have F_field_init := fun_mk (st := s_field_init) l_field_init c_field_init k_field_init
  have B_field_init := F_field_init.binds (ps := ["self", "size"]) fun _ _ _ _ _ _ us hl => match us, hl with | [_, _], _ => rfl
  have F_field_bit := fun_mk (st := s_field_bit) l_field_bit c_field_bit k_field_bit
  have B_field_bit := F_field_bit.binds (ps := ["self", "row", "column"]) fun _ _ _ _ _ _ us hl => match us, hl with | [_, _, _], _ => rfl
  have F_field_place_of := fun_mk (st := s_field_place_of) l_field_place_of c_field_place_of k_field_place_of
  have B_field_place_of := F_field_place_of.binds (ps := ["self", "bit"]) fun _ _ _ _ _ _ us hl => match us, hl with | [_, _], _ => rfl
  have F_field_has := fun_mk (st := s_field_has) l_field_has c_field_has k_field_has
  have B_field_has := F_field_has.binds (ps := ["self", "row", "column"]) fun _ _ _ _ _ _ us hl => match us, hl with | [_, _, _], _ => rfl
  have F_field_beside := fun_mk (st := s_field_beside) l_field_beside c_field_beside k_field_beside
  have B_field_beside := F_field_beside.binds (ps := ["self", "some"]) fun _ _ _ _ _ _ us hl => match us, hl with | [_, _], _ => rfl
  have F_field_grown := fun_mk (st := s_field_grown) l_field_grown c_field_grown k_field_grown
  have B_field_grown := F_field_grown.binds (ps := ["self", "begin", "stones"]) fun _ _ _ _ _ _ us hl => match us, hl with | [_, _, _], _ => rfl
  have F_field_is_joined := fun_mk (st := s_field_is_joined) l_field_is_joined c_field_is_joined k_field_is_joined
  have B_field_is_joined := F_field_is_joined.binds (ps := ["self", "side", "stones"]) fun _ _ _ _ _ _ us hl => match us, hl with | [_, _, _], _ => rfl
  have F_field_cells_in := fun_mk (st := s_field_cells_in) l_field_cells_in c_field_cells_in k_field_cells_in
  have B_field_cells_in := F_field_cells_in.binds (ps := ["self", "some"]) fun _ _ _ _ _ _ us hl => match us, hl with | [_, _], _ => rfl
  have F_bits_of := fun_mk (st := s_bits_of) l_bits_of c_bits_of k_bits_of
  have B_bits_of := F_bits_of.binds (ps := ["size"]) fun _ _ _ _ _ _ us hl => match us, hl with | [_], _ => rfl
  have F_fewest := fun_mk (st := s_fewest) l_fewest c_fewest k_fewest
  have B_fewest := F_fewest.binds (ps := ["field", "side", "stones", "empty"]) fun _ _ _ _ _ _ us hl => match us, hl with | [_, _, _, _], _ => rfl
  have F_layers_to := fun_mk (st := s_layers_to) l_layers_to c_layers_to k_layers_to
  have B_layers_to := F_layers_to.binds (ps := ["field", "side", "stones"]) fun _ _ _ _ _ _ us hl => match us, hl with | [_, _, _], _ => rfl
  have F_shortest_chain := fun_mk (st := s_shortest_chain) l_shortest_chain c_shortest_chain k_shortest_chain
  have B_shortest_chain := F_shortest_chain.binds (ps := ["field", "side", "stones"]) fun _ _ _ _ _ _ us hl => match us, hl with | [_, _, _], _ => rfl
  have F_group_sizes := fun_mk (st := s_group_sizes) l_group_sizes c_group_sizes k_group_sizes
  have B_group_sizes := F_group_sizes.binds (ps := ["field", "stones"]) fun _ _ _ _ _ _ us hl => match us, hl with | [_, _], _ => rfl
  have F_joining_cells := fun_mk (st := s_joining_cells) l_joining_cells c_joining_cells k_joining_cells
  have B_joining_cells := F_joining_cells.binds (ps := ["field", "side", "stones", "empty"]) fun _ _ _ _ _ _ us hl => match us, hl with | [_, _, _, _], _ => rfl
  have F_game_init := fun_mk (st := s_game_init) l_game_init c_game_init k_game_init
  have B_game_init := F_game_init.binds (ps := ["self", "size"]) fun _ _ _ _ _ _ us hl => match us, hl with | [_, _], _ => rfl
  have F_game_side := fun_mk (st := s_game_side) l_game_side c_game_side k_game_side
  have B_game_side := F_game_side.binds (ps := ["self"]) fun _ _ _ _ _ _ us hl => match us, hl with | [_], _ => rfl
  have F_game_stones := fun_mk (st := s_game_stones) l_game_stones c_game_stones k_game_stones
  have B_game_stones := F_game_stones.binds (ps := ["self", "side"]) fun _ _ _ _ _ _ us hl => match us, hl with | [_, _], _ => rfl
  have F_game_empty := fun_mk (st := s_game_empty) l_game_empty c_game_empty k_game_empty
  have B_game_empty := F_game_empty.binds (ps := ["self"]) fun _ _ _ _ _ _ us hl => match us, hl with | [_], _ => rfl
  have F_game_player_of := fun_mk (st := s_game_player_of) l_game_player_of c_game_player_of k_game_player_of
  have B_game_player_of := F_game_player_of.binds (ps := ["self", "side"]) fun _ _ _ _ _ _ us hl => match us, hl with | [_, _], _ => rfl
  have F_game_winner := fun_mk (st := s_game_winner) l_game_winner c_game_winner k_game_winner
  have B_game_winner := F_game_winner.binds (ps := ["self"]) fun _ _ _ _ _ _ us hl => match us, hl with | [_], _ => rfl
  have F_game_standing := fun_mk (st := s_game_standing) l_game_standing c_game_standing k_game_standing
  have B_game_standing := F_game_standing.binds (ps := ["self"]) fun _ _ _ _ _ _ us hl => match us, hl with | [_], _ => rfl
  have F_game_copy := fun_mk (st := s_game_copy) l_game_copy c_game_copy k_game_copy
  have B_game_copy := F_game_copy.binds (ps := ["self"]) fun _ _ _ _ _ _ us hl => match us, hl with | [_], _ => rfl
  have F_game_can_put := fun_mk (st := s_game_can_put) l_game_can_put c_game_can_put k_game_can_put
  have B_game_can_put := F_game_can_put.binds (ps := ["self", "row", "column"]) fun _ _ _ _ _ _ us hl => match us, hl with | [_, _, _], _ => rfl
  have F_game_put_stone := fun_mk (st := s_game_put_stone) l_game_put_stone c_game_put_stone k_game_put_stone
  have B_game_put_stone := F_game_put_stone.binds (ps := ["self", "row", "column"]) fun _ _ _ _ _ _ us hl => match us, hl with | [_, _, _], _ => rfl
  have F_game_take_back := fun_mk (st := s_game_take_back) l_game_take_back c_game_take_back k_game_take_back
  have B_game_take_back := F_game_take_back.binds (ps := ["self"]) fun _ _ _ _ _ _ us hl => match us, hl with | [_], _ => rfl
  have F_searcher_init := fun_mk (st := s_searcher_init) l_searcher_init c_searcher_init k_searcher_init
  have B_searcher_init := F_searcher_init.binds (ps := ["self"]) fun _ _ _ _ _ _ us hl => match us, hl with | [_], _ => rfl
  have F_searcher_first_win := fun_mk (st := s_searcher_first_win) l_searcher_first_win c_searcher_first_win k_searcher_first_win
  have B_searcher_first_win := F_searcher_first_win.binds (ps := ["self", "field", "side", "mine", "yours"]) fun _ _ _ _ _ _ us hl => match us, hl with | [_, _, _, _, _], _ => rfl
  have F_searcher_looked_for := fun_mk (st := s_searcher_looked_for) l_searcher_looked_for c_searcher_looked_for k_searcher_looked_for
  have B_searcher_looked_for := F_searcher_looked_for.binds (ps := ["self", "field", "side", "mine", "yours"]) fun _ _ _ _ _ _ us hl => match us, hl with | [_, _, _, _, _], _ => rfl
  have F_keeper_init := fun_mk (st := s_keeper_init) l_keeper_init c_keeper_init k_keeper_init
  have B_keeper_init := F_keeper_init.binds (ps := ["self"]) fun _ _ _ _ _ _ us hl => match us, hl with | [_], _ => rfl
  have F_need := fun_mk (st := s_need) l_need c_need k_need
  have B_need := F_need.binds (ps := ["truth", "number"]) fun _ _ _ _ _ _ us hl => match us, hl with | [_, _], _ => rfl
  have F_cells_told := fun_mk (st := s_cells_told) l_cells_told c_cells_told k_cells_told
  have B_cells_told := F_cells_told.binds (ps := ["field", "bits"]) fun _ _ _ _ _ _ us hl => match us, hl with | [_, _], _ => rfl
  have F_call_begin := fun_mk (st := s_call_begin) l_call_begin c_call_begin k_call_begin
  have B_call_begin := F_call_begin.binds (ps := ["keeper", "numbers"]) fun _ _ _ _ _ _ us hl => match us, hl with | [_, _], _ => rfl
  have F_call_play := fun_mk (st := s_call_play) l_call_play c_call_play k_call_play
  have B_call_play := F_call_play.binds (ps := ["keeper", "numbers"]) fun _ _ _ _ _ _ us hl => match us, hl with | [_, _], _ => rfl
  have F_call_swap := fun_mk (st := s_call_swap) l_call_swap c_call_swap k_call_swap
  have B_call_swap := F_call_swap.binds (ps := ["keeper", "numbers"]) fun _ _ _ _ _ _ us hl => match us, hl with | [_, _], _ => rfl
  have F_call_undo := fun_mk (st := s_call_undo) l_call_undo c_call_undo k_call_undo
  have B_call_undo := F_call_undo.binds (ps := ["keeper", "numbers"]) fun _ _ _ _ _ _ us hl => match us, hl with | [_, _], _ => rfl
  have F_call_look := fun_mk (st := s_call_look) l_call_look c_call_look k_call_look
  have B_call_look := F_call_look.binds (ps := ["keeper", "numbers"]) fun _ _ _ _ _ _ us hl => match us, hl with | [_, _], _ => rfl
  have F_call_rows := fun_mk (st := s_call_rows) l_call_rows c_call_rows k_call_rows
  have B_call_rows := F_call_rows.binds (ps := ["keeper", "numbers"]) fun _ _ _ _ _ _ us hl => match us, hl with | [_, _], _ => rfl
  have F_call_lacks := fun_mk (st := s_call_lacks) l_call_lacks c_call_lacks k_call_lacks
  have B_call_lacks := F_call_lacks.binds (ps := ["keeper", "numbers"]) fun _ _ _ _ _ _ us hl => match us, hl with | [_, _], _ => rfl
  have F_call_chain := fun_mk (st := s_call_chain) l_call_chain c_call_chain k_call_chain
  have B_call_chain := F_call_chain.binds (ps := ["keeper", "numbers"]) fun _ _ _ _ _ _ us hl => match us, hl with | [_, _], _ => rfl
  have F_call_groups := fun_mk (st := s_call_groups) l_call_groups c_call_groups k_call_groups
  have B_call_groups := F_call_groups.binds (ps := ["keeper", "numbers"]) fun _ _ _ _ _ _ us hl => match us, hl with | [_, _], _ => rfl
  have F_call_threats := fun_mk (st := s_call_threats) l_call_threats c_call_threats k_call_threats
  have B_call_threats := F_call_threats.binds (ps := ["keeper", "numbers"]) fun _ _ _ _ _ _ us hl => match us, hl with | [_, _], _ => rfl
  have F_call_best := fun_mk (st := s_call_best) l_call_best c_call_best k_call_best
  have B_call_best := F_call_best.binds (ps := ["keeper", "numbers"]) fun _ _ _ _ _ _ us hl => match us, hl with | [_, _], _ => rfl
  have F_call_try := fun_mk (st := s_call_try) l_call_try c_call_try k_call_try
  have B_call_try := F_call_try.binds (ps := ["keeper", "numbers"]) fun _ _ _ _ _ _ us hl => match us, hl with | [_, _], _ => rfl
  have F_answered := fun_mk (st := s_answered) l_answered c_answered k_answered
  have B_answered := F_answered.binds (ps := ["keeper", "place", "numbers"]) fun _ _ _ _ _ _ us hl => match us, hl with | [_, _, _], _ => rfl
  have F_answers := fun_mk (st := s_answers) l_answers c_answers k_answers
  have B_answers := F_answers.binds (ps := ["calls"]) fun _ _ _ _ _ _ us hl => match us, hl with | [_], _ => rfl
  have low : PySem.RefX.RefTxt K mg cRefusal f_refusal_init :=
    { gC := PySem.W.mg_of X G rC, cls := ⟨nm, q, NN, bs, _, sn, sub, ab, col, ddd, m0, m1, m2, m3, m5, rL, by decide +kernel⟩, sa := rsa, ga := rga, gg := rgg, noN := rnb, iC := ra, tC := rt, kC := rk, exC := re, tyC := rty, hdC := rh, te := exm_self re ri rty rs,
      fn := ⟨_, _, _, _, _, _, _, _, _, _, _, _, _, _, rl, rc⟩ }
  exact {
    clField := ⟨pgField, hdField, poField, saField⟩,
    mkField := ⟨mmField, a_field_init, i_field_init, kcField⟩,
    gField := PySem.W.mg_of X G aCField,
    nField_size := nField_size,
    nField_bits := nField_bits,
    nField_all_cells := nField_all_cells,
    nField_firsts := nField_firsts,
    nField_others := nField_others,
    clGame := ⟨pgGame, hdGame, poGame, saGame⟩,
    mkGame := ⟨mmGame, a_game_init, i_game_init, kcGame⟩,
    gGame := PySem.W.mg_of X G aCGame,
    nGame_field := nGame_field,
    nGame_put := nGame_put,
    nGame_is_swapped := nGame_is_swapped,
    clSearcher := ⟨pgSearcher, hdSearcher, poSearcher, saSearcher⟩,
    mkSearcher := ⟨mmSearcher, a_searcher_init, i_searcher_init, kcSearcher⟩,
    gSearcher := PySem.W.mg_of X G aCSearcher,
    nSearcher_known := nSearcher_known,
    clKeeper := ⟨pgKeeper, hdKeeper, poKeeper, saKeeper⟩,
    mkKeeper := ⟨mmKeeper, a_keeper_init, i_keeper_init, kcKeeper⟩,
    gKeeper := PySem.W.mg_of X G aCKeeper,
    nKeeper_game := nKeeper_game,
    nKeeper_searcher := nKeeper_searcher,
    ref := low,
    d_field_init := ⟨_, F_field_init, B_field_init⟩,
    d_field_bit := ⟨_, F_field_bit, B_field_bit⟩,
    m_field_bit := ⟨a_field_bit, i_field_bit, k_field_bit⟩,
    d_field_place_of := ⟨_, F_field_place_of, B_field_place_of⟩,
    m_field_place_of := ⟨a_field_place_of, i_field_place_of, k_field_place_of⟩,
    d_field_has := ⟨_, F_field_has, B_field_has⟩,
    m_field_has := ⟨a_field_has, i_field_has, k_field_has⟩,
    d_field_beside := ⟨_, F_field_beside, B_field_beside⟩,
    m_field_beside := ⟨a_field_beside, i_field_beside, k_field_beside⟩,
    d_field_grown := ⟨_, F_field_grown, B_field_grown⟩,
    m_field_grown := ⟨a_field_grown, i_field_grown, k_field_grown⟩,
    d_field_is_joined := ⟨_, F_field_is_joined, B_field_is_joined⟩,
    m_field_is_joined := ⟨a_field_is_joined, i_field_is_joined, k_field_is_joined⟩,
    d_field_cells_in := ⟨_, F_field_cells_in, B_field_cells_in⟩,
    m_field_cells_in := ⟨a_field_cells_in, i_field_cells_in, k_field_cells_in⟩,
    d_bits_of := ⟨_, F_bits_of, B_bits_of⟩,
    g_bits_of := PySem.W.mg_of X G a_bits_of,
    d_fewest := ⟨_, F_fewest, B_fewest⟩,
    g_fewest := PySem.W.mg_of X G a_fewest,
    d_layers_to := ⟨_, F_layers_to, B_layers_to⟩,
    g_layers_to := PySem.W.mg_of X G a_layers_to,
    d_shortest_chain := ⟨_, F_shortest_chain, B_shortest_chain⟩,
    g_shortest_chain := PySem.W.mg_of X G a_shortest_chain,
    d_group_sizes := ⟨_, F_group_sizes, B_group_sizes⟩,
    g_group_sizes := PySem.W.mg_of X G a_group_sizes,
    d_joining_cells := ⟨_, F_joining_cells, B_joining_cells⟩,
    g_joining_cells := PySem.W.mg_of X G a_joining_cells,
    d_game_init := ⟨_, F_game_init, B_game_init⟩,
    d_game_side := ⟨_, F_game_side, B_game_side⟩,
    m_game_side := ⟨a_game_side, i_game_side, k_game_side⟩,
    d_game_stones := ⟨_, F_game_stones, B_game_stones⟩,
    m_game_stones := ⟨a_game_stones, i_game_stones, k_game_stones⟩,
    d_game_empty := ⟨_, F_game_empty, B_game_empty⟩,
    m_game_empty := ⟨a_game_empty, i_game_empty, k_game_empty⟩,
    d_game_player_of := ⟨_, F_game_player_of, B_game_player_of⟩,
    m_game_player_of := ⟨a_game_player_of, i_game_player_of, k_game_player_of⟩,
    d_game_winner := ⟨_, F_game_winner, B_game_winner⟩,
    m_game_winner := ⟨a_game_winner, i_game_winner, k_game_winner⟩,
    d_game_standing := ⟨_, F_game_standing, B_game_standing⟩,
    m_game_standing := ⟨a_game_standing, i_game_standing, k_game_standing⟩,
    d_game_copy := ⟨_, F_game_copy, B_game_copy⟩,
    m_game_copy := ⟨a_game_copy, i_game_copy, k_game_copy⟩,
    d_game_can_put := ⟨_, F_game_can_put, B_game_can_put⟩,
    m_game_can_put := ⟨a_game_can_put, i_game_can_put, k_game_can_put⟩,
    d_game_put_stone := ⟨_, F_game_put_stone, B_game_put_stone⟩,
    m_game_put_stone := ⟨a_game_put_stone, i_game_put_stone, k_game_put_stone⟩,
    d_game_take_back := ⟨_, F_game_take_back, B_game_take_back⟩,
    m_game_take_back := ⟨a_game_take_back, i_game_take_back, k_game_take_back⟩,
    d_searcher_init := ⟨_, F_searcher_init, B_searcher_init⟩,
    d_searcher_first_win := ⟨_, F_searcher_first_win, B_searcher_first_win⟩,
    m_searcher_first_win := ⟨a_searcher_first_win, i_searcher_first_win, k_searcher_first_win⟩,
    d_searcher_looked_for := ⟨_, F_searcher_looked_for, B_searcher_looked_for⟩,
    m_searcher_looked_for := ⟨a_searcher_looked_for, i_searcher_looked_for, k_searcher_looked_for⟩,
    d_keeper_init := ⟨_, F_keeper_init, B_keeper_init⟩,
    d_need := ⟨_, F_need, B_need⟩,
    g_need := PySem.W.mg_of X G a_need,
    d_cells_told := ⟨_, F_cells_told, B_cells_told⟩,
    g_cells_told := PySem.W.mg_of X G a_cells_told,
    d_call_begin := ⟨_, F_call_begin, B_call_begin⟩,
    g_call_begin := PySem.W.mg_of X G a_call_begin,
    d_call_play := ⟨_, F_call_play, B_call_play⟩,
    g_call_play := PySem.W.mg_of X G a_call_play,
    d_call_swap := ⟨_, F_call_swap, B_call_swap⟩,
    g_call_swap := PySem.W.mg_of X G a_call_swap,
    d_call_undo := ⟨_, F_call_undo, B_call_undo⟩,
    g_call_undo := PySem.W.mg_of X G a_call_undo,
    d_call_look := ⟨_, F_call_look, B_call_look⟩,
    g_call_look := PySem.W.mg_of X G a_call_look,
    d_call_rows := ⟨_, F_call_rows, B_call_rows⟩,
    g_call_rows := PySem.W.mg_of X G a_call_rows,
    d_call_lacks := ⟨_, F_call_lacks, B_call_lacks⟩,
    g_call_lacks := PySem.W.mg_of X G a_call_lacks,
    d_call_chain := ⟨_, F_call_chain, B_call_chain⟩,
    g_call_chain := PySem.W.mg_of X G a_call_chain,
    d_call_groups := ⟨_, F_call_groups, B_call_groups⟩,
    g_call_groups := PySem.W.mg_of X G a_call_groups,
    d_call_threats := ⟨_, F_call_threats, B_call_threats⟩,
    g_call_threats := PySem.W.mg_of X G a_call_threats,
    d_call_best := ⟨_, F_call_best, B_call_best⟩,
    g_call_best := PySem.W.mg_of X G a_call_best,
    d_call_try := ⟨_, F_call_try, B_call_try⟩,
    g_call_try := PySem.W.mg_of X G a_call_try,
    d_answered := ⟨_, F_answered, B_answered⟩,
    g_answered := PySem.W.mg_of X G a_answered,
    d_answers := ⟨_, F_answers, B_answers⟩,
    g_answers := PySem.W.mg_of X G a_answers,
    iNOBODY := ⟨_, PySem.W.mg_of X G iNOBODY⟩,
    iLEAST_SIZE := ⟨_, PySem.W.mg_of X G iLEAST_SIZE⟩,
    iMOST_SIZE := ⟨_, PySem.W.mg_of X G iMOST_SIZE⟩,
    iMOST_SEARCHED := ⟨_, PySem.W.mg_of X G iMOST_SEARCHED⟩,
    iMOST_EMPTY := ⟨_, PySem.W.mg_of X G iMOST_EMPTY⟩,
    iSIDES := ⟨_, PySem.W.mg_of X G iSIDES⟩,
    iBEGIN := ⟨_, PySem.W.mg_of X G iBEGIN⟩,
    iTRY := ⟨_, PySem.W.mg_of X G iTRY⟩,
    b_sum := PySem.W.mg_none_of X G b_sum,
    b_len := PySem.W.mg_none_of X G b_len,
    b_int := PySem.W.mg_none_of X G b_int,
    b_list := PySem.W.mg_none_of X G b_list,
    b_range := PySem.W.mg_none_of X G b_range,
    b_reversed := PySem.W.mg_none_of X G b_reversed,
    gLENGTHS := PySem.W.mg_of X G aL,
    gCALLS := PySem.W.mg_of X G aS,
    sLENGTHS := fun H => .inr ⟨_, _, _, lL, rfl, rfl, by show 12 ≤ sizeLine; decide, .cons ⟨_, rfl⟩ (.cons ⟨_, rfl⟩ (.cons ⟨_, rfl⟩ (.cons ⟨_, rfl⟩ (.cons ⟨_, rfl⟩ (.cons ⟨_, rfl⟩ (.cons ⟨_, rfl⟩ (.cons ⟨_, rfl⟩ (.cons ⟨_, rfl⟩ (.cons ⟨_, rfl⟩ (.cons ⟨_, rfl⟩ (.cons ⟨_, rfl⟩ (.nil))))))))))))⟩,
    sCALLS := fun H => .inr ⟨_, _, _, lS, rfl, rfl, by show 12 ≤ sizeLine; decide, .cons rfl (.cons rfl (.cons rfl (.cons rfl (.cons rfl (.cons rfl (.cons rfl (.cons rfl (.cons rfl (.cons rfl (.cons rfl (.cons rfl (.nil))))))))))))⟩ }
theorem all_mk {P : Program} {w : World} {K : PySem.W.Frag} {mg : Str → Option Value} {A : Ad} {fa : Addr} (hfa : mg "answers" = some (.ref fa)) (T : Txt K mg A) :
    ∃ fd : FuncData, (∀ (s : Shared) (us : List Value), us.length = (["calls"] : List Str).length → BindsTo s fd ⟨us, []⟩ ((["calls"] : List Str).zip us)) ∧ ∀ base : Heap, K.In base → base.Ns mainGlobals mg → FnOk P w K mg base CX0 27 fa fd ["calls"] (sp_answers K) := by
  have e := hfa.symm.trans T.g_answers
  cases e
  obtain ⟨fd, Ff, b⟩ := T.d_answers.ex
  refine ⟨fd, ?_, fun base _ _ => ok_answers T Ff⟩
  obtain ⟨oc, od, kV, doc, pm, an, cdv, ct, osl, rfl, lk, hcd⟩ := Ff.ex
  exact fun s us hu => match us, hu with | [_], _ => .of_eq rfl
end Hx
open PySem PySem.W PyProof.Rows
set_option maxRecDepth 100000 in
set_option maxHeartbeats 8000000 in
theorem PySem.Challenge.cw_hexgame_s01_answers_holds : PySem.Challenge.rw_hexgame_s01_answers.Holds := by
  w_on; k_headS; (case hw => exact ⟨[.list [.int 4]], by decide +kernel, by decide +kernel⟩)
  k_fillS
  refine L2.walk_specK (r := PySem.Challenge.rw_hexgame_s01_answers) (k := 27) (CX := L2.CX0) (ps := ["calls"]) (sp := Hx.sp_answers) (by decide +kernel) rfl rfl ⟨rfl, by decide, by decide⟩ (fun w h Y => PySem.W.kIn_of Y) ?F ?S (fun _ _ _ _ z => z)
  case F =>
    intro w mg fa h Y KX G hmg
    refine' Hx.all_mk hmg (Hx.txt_mk KX G ?aCField ?pgField ?hdField ?poField ?saField ?mmField ?kcField ?nField_size ?nField_bits ?nField_all_cells ?nField_firsts ?nField_others ?aCGame ?pgGame ?hdGame ?poGame ?saGame ?mmGame ?kcGame ?nGame_field ?nGame_put ?nGame_is_swapped ?aCSearcher ?pgSearcher ?hdSearcher ?poSearcher ?saSearcher ?mmSearcher ?kcSearcher ?nSearcher_known ?aCKeeper ?pgKeeper ?hdKeeper ?poKeeper ?saKeeper ?mmKeeper ?kcKeeper ?nKeeper_game ?nKeeper_searcher ?a_field_init ?i_field_init ?l_field_init ?c_field_init ?k_field_init ?a_field_bit ?i_field_bit ?l_field_bit ?c_field_bit ?k_field_bit ?a_field_place_of ?i_field_place_of ?l_field_place_of ?c_field_place_of ?k_field_place_of ?a_field_has ?i_field_has ?l_field_has ?c_field_has ?k_field_has ?a_field_beside ?i_field_beside ?l_field_beside ?c_field_beside ?k_field_beside ?a_field_grown ?i_field_grown ?l_field_grown ?c_field_grown ?k_field_grown ?a_field_is_joined ?i_field_is_joined ?l_field_is_joined ?c_field_is_joined ?k_field_is_joined ?a_field_cells_in ?i_field_cells_in ?l_field_cells_in ?c_field_cells_in ?k_field_cells_in ?a_bits_of ?l_bits_of ?c_bits_of ?k_bits_of ?a_fewest ?l_fewest ?c_fewest ?k_fewest ?a_layers_to ?l_layers_to ?c_layers_to ?k_layers_to ?a_shortest_chain ?l_shortest_chain ?c_shortest_chain ?k_shortest_chain ?a_group_sizes ?l_group_sizes ?c_group_sizes ?k_group_sizes ?a_joining_cells ?l_joining_cells ?c_joining_cells ?k_joining_cells ?a_game_init ?i_game_init ?l_game_init ?c_game_init ?k_game_init ?a_game_side ?i_game_side ?l_game_side ?c_game_side ?k_game_side ?a_game_stones ?i_game_stones ?l_game_stones ?c_game_stones ?k_game_stones ?a_game_empty ?i_game_empty ?l_game_empty ?c_game_empty ?k_game_empty ?a_game_player_of ?i_game_player_of ?l_game_player_of ?c_game_player_of ?k_game_player_of ?a_game_winner ?i_game_winner ?l_game_winner ?c_game_winner ?k_game_winner ?a_game_standing ?i_game_standing ?l_game_standing ?c_game_standing ?k_game_standing ?a_game_copy ?i_game_copy ?l_game_copy ?c_game_copy ?k_game_copy ?a_game_can_put ?i_game_can_put ?l_game_can_put ?c_game_can_put ?k_game_can_put ?a_game_put_stone ?i_game_put_stone ?l_game_put_stone ?c_game_put_stone ?k_game_put_stone ?a_game_take_back ?i_game_take_back ?l_game_take_back ?c_game_take_back ?k_game_take_back ?a_searcher_init ?i_searcher_init ?l_searcher_init ?c_searcher_init ?k_searcher_init ?a_searcher_first_win ?i_searcher_first_win ?l_searcher_first_win ?c_searcher_first_win ?k_searcher_first_win ?a_searcher_looked_for ?i_searcher_looked_for ?l_searcher_looked_for ?c_searcher_looked_for ?k_searcher_looked_for ?a_keeper_init ?i_keeper_init ?l_keeper_init ?c_keeper_init ?k_keeper_init ?a_need ?l_need ?c_need ?k_need ?a_cells_told ?l_cells_told ?c_cells_told ?k_cells_told ?a_call_begin ?l_call_begin ?c_call_begin ?k_call_begin ?a_call_play ?l_call_play ?c_call_play ?k_call_play ?a_call_swap ?l_call_swap ?c_call_swap ?k_call_swap ?a_call_undo ?l_call_undo ?c_call_undo ?k_call_undo ?a_call_look ?l_call_look ?c_call_look ?k_call_look ?a_call_rows ?l_call_rows ?c_call_rows ?k_call_rows ?a_call_lacks ?l_call_lacks ?c_call_lacks ?k_call_lacks ?a_call_chain ?l_call_chain ?c_call_chain ?k_call_chain ?a_call_groups ?l_call_groups ?c_call_groups ?k_call_groups ?a_call_threats ?l_call_threats ?c_call_threats ?k_call_threats ?a_call_best ?l_call_best ?c_call_best ?k_call_best ?a_call_try ?l_call_try ?c_call_try ?k_call_try ?a_answered ?l_answered ?c_answered ?k_answered ?a_answers ?l_answers ?c_answers ?k_answers ?rC ?rL ?rsa ?rga ?rgg ?rnb ?ra ?rt ?rl ?rc ?rk ?re ?rty ?rh ?ri ?rs ?iNOBODY ?iLEAST_SIZE ?iMOST_SIZE ?iMOST_SEARCHED ?iMOST_EMPTY ?iSIDES ?iBEGIN ?iTRY ?b_sum ?b_len ?b_int ?b_list ?b_range ?b_reversed ?aL ?lL ?aS ?lS)
    (case aCField => k_is)
    (case pgField => k_is)
    (case hdField => k_is)
    (case poField => k_is)
    (case saField => k_is)
    (case mmField => k_is)
    (case kcField => k_is)
    (case nField_size => k_is)
    (case nField_bits => k_is)
    (case nField_all_cells => k_is)
    (case nField_firsts => k_is)
    (case nField_others => k_is)
    (case aCGame => k_is)
    (case pgGame => k_is)
    (case hdGame => k_is)
    (case poGame => k_is)
    (case saGame => k_is)
    (case mmGame => k_is)
    (case kcGame => k_is)
    (case nGame_field => k_is)
    (case nGame_put => k_is)
    (case nGame_is_swapped => k_is)
    (case aCSearcher => k_is)
    (case pgSearcher => k_is)
    (case hdSearcher => k_is)
    (case poSearcher => k_is)
    (case saSearcher => k_is)
    (case mmSearcher => k_is)
    (case kcSearcher => k_is)
    (case nSearcher_known => k_is)
    (case aCKeeper => k_is)
    (case pgKeeper => k_is)
    (case hdKeeper => k_is)
    (case poKeeper => k_is)
    (case saKeeper => k_is)
    (case mmKeeper => k_is)
    (case kcKeeper => k_is)
    (case nKeeper_game => k_is)
    (case nKeeper_searcher => k_is)
    (case a_field_init => k_is)
    (case i_field_init => k_is)
    (case l_field_init => k_is)
    (case c_field_init => k_is)
    (case k_field_init => k_is)
    (case a_field_bit => k_is)
    (case i_field_bit => k_is)
    (case l_field_bit => k_is)
    (case c_field_bit => k_is)
    (case k_field_bit => k_is)
    (case a_field_place_of => k_is)
    (case i_field_place_of => k_is)
    (case l_field_place_of => k_is)
    (case c_field_place_of => k_is)
    (case k_field_place_of => k_is)
    (case a_field_has => k_is)
    (case i_field_has => k_is)
    (case l_field_has => k_is)
    (case c_field_has => k_is)
    (case k_field_has => k_is)
    (case a_field_beside => k_is)
    (case i_field_beside => k_is)
    (case l_field_beside => k_is)
    (case c_field_beside => k_is)
    (case k_field_beside => k_is)
    (case a_field_grown => k_is)
    (case i_field_grown => k_is)
    (case l_field_grown => k_is)
    (case c_field_grown => k_is)
    (case k_field_grown => k_is)
    (case a_field_is_joined => k_is)
    (case i_field_is_joined => k_is)
    (case l_field_is_joined => k_is)
    (case c_field_is_joined => k_is)
    (case k_field_is_joined => k_is)
    (case a_field_cells_in => k_is)
    (case i_field_cells_in => k_is)
    (case l_field_cells_in => k_is)
    (case c_field_cells_in => k_is)
    (case k_field_cells_in => k_is)
    (case a_bits_of => k_is)
    (case l_bits_of => k_is)
    (case c_bits_of => k_is)
    (case k_bits_of => k_is)
    (case a_fewest => k_is)
    (case l_fewest => k_is)
    (case c_fewest => k_is)
    (case k_fewest => k_is)
    (case a_layers_to => k_is)
    (case l_layers_to => k_is)
    (case c_layers_to => k_is)
    (case k_layers_to => k_is)
    (case a_shortest_chain => k_is)
    (case l_shortest_chain => k_is)
    (case c_shortest_chain => k_is)
    (case k_shortest_chain => k_is)
    (case a_group_sizes => k_is)
    (case l_group_sizes => k_is)
    (case c_group_sizes => k_is)
    (case k_group_sizes => k_is)
    (case a_joining_cells => k_is)
    (case l_joining_cells => k_is)
    (case c_joining_cells => k_is)
    (case k_joining_cells => k_is)
    (case a_game_init => k_is)
    (case i_game_init => k_is)
    (case l_game_init => k_is)
    (case c_game_init => k_is)
    (case k_game_init => k_is)
    (case a_game_side => k_is)
    (case i_game_side => k_is)
    (case l_game_side => k_is)
    (case c_game_side => k_is)
    (case k_game_side => k_is)
    (case a_game_stones => k_is)
    (case i_game_stones => k_is)
    (case l_game_stones => k_is)
    (case c_game_stones => k_is)
    (case k_game_stones => k_is)
    (case a_game_empty => k_is)
    (case i_game_empty => k_is)
    (case l_game_empty => k_is)
    (case c_game_empty => k_is)
    (case k_game_empty => k_is)
    (case a_game_player_of => k_is)
    (case i_game_player_of => k_is)
    (case l_game_player_of => k_is)
    (case c_game_player_of => k_is)
    (case k_game_player_of => k_is)
    (case a_game_winner => k_is)
    (case i_game_winner => k_is)
    (case l_game_winner => k_is)
    (case c_game_winner => k_is)
    (case k_game_winner => k_is)
    (case a_game_standing => k_is)
    (case i_game_standing => k_is)
    (case l_game_standing => k_is)
    (case c_game_standing => k_is)
    (case k_game_standing => k_is)
    (case a_game_copy => k_is)
    (case i_game_copy => k_is)
    (case l_game_copy => k_is)
    (case c_game_copy => k_is)
    (case k_game_copy => k_is)
    (case a_game_can_put => k_is)
    (case i_game_can_put => k_is)
    (case l_game_can_put => k_is)
    (case c_game_can_put => k_is)
    (case k_game_can_put => k_is)
    (case a_game_put_stone => k_is)
    (case i_game_put_stone => k_is)
    (case l_game_put_stone => k_is)
    (case c_game_put_stone => k_is)
    (case k_game_put_stone => k_is)
    (case a_game_take_back => k_is)
    (case i_game_take_back => k_is)
    (case l_game_take_back => k_is)
    (case c_game_take_back => k_is)
    (case k_game_take_back => k_is)
    (case a_searcher_init => k_is)
    (case i_searcher_init => k_is)
    (case l_searcher_init => k_is)
    (case c_searcher_init => k_is)
    (case k_searcher_init => k_is)
    (case a_searcher_first_win => k_is)
    (case i_searcher_first_win => k_is)
    (case l_searcher_first_win => k_is)
    (case c_searcher_first_win => k_is)
    (case k_searcher_first_win => k_is)
    (case a_searcher_looked_for => k_is)
    (case i_searcher_looked_for => k_is)
    (case l_searcher_looked_for => k_is)
    (case c_searcher_looked_for => k_is)
    (case k_searcher_looked_for => k_is)
    (case a_keeper_init => k_is)
    (case i_keeper_init => k_is)
    (case l_keeper_init => k_is)
    (case c_keeper_init => k_is)
    (case k_keeper_init => k_is)
    (case a_need => k_is)
    (case l_need => k_is)
    (case c_need => k_is)
    (case k_need => k_is)
    (case a_cells_told => k_is)
    (case l_cells_told => k_is)
    (case c_cells_told => k_is)
    (case k_cells_told => k_is)
    (case a_call_begin => k_is)
    (case l_call_begin => k_is)
    (case c_call_begin => k_is)
    (case k_call_begin => k_is)
    (case a_call_play => k_is)
    (case l_call_play => k_is)
    (case c_call_play => k_is)
    (case k_call_play => k_is)
    (case a_call_swap => k_is)
    (case l_call_swap => k_is)
    (case c_call_swap => k_is)
    (case k_call_swap => k_is)
    (case a_call_undo => k_is)
    (case l_call_undo => k_is)
    (case c_call_undo => k_is)
    (case k_call_undo => k_is)
    (case a_call_look => k_is)
    (case l_call_look => k_is)
    (case c_call_look => k_is)
    (case k_call_look => k_is)
    (case a_call_rows => k_is)
    (case l_call_rows => k_is)
    (case c_call_rows => k_is)
    (case k_call_rows => k_is)
    (case a_call_lacks => k_is)
    (case l_call_lacks => k_is)
    (case c_call_lacks => k_is)
    (case k_call_lacks => k_is)
    (case a_call_chain => k_is)
    (case l_call_chain => k_is)
    (case c_call_chain => k_is)
    (case k_call_chain => k_is)
    (case a_call_groups => k_is)
    (case l_call_groups => k_is)
    (case c_call_groups => k_is)
    (case k_call_groups => k_is)
    (case a_call_threats => k_is)
    (case l_call_threats => k_is)
    (case c_call_threats => k_is)
    (case k_call_threats => k_is)
    (case a_call_best => k_is)
    (case l_call_best => k_is)
    (case c_call_best => k_is)
    (case k_call_best => k_is)
    (case a_call_try => k_is)
    (case l_call_try => k_is)
    (case c_call_try => k_is)
    (case k_call_try => k_is)
    (case a_answered => k_is)
    (case l_answered => k_is)
    (case c_answered => k_is)
    (case k_answered => k_is)
    (case a_answers => k_is)
    (case l_answers => k_is)
    (case c_answers => k_is)
    (case k_answers => k_is)
    (case rC => k_is)
    (case rL => k_is)
    (case rsa => k_is)
    (case rga => k_is)
    (case rgg => k_is)
    (case rnb => k_is)
    (case ra => k_is)
    (case rt => k_is)
    (case rl => k_is)
    (case rc => k_is)
    (case rk => k_is)
    (case re => k_is)
    (case rty => k_is)
    (case rh => k_is)
    (case ri => k_is)
    (case rs => first | rfl | k_is)
    (case iNOBODY => k_is)
    (case iLEAST_SIZE => k_is)
    (case iMOST_SIZE => k_is)
    (case iMOST_SEARCHED => k_is)
    (case iMOST_EMPTY => k_is)
    (case iSIDES => k_is)
    (case iBEGIN => k_is)
    (case iTRY => k_is)
    (case b_sum => k_is)
    (case b_len => k_is)
    (case b_int => k_is)
    (case b_list => k_is)
    (case b_range => k_is)
    (case b_reversed => k_is)
    (case aL => k_is)
    (case lL => k_is)
    (case aS => k_is)
    (case lS => k_is)
  case S =>
    intro K H xs a hO hwi hask hx
    cases hx with
    | cons h1 h2 =>
      cases h2
      cases h1 with
      | lst hs ha =>
        have e := L2.ints_dw a.1 _ ha
        subst e
        exact ⟨_, a.1, rfl, hs, hask, fun H' p hp => .lst (L2.SqL.of hp) (L2.dw_ints _)⟩
#print axioms PySem.Challenge.cw_hexgame_s01_answers_holds
