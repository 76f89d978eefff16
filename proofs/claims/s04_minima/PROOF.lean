import PyProof.Rows.All
import Wide.All
import OpenK.AllK
import Wide.FinOn
import Open.SpecLaws
import KE.OsGo
import HandS.ForSpec
import HandS.Comp
import HandS.Iter
import HandS.Zip
import HandS.RevRange
import HandS.Wide
import HandS.Nested
import HandS.Spec
import HandS.EndTab
import KE.LtSeq
import KE.LtData
import KE.KMinKey
import KE.SortKeyHeap
import PySem.Challenge.RW_gridsteps_s04_minima
set_option Elab.async false
set_option linter.all false
set_option maxRecDepth 100000
set_option maxHeartbeats 4000000
/-! Sums, determinants over Rat (plain Lean). -/
namespace Gst
/-! ### sums -/
def sum : Nat → (Nat → Rat) → Rat
  | 0, _ => 0
  | n + 1, f => sum n f + f n
theorem sum_congr {f g : Nat → Rat} : ∀ {n : Nat}, (∀ i, i < n → f i = g i) → sum n f = sum n g
  | 0, _ => rfl
  | n + 1, h => by
    show sum n f + f n = sum n g + g n
    rw [sum_congr fun i hi => h i (by omega), h n (by omega)]
theorem sum_zero {f : Nat → Rat} : ∀ {n : Nat}, (∀ i, i < n → f i = 0) → sum n f = 0
  | 0, _ => rfl
  | n + 1, h => by
    show sum n f + f n = 0
    rw [sum_zero fun i hi => h i (by omega), h n (by omega)]
    grind
theorem sum_add {f g : Nat → Rat} : ∀ {n : Nat}, sum n (fun i => f i + g i) = sum n f + sum n g
  | 0 => by
    show (0 : Rat) = 0 + 0
    grind
  | n + 1 => by
    show sum n (fun i => f i + g i) + (f n + g n) = sum n f + f n + (sum n g + g n)
    rw [sum_add]
    grind
theorem sum_mul {f : Nat → Rat} {s : Rat} : ∀ {n : Nat}, sum n (fun i => s * f i) = s * sum n f
  | 0 => by
    show (0 : Rat) = s * 0
    grind
  | n + 1 => by
    show sum n (fun i => s * f i) + s * f n = s * (sum n f + f n)
    rw [sum_mul]
    grind
theorem sum_front {f : Nat → Rat} : ∀ {n : Nat}, sum (n + 1) f = f 0 + sum n (fun i => f (i + 1))
  | 0 => by
    show (0 : Rat) + f 0 = f 0 + 0
    grind
  | n + 1 => by
    show sum (n + 1) f + f (n + 1) = f 0 + (sum n (fun i => f (i + 1)) + f (n + 1))
    rw [sum_front]
    grind
theorem sum_comm {f : Nat → Nat → Rat} {m : Nat} : ∀ {n : Nat}, sum n (fun i => sum m (f i)) = sum m (fun j => sum n (fun i => f i j))
  | 0 => by
    show (0 : Rat) = sum m (fun _ => 0)
    rw [sum_zero fun _ _ => rfl]
  | n + 1 => by
    show sum n (fun i => sum m (f i)) + sum m (f n) = sum m (fun j => sum n (fun i => f i j) + f n j)
    rw [sum_add, sum_comm]
/-- all but one are 0 -/
theorem sum_one {f : Nat → Rat} {c : Nat} : ∀ {n : Nat}, c < n → (∀ i, i < n → i ≠ c → f i = 0) → sum n f = f c
  | 0, h, _ => by omega
  | n + 1, h, k => by
    show sum n f + f n = f c
    by_cases e : c = n
    · subst e
      rw [sum_zero fun i hi => k i (by omega) (by omega)]
      grind
    · rw [sum_one (by omega) fun i hi => k i (by omega), k n (by omega) (by omega)]
      grind
/-- all but two neighbours are 0 -/
theorem sum_two {f : Nat → Rat} {c : Nat} : ∀ {n : Nat}, c + 1 < n → (∀ i, i < n → i ≠ c → i ≠ c + 1 → f i = 0) → sum n f = f c + f (c + 1)
  | 0, h, _ => by omega
  | n + 1, h, k => by
    show sum n f + f n = f c + f (c + 1)
    by_cases e : c + 1 = n
    · subst e
      rw [sum_one (c := c) (by omega) fun i hi hc => k i (by omega) hc (by omega)]
    · rw [sum_two (by omega) fun i hi => k i (by omega), k n (by omega) (by omega) (by omega)]
      grind
theorem sum_nonneg {f : Nat → Rat} : ∀ {n : Nat}, (∀ i, i < n → 0 ≤ f i) → 0 ≤ sum n f
  | 0, _ => Rat.le_refl
  | n + 1, h => by
    show 0 ≤ sum n f + f n
    exact Rat.add_nonneg (sum_nonneg fun i hi => h i (by omega)) (h n (by omega))
theorem sum_le {f g : Nat → Rat} : ∀ {n : Nat}, (∀ i, i < n → f i ≤ g i) → sum n f ≤ sum n g
  | 0, _ => Rat.le_refl
  | n + 1, h => by
    show sum n f + f n ≤ sum n g + g n
    have a := sum_le (n := n) fun i hi => h i (by omega)
    have b := h n (by omega)
    grind
theorem sum_one_le {f : Nat → Rat} {c : Nat} : ∀ {n : Nat}, c < n → (∀ i, i < n → 0 ≤ f i) → f c ≤ sum n f
  | 0, h, _ => by omega
  | n + 1, h, k => by
    show f c ≤ sum n f + f n
    by_cases e : c = n
    · subst e
      have a := sum_nonneg (n := c) fun i hi => k i (by omega)
      grind
    · have a := sum_one_le (c := c) (n := n) (by omega) fun i hi => k i (by omega)
      have b := k n (by omega)
      grind
/-! ### determinants -/
def sgn (j : Nat) : Rat := if j % 2 = 0 then 1 else -1
theorem sgn_succ (j : Nat) : sgn (j + 1) = - sgn j := by
  unfold sgn
  rcases Nat.mod_two_eq_zero_or_one j with h | h
  · rw [if_pos h, if_neg (by omega)]
  · rw [if_neg (by omega : ¬ j % 2 = 0), if_pos (by omega)]
    rfl
theorem sgn_sq (j : Nat) : sgn j * sgn j = 1 := by
  unfold sgn
  split <;> grind
theorem sgn_add (i j : Nat) : sgn (i + j) = sgn i * sgn j := by
  induction j with
  | zero =>
    show sgn i = sgn i * 1
    grind
  | succ j ih =>
    rw [← Nat.add_assoc, sgn_succ, sgn_succ, ih]
    grind
def skip (j c : Nat) : Nat := if c < j then c else c + 1
theorem skip_lt {j c : Nat} (h : c < j) : skip j c = c := if_pos h
theorem skip_ge {j c : Nat} (h : j ≤ c) : skip j c = c + 1 := if_neg (by omega)
theorem skip_ne (j c : Nat) : skip j c ≠ j := by
  unfold skip
  split <;> omega
theorem skip_le {n j c : Nat} (h : c < n) : skip j c < n + 1 := by
  unfold skip
  split <;> omega
theorem skip_zero (c : Nat) : skip 0 c = c + 1 := if_neg (by omega)
theorem skip_succ (j c : Nat) : skip (j + 1) (c + 1) = skip j c + 1 := by
  unfold skip
  split <;> split <;> omega
abbrev Mat := Nat → Nat → Rat
def det : Nat → Mat → Rat
  | 0, _ => 1
  | n + 1, A => sum (n + 1) fun j => sgn j * A 0 j * det n (fun i c => A (i + 1) (skip j c))
theorem det_succ (n : Nat) (A : Mat) : det (n + 1) A = sum (n + 1) fun j => sgn j * A 0 j * det n (fun i c => A (i + 1) (skip j c)) := rfl
theorem det_congr : ∀ {n : Nat} {A B : Mat}, (∀ i j, i < n → j < n → A i j = B i j) → det n A = det n B
  | 0, _, _, _ => rfl
  | n + 1, A, B, h => by
    rw [det_succ, det_succ]
    refine sum_congr fun j hj => ?_
    rw [h 0 j (by omega) hj, det_congr (n := n) fun i c hi hc => h (i + 1) (skip j c) (by omega) (skip_le hc)]
/-- column c is u -/
def upc (A : Mat) (c : Nat) (u : Nat → Rat) : Mat := fun i j => if j = c then u i else A i j
theorem upc_same {A : Mat} {c : Nat} {u : Nat → Rat} {i : Nat} : upc A c u i c = u i := if_pos rfl
theorem upc_ne {A : Mat} {c j : Nat} {u : Nat → Rat} {i : Nat} (h : j ≠ c) : upc A c u i j = A i j := if_neg h
theorem det_col_lin : ∀ {n : Nat} {A : Mat} {c : Nat} {u v : Nat → Rat} {s : Rat}, c < n → det n (upc A c fun i => s * u i + v i) = s * det n (upc A c u) + det n (upc A c v)
  | 0, _, _, _, _, _, h => by omega
  | n + 1, A, c, u, v, s, h => by
    rw [det_succ, det_succ, det_succ, ← sum_mul, ← sum_add]
    refine sum_congr fun j hj => ?_
    by_cases e : j = c
    · subst e
      rw [upc_same, upc_same, upc_same]
      have k : ∀ w : Nat → Rat, det n (fun i x => upc A j w (i + 1) (skip j x)) = det n (fun i x => A (i + 1) (skip j x)) := fun w =>
        det_congr fun i x _ _ => upc_ne (skip_ne j x)
      rw [k, k, k]
      grind
    · rw [upc_ne e, upc_ne e, upc_ne e]
      have k : ∀ w : Nat → Rat, (fun i x => upc A c w (i + 1) (skip j x)) = upc (fun i x => A (i + 1) (skip j x)) (if c < j then c else c - 1) (fun i => w (i + 1)) := fun w => by
        funext i x
        unfold upc skip
        by_cases h1 : x < j <;> by_cases h2 : c < j <;> simp only [h1, h2, if_true, if_false] <;> congr 1 <;> exact propext ⟨by omega, by omega⟩
      rw [k, k, k, det_col_lin (n := n) (by split <;> omega)]
      grind
theorem det_col_adj : ∀ {n : Nat} {A : Mat} {c : Nat}, c + 1 < n → (∀ i, i < n → A i c = A i (c + 1)) → det n A = 0
  | 0, _, _, h, _ => by omega
  | n + 1, A, c, h, e => by
    rw [det_succ, sum_two (c := c) h fun j hj h1 h2 => ?_]
    · have k : det n (fun i x => A (i + 1) (skip c x)) = det n (fun i x => A (i + 1) (skip (c + 1) x)) := det_congr fun i x hi hx => by
        by_cases h1 : x < c
        · rw [skip_lt h1, skip_lt (by omega)]
        · by_cases h2 : x = c
          · subst h2
            rw [skip_ge (by omega), skip_lt (by omega)]
            exact (e (i + 1) (by omega)).symm
          · rw [skip_ge (by omega), skip_ge (by omega)]
      rw [k, sgn_succ, e 0 (by omega)]
      grind
    · have z : det n (fun i x => A (i + 1) (skip j x)) = 0 := by
        by_cases h3 : j < c
        · refine det_col_adj (c := c - 1) (by omega) fun i hi => ?_
          show A (i + 1) (skip j (c - 1)) = A (i + 1) (skip j (c - 1 + 1))
          rw [skip_ge (by omega), skip_ge (by omega), show c - 1 + 1 = c by omega]
          exact e (i + 1) (by omega)
        · refine det_col_adj (c := c) (by omega) fun i hi => ?_
          show A (i + 1) (skip j c) = A (i + 1) (skip j (c + 1))
          rw [skip_lt (by omega), skip_lt (by omega)]
          exact e (i + 1) (by omega)
      rw [z]
      grind
theorem upc_self {A : Mat} {c : Nat} : upc A c (fun i => A i c) = A := by
  funext i j
  unfold upc
  split
  · rename_i h
    rw [h]
  · rfl
theorem det_col_add {n : Nat} {A : Mat} {c : Nat} {u v : Nat → Rat} (h : c < n) : det n (upc A c fun i => u i + v i) = det n (upc A c u) + det n (upc A c v) := by
  have k := det_col_lin (A := A) (u := u) (v := v) (s := 1) h
  have e : (fun i => 1 * u i + v i) = fun i => u i + v i := by
    funext i
    grind
  rw [e] at k
  rw [k]
  grind
/-- two neighbours change places -/
theorem det_swap {n : Nat} {A : Mat} {c : Nat} (h : c + 1 < n) : det n (upc (upc A c fun i => A i (c + 1)) (c + 1) fun i => A i c) = - det n A := by
  have M : ∀ u v : Nat → Rat, (∀ i, u i = v i) → det n (upc (upc A c u) (c + 1) v) = 0 := fun u v e => det_col_adj (c := c) h fun i _ => by
    rw [upc_ne (by omega), upc_same, upc_same]
    exact e i
  have sw : ∀ u v : Nat → Rat, upc (upc A c u) (c + 1) v = upc (upc A (c + 1) v) c u := fun u v => by
    funext i j
    unfold upc
    by_cases h1 : j = c + 1
    · rw [if_pos h1, if_neg (by omega), if_pos h1]
    · rw [if_neg h1]
      by_cases h2 : j = c
      · rw [if_pos h2, if_pos h2]
      · rw [if_neg h2, if_neg h2, if_neg h1]
  have L : ∀ u v w : Nat → Rat, det n (upc (upc A c fun i => u i + v i) (c + 1) w) = det n (upc (upc A c u) (c + 1) w) + det n (upc (upc A c v) (c + 1) w) := fun u v w => by
    rw [sw, sw, sw]
    exact det_col_add (by omega)
  have a := M (fun i => A i c + A i (c + 1)) (fun i => A i c + A i (c + 1)) fun _ => rfl
  rw [L, det_col_add h, det_col_add h, M (fun i => A i c) (fun i => A i c) fun _ => rfl, M (fun i => A i (c + 1)) (fun i => A i (c + 1)) fun _ => rfl, upc_self] at a
  have e : upc A (c + 1) (fun i => A i (c + 1)) = A := upc_self
  rw [e] at a
  grind
/-- two equal columns -/
theorem det_col_eq {n : Nat} : ∀ {d : Nat} {A : Mat} {c : Nat}, c < d → d < n → (∀ i, i < n → A i c = A i d) → det n A = 0
  | 0, _, _, h, _, _ => by omega
  | d + 1, A, c, h, hd, e => by
    by_cases k : c = d
    · subst k
      exact det_col_adj hd e
    · have s := det_swap (A := A) hd
      have z : det n (upc (upc A d fun i => A i (d + 1)) (d + 1) fun i => A i d) = 0 := det_col_eq (d := d) (c := c) (by omega) (by omega) fun i hi => by
        rw [upc_ne (by omega), upc_ne k, upc_ne (by omega), upc_same]
        exact e i hi
      rw [z] at s
      grind
/-- a multiple of another column is added -/
theorem det_col_op {n : Nat} {A : Mat} {c d : Nat} {s : Rat} {u : Nat → Rat} (hc : c < n) (hd : d < n) (ne : c ≠ d) : det n (upc A c fun i => u i + s * A i d) = det n (upc A c u) := by
  have e : (fun i => u i + s * A i d) = fun i => s * A i d + u i := by
    funext i
    grind
  rw [e, det_col_lin (u := fun i => A i d) hc]
  have z : det n (upc A c fun i => A i d) = 0 := by
    by_cases k : c < d
    · exact det_col_eq k hd fun i _ => by rw [upc_same, upc_ne (by omega)]
    · exact det_col_eq (c := d) (d := c) (by omega) hc fun i _ => by rw [upc_same, upc_ne (by omega)]
  rw [z]
  grind
theorem det_col_zero {n : Nat} {A : Mat} {c : Nat} (hc : c < n) (h : ∀ i, i < n → A i c = 0) : det n A = 0 := by
  have a := det_col_lin (A := A) (c := c) (u := fun i => A i c) (v := fun i => A i c) (s := 1) hc
  have e : det n (upc A c fun i => 1 * A i c + A i c) = det n A := det_congr fun i j hi _ => by
    by_cases k : j = c
    · subst k
      rw [upc_same, h i hi]
      grind
    · rw [upc_ne k]
  rw [e, upc_self] at a
  grind
/-! ### rows for columns -/
theorem det_tr : ∀ (n : Nat) (A : Mat), det n A = det n fun i j => A j i
  | 0, _ => rfl
  | 1, A => by
    rw [det_succ, det_succ]
    refine sum_congr fun j hj => ?_
    have e : j = 0 := by omega
    subst e
    rfl
  | m + 2, A => by
    have key : ∀ B : Mat, det (m + 2) B = B 0 0 * det (m + 1) (fun i j => B (i + 1) (j + 1)) + sum (m + 1) fun j => sum (m + 1) fun i => - (sgn j * sgn i * B 0 (j + 1) * B (i + 1) 0 * det m fun r c => B (skip i r + 1) (skip j c + 1)) := fun B => by
      rw [det_succ, sum_front]
      congr 1
      · have e : (fun i c => B (i + 1) (skip 0 c)) = fun i c => B (i + 1) (c + 1) := by
          funext i c
          rw [skip_zero]
        rw [e]
        show (1 : Rat) * B 0 0 * _ = _
        grind
      · refine sum_congr fun j hj => ?_
        rw [det_tr (m + 1), det_succ, ← sum_mul]
        refine sum_congr fun i hi => ?_
        have e : (fun r c => B (skip i c + 1) (skip (j + 1) (r + 1))) = fun r c => B (skip i c + 1) (skip j r + 1) := by
          funext r c
          rw [skip_succ]
        have z : skip (j + 1) 0 = 0 := skip_lt (by omega)
        show sgn (j + 1) * B 0 (j + 1) * (sgn i * B (i + 1) (skip (j + 1) 0) * det m fun r c => B (skip i c + 1) (skip (j + 1) (r + 1))) = _
        rw [e, z, sgn_succ, det_tr m fun r c => B (skip i c + 1) (skip j r + 1)]
        grind
    rw [key A, key fun i j => A j i, sum_comm, det_tr (m + 1) fun i j => A (i + 1) (j + 1)]
    congr 1
    refine sum_congr fun i hi => sum_congr fun j hj => ?_
    rw [det_tr m fun r c => A (skip i r + 1) (skip j c + 1)]
    grind
/-- the column (row) k is taken to the front -/
def cyc (k c : Nat) : Nat := if c = 0 then k else if c ≤ k then c - 1 else c
theorem det_cyc {n : Nat} : ∀ {k : Nat} {A : Mat}, k < n → det n (fun i c => A i (cyc k c)) = sgn k * det n A
  | 0, A, _ => by
    have e : (fun i c => A i (cyc 0 c)) = A := by
      funext i c
      unfold cyc
      by_cases h : c = 0
      · rw [if_pos h, h]
      · rw [if_neg h, if_neg (by omega)]
    rw [e]
    show _ = (1 : Rat) * _
    grind
  | k + 1, A, h => by
    have s := det_swap (A := A) h
    have r := det_cyc (n := n) (k := k) (A := upc (upc A k fun i => A i (k + 1)) (k + 1) fun i => A i k) (by omega)
    have e : (fun i c => upc (upc A k fun i => A i (k + 1)) (k + 1) (fun i => A i k) i (cyc k c)) = fun i c => A i (cyc (k + 1) c) := by
      funext i c
      unfold cyc upc
      by_cases h1 : c = 0
      · simp [h1]
      · by_cases h2 : c ≤ k
        · simp only [h1, h2, if_true, if_false, show c ≤ k + 1 by omega, show ¬ c - 1 = k + 1 by omega, show ¬ c - 1 = k by omega]
        · by_cases h3 : c = k + 1
          · simp [h3]
          · simp only [h1, h2, if_false, show ¬ c ≤ k + 1 by omega, show ¬ c = k + 1 by omega, show ¬ c = k by omega]
    rw [e, s] at r
    rw [r, sgn_succ]
    grind
theorem cyc_succ (k i : Nat) : cyc k (i + 1) = skip k i := by
  unfold cyc skip
  rw [if_neg (by omega)]
  by_cases h : i < k
  · rw [if_pos (by omega), if_pos h]
    rfl
  · rw [if_neg (by omega), if_neg h]
/-- by any row -/
theorem det_row {n k : Nat} {A : Mat} (h : k < n + 1) : det (n + 1) A = sum (n + 1) fun j => sgn (k + j) * A k j * det n (fun i c => A (skip k i) (skip j c)) := by
  have a := det_cyc (n := n + 1) (k := k) (A := fun i j => A j i) h
  have a1 := det_tr (n + 1) A
  have a2 := det_tr (n + 1) fun i c => A (cyc k i) c
  have e : det (n + 1) A = sgn k * det (n + 1) fun i c => A (cyc k i) c := by
    have q := sgn_sq k
    rw [a2, a, a1]
    grind
  rw [e, det_succ, ← sum_mul]
  refine sum_congr fun j hj => ?_
  have f : (fun i c => A (cyc k (i + 1)) (skip j c)) = fun i c => A (skip k i) (skip j c) := by
    funext i c
    rw [cyc_succ]
  show sgn k * (sgn j * A (cyc k 0) j * det n fun i c => A (cyc k (i + 1)) (skip j c)) = _
  rw [f, sgn_add, show cyc k 0 = k from rfl]
  grind
theorem det_row_eq {n : Nat} {A : Mat} {c d : Nat} (h : c ≠ d) (hc : c < n) (hd : d < n) (e : ∀ i, i < n → A c i = A d i) : det n A = 0 := by
  rw [det_tr]
  by_cases k : c < d
  · exact det_col_eq k hd e
  · exact det_col_eq (c := d) (d := c) (by omega) hc fun i hi => (e i hi).symm
theorem det_row_zero {n : Nat} {A : Mat} {c : Nat} (hc : c < n) (h : ∀ i, i < n → A c i = 0) : det n A = 0 := by
  rw [det_tr]
  exact det_col_zero hc h
/-- the cofactors of row k with another row: 0 -/
theorem det_cof_ne {n k m : Nat} {A : Mat} (h : k < n + 1) (hm : m < n + 1) (ne : m ≠ k) : (sum (n + 1) fun j => sgn (k + j) * A m j * det n (fun i c => A (skip k i) (skip j c))) = 0 := by
  have a := det_row (A := fun i j => if i = k then A m j else A i j) h
  rw [det_row_eq (c := k) (d := m) (Ne.symm ne) h hm fun i _ => by rw [if_pos rfl, if_neg ne]] at a
  rw [a]
  refine sum_congr fun j hj => ?_
  have e : (fun i c => if skip k i = k then A m (skip j c) else A (skip k i) (skip j c)) = fun i c => A (skip k i) (skip j c) := by
    funext i c
    rw [if_neg (skip_ne k i)]
  rw [e, if_pos rfl]
/-- nothing to the right of the diagonal -/
def prod : Nat → (Nat → Rat) → Rat
  | 0, _ => 1
  | n + 1, f => prod n f * f n
theorem prod_front {f : Nat → Rat} : ∀ {n : Nat}, prod (n + 1) f = f 0 * prod n (fun i => f (i + 1))
  | 0 => by
    show (1 : Rat) * f 0 = f 0 * 1
    grind
  | n + 1 => by
    show prod (n + 1) f * f (n + 1) = f 0 * (prod n (fun i => f (i + 1)) * f (n + 1))
    rw [prod_front]
    grind
theorem prod_congr {f g : Nat → Rat} : ∀ {n : Nat}, (∀ i, i < n → f i = g i) → prod n f = prod n g
  | 0, _ => rfl
  | n + 1, h => by
    show prod n f * f n = prod n g * g n
    rw [prod_congr fun i hi => h i (by omega), h n (by omega)]
theorem prod_pos {f : Nat → Rat} : ∀ {n : Nat}, (∀ i, i < n → 0 < f i) → 0 < prod n f
  | 0, _ => by
    show (0 : Rat) < 1
    decide
  | n + 1, h => Rat.mul_pos (prod_pos fun i hi => h i (by omega)) (h n (by omega))
theorem det_low : ∀ {n : Nat} {A : Mat}, (∀ i j, i < j → j < n → A i j = 0) → det n A = prod n fun i => A i i
  | 0, _, _ => rfl
  | n + 1, A, h => by
    rw [det_succ, sum_one (c := 0) (by omega) fun j hj ne => by rw [h 0 j (by omega) hj]; grind, prod_front]
    have e : (fun i c => A (i + 1) (skip 0 c)) = fun i c => A (i + 1) (c + 1) := by
      funext i c
      rw [skip_zero]
    rw [e, det_low fun i j hi hj => h (i + 1) (j + 1) (by omega) (by omega)]
    show (1 : Rat) * A 0 0 * _ = _
    grind
end Gst

/-! Rows at right angles, over Rat. -/
namespace Gst
abbrev Vec := Nat → Rat
def ip (n : Nat) (x y : Vec) : Rat := sum n fun i => x i * y i
theorem ip_comm (n : Nat) (x y : Vec) : ip n x y = ip n y x := sum_congr fun i _ => Rat.mul_comm _ _
theorem ip_add {n : Nat} {x y z : Vec} : ip n (fun i => x i + y i) z = ip n x z + ip n y z := by
  unfold ip
  rw [← sum_add]
  exact sum_congr fun i _ => by grind
theorem ip_mul {n : Nat} {x z : Vec} {s : Rat} : ip n (fun i => s * x i) z = s * ip n x z := by
  unfold ip
  rw [← sum_mul]
  exact sum_congr fun i _ => by grind
theorem ip_sub {n : Nat} {x y z : Vec} {s : Rat} : ip n (fun i => x i - s * y i) z = ip n x z - s * ip n y z := by
  have e : (fun i => x i - s * y i) = fun i => x i + (-s) * y i := by
    funext i
    grind
  rw [e, ip_add, ip_mul (x := y) (s := -s)]
  grind
theorem ip_sub_r {n : Nat} {x y z : Vec} {s : Rat} : ip n z (fun i => x i - s * y i) = ip n z x - s * ip n z y := by
  rw [ip_comm, ip_sub, ip_comm n x, ip_comm n y]
theorem ip_congr {n : Nat} {x x' y y' : Vec} (h : ∀ i, i < n → x i = x' i) (k : ∀ i, i < n → y i = y' i) : ip n x y = ip n x' y' :=
  sum_congr fun i hi => by rw [h i hi, k i hi]
theorem sq_nonneg (x : Rat) : 0 ≤ x * x := by
  rcases Rat.le_total (a := 0) (b := x) with h | h
  · exact Rat.mul_nonneg h h
  · have k := Rat.mul_nonneg (a := -x) (b := -x) (by grind) (by grind)
    grind
theorem ip_self (n : Nat) (x : Vec) : 0 ≤ ip n x x := sum_nonneg fun i _ => sq_nonneg _
theorem ip_zero {n : Nat} {x : Vec} (h : ip n x x = 0) : ∀ i, i < n → x i = 0 := fun i hi => by
  have a := sum_one_le (f := fun i => x i * x i) hi fun j _ => sq_nonneg _
  have b := sq_nonneg (x i)
  have c : ip n x x = sum n fun i => x i * x i := rfl
  have d : x i * x i = 0 := by grind
  rcases Rat.mul_eq_zero.mp d with e | e <;> exact e
theorem ip_zero_l {n : Nat} {x y : Vec} (h : ∀ i, i < n → x i = 0) : ip n x y = 0 := sum_zero fun i hi => by
  rw [h i hi]
  grind
theorem ip_zero_r {n : Nat} {x y : Vec} (h : ∀ i, i < n → y i = 0) : ip n x y = 0 := by
  rw [ip_comm]
  exact ip_zero_l h
/-- what is left of x behind the first k rows -/
def R (n : Nat) (b : Nat → Vec) : Nat → Vec → Vec
  | 0, x => x
  | k + 1, x => fun i => R n b k x i - ip n (R n b k x) (R n b k (b k)) / ip n (R n b k (b k)) (R n b k (b k)) * R n b k (b k) i
/-- row k at right angles to those ahead -/
def E (n : Nat) (b : Nat → Vec) (k : Nat) : Vec := R n b k (b k)
/-- its square -/
def N (n : Nat) (b : Nat → Vec) (k : Nat) : Rat := ip n (E n b k) (E n b k)
/-- the multiple of E k in x -/
def mu (n : Nat) (b : Nat → Vec) (x : Vec) (k : Nat) : Rat := ip n (R n b k x) (E n b k) / N n b k
variable {n : Nat} {b : Nat → Vec}
theorem R_succ (k : Nat) (x : Vec) : R n b (k + 1) x = fun i => R n b k x i - mu n b x k * E n b k i := rfl
theorem N_nonneg (k : Nat) : 0 ≤ N n b k := ip_self _ _
theorem E_zero {k : Nat} (h : N n b k = 0) : ∀ i, i < n → E n b k i = 0 := ip_zero h
theorem mu_N (x : Vec) (k : Nat) : mu n b x k * N n b k = ip n (R n b k x) (E n b k) := by
  unfold mu
  by_cases h : N n b k = 0
  · rw [h, ip_zero_r (E_zero h)]
    grind
  · exact Rat.div_mul_cancel h
theorem R_lin (s : Rat) (x y : Vec) : ∀ k, R n b k (fun i => s * x i + y i) = fun i => s * R n b k x i + R n b k y i
  | 0 => rfl
  | k + 1 => by
    have ih := R_lin s x y k
    rw [R_succ, R_succ, R_succ]
    have m : mu n b (fun i => s * x i + y i) k = s * mu n b x k + mu n b y k := by
      unfold mu
      rw [ih, ip_add, ip_mul, Rat.div_def, Rat.div_def, Rat.div_def]
      grind
    funext i
    rw [m, ih]
    grind
theorem R_zero (k : Nat) : R n b k (fun _ => 0) = fun _ => 0 := by
  have h := R_lin (n := n) (b := b) (-1) (fun _ => 0) (fun _ => 0) k
  have e : (fun _ : Nat => (-1 : Rat) * 0 + 0) = fun _ => 0 := by
    funext i
    grind
  rw [e] at h
  funext i
  have := congrFun h i
  grind
theorem R_sub (s : Rat) (x y : Vec) (k : Nat) : R n b k (fun i => x i - s * y i) = fun i => R n b k x i - s * R n b k y i := by
  have e : (fun i => x i - s * y i) = fun i => (-s) * y i + x i := by
    funext i
    grind
  rw [e, R_lin]
  funext i
  grind
/-- at right angles to the next -/
theorem R_orth1 (k : Nat) (x : Vec) : ip n (R n b (k + 1) x) (E n b k) = 0 := by
  rw [R_succ, ip_sub]
  have m := mu_N (n := n) (b := b) x k
  have q : N n b k = ip n (E n b k) (E n b k) := rfl
  grind
theorem R_orth : ∀ {k j : Nat} (x : Vec), j < k → ip n (R n b k x) (E n b j) = 0
  | 0, _, _, h => by omega
  | k + 1, j, x, h => by
    by_cases e : j = k
    · subst e
      exact R_orth1 j x
    · have a := R_orth (k := k) (j := j) x (by omega)
      have c := R_orth (k := k) (j := j) (b k) (by omega)
      rw [R_succ, ip_sub, a, show ip n (E n b k) (E n b j) = 0 from c]
      grind
theorem E_orth {k j : Nat} (h : j ≠ k) : ip n (E n b k) (E n b j) = 0 := by
  by_cases e : j < k
  · exact R_orth _ e
  · rw [ip_comm]
    exact R_orth _ (by omega)
theorem R_own {k : Nat} : ∀ i, i < n → R n b (k + 1) (b k) i = 0 := by
  intro i hi
  rw [R_succ]
  show E n b k i - mu n b (b k) k * E n b k i = 0
  by_cases h : N n b k = 0
  · rw [E_zero h i hi]
    grind
  · have m : mu n b (b k) k = 1 := by
      have a := mu_N (n := n) (b := b) (b k) k
      have q : ip n (R n b k (b k)) (E n b k) = N n b k := rfl
      rw [q] at a
      have c : mu n b (b k) k * N n b k / N n b k = mu n b (b k) k := Rat.mul_div_cancel h
      rw [a] at c
      rw [← c, Rat.div_def]
      exact Rat.mul_inv_cancel _ h
    rw [m]
    grind
theorem R_own0 {k j : Nat} (h : j < k) : ∀ i, i < n → R n b k (b j) i = 0 := by
  induction k with
  | zero => omega
  | succ k ih =>
    by_cases e : j = k
    · subst e
      exact R_own
    · intro i hi
      have z := ih (by omega)
      rw [R_succ]
      show R n b k (b j) i - mu n b (b j) k * E n b k i = 0
      have m : mu n b (b j) k = 0 := by
        unfold mu
        rw [ip_zero_l z, Rat.div_def]
        grind
      rw [z i hi, m]
      grind
/-- a product with what is left behind m rows asks only what is left behind i <= m of them -/
theorem ip_R_R (x y : Vec) {m : Nat} : ∀ {i : Nat}, i ≤ m → ip n (R n b i x) (R n b m y) = ip n x (R n b m y)
  | 0, _ => rfl
  | i + 1, h => by
    rw [R_succ, ip_sub, ip_R_R x y (by omega), ip_comm n (E n b i), R_orth y (by omega)]
    grind
theorem ip_E (x : Vec) (k : Nat) : ip n x (E n b k) = ip n (R n b k x) (E n b k) := (ip_R_R x (b k) (Nat.le_refl k)).symm
theorem mu_eq (x : Vec) (k : Nat) : mu n b x k * N n b k = ip n x (E n b k) := (mu_N x k).trans (ip_E x k).symm
theorem mu_lin (s : Rat) (x y : Vec) (k : Nat) : mu n b (fun i => x i - s * y i) k = mu n b x k - s * mu n b y k := by
  unfold mu
  rw [R_sub, ip_sub, Rat.div_def, Rat.div_def, Rat.div_def]
  grind
theorem mu_own {k : Nat} (h : N n b k ≠ 0) : mu n b (b k) k = 1 := by
  have a := mu_N (n := n) (b := b) (b k) k
  have q : ip n (R n b k (b k)) (E n b k) = N n b k := rfl
  rw [q] at a
  have c : mu n b (b k) k * N n b k / N n b k = mu n b (b k) k := Rat.mul_div_cancel h
  rw [a] at c
  rw [← c, Rat.div_def]
  exact Rat.mul_inv_cancel _ h
theorem mu_past {j k : Nat} (h : j < k) : mu n b (b j) k = 0 := by
  unfold mu
  rw [ip_zero_l (R_own0 h), Rat.div_def]
  grind
/-- Pythagoras, one row -/
theorem R_sq (x : Vec) (k : Nat) : ip n (R n b k x) (R n b k x) = ip n (R n b (k + 1) x) (R n b (k + 1) x) + mu n b x k * mu n b x k * N n b k := by
  have o := R_orth1 (n := n) (b := b) k x
  have e : ip n (R n b (k + 1) x) (R n b (k + 1) x) = ip n (R n b k x) (R n b (k + 1) x) := by
    conv => lhs; arg 2; rw [R_succ]
    rw [ip_sub, ip_comm n (E n b k), o]
    grind
  have f : ip n (R n b k x) (R n b (k + 1) x) = ip n (R n b k x) (R n b k x) - mu n b x k * ip n (R n b k x) (E n b k) := by
    conv => lhs; arg 3; rw [R_succ]
    rw [ip_sub_r]
  rw [e, f, ← mu_N]
  grind
theorem R_sq_le (x : Vec) (k : Nat) : ip n (R n b k x) (R n b k x) ≤ ip n x x := by
  induction k with
  | zero => exact Rat.le_refl
  | succ k ih =>
    have a := R_sq (n := n) (b := b) x k
    have c : 0 ≤ mu n b x k * mu n b x k * N n b k := Rat.mul_nonneg (sq_nonneg _) (N_nonneg k)
    grind
theorem N_le (k : Nat) : N n b k ≤ ip n (b k) (b k) := R_sq_le _ _
theorem R_sq_all (x : Vec) : ∀ k, ip n x x = ip n (R n b k x) (R n b k x) + sum k fun j => mu n b x j * mu n b x j * N n b j
  | 0 => by
    show ip n x x = ip n x x + 0
    grind
  | k + 1 => by
    have a := R_sq_all x k
    have c := R_sq (n := n) (b := b) x k
    show ip n x x = _ + (sum k (fun j => mu n b x j * mu n b x j * N n b j) + mu n b x k * mu n b x k * N n b k)
    grind
/-- linear in its second letter -/
structure Lin (p : Nat → Vec → Rat) : Prop where
  sub : ∀ a s x y, p a (fun i => x i - s * y i) = p a x - s * p a y
/-- columns by their leftovers -/
theorem det_R {p : Nat → Vec → Rat} (P : Lin p) {m c : Nat} {A : Mat} (hc : c < m) (hA : ∀ i, i < c → ∀ a, a < m → A a i = p a (E n b i)) (y : Vec) :
    ∀ {k : Nat}, k ≤ c → det m (upc A c fun a => p a (R n b k y)) = det m (upc A c fun a => p a y)
  | 0, _ => rfl
  | k + 1, h => by
    rw [← det_R P hc hA y (k := k) (by omega)]
    have e := det_col_op (A := A) (c := c) (d := k) (s := - mu n b y k) (u := fun a => p a (R n b k y)) hc (by omega) (by omega)
    rw [← e]
    refine det_congr fun a j ha _ => ?_
    by_cases q : j = c
    · subst q
      rw [upc_same, upc_same, R_succ, P.sub, hA k (by omega) a ha]
      grind
    · rw [upc_ne q, upc_ne q]
theorem det_gs {p : Nat → Vec → Rat} (P : Lin p) {m : Nat} {y : Nat → Vec} (hy : ∀ c, c + 1 < m → y c = b c) : ∀ {k : Nat}, k ≤ m →
    det m (fun a c => p a (y c)) = det m (fun a c => if c < k then p a (R n b c (y c)) else p a (y c))
  | 0, _ => det_congr fun a c _ _ => by rw [if_neg (by omega)]
  | k + 1, h => by
    rw [det_gs P hy (k := k) (by omega)]
    have e := det_R (n := n) (b := b) P (m := m) (c := k) (A := fun a c => if c < k then p a (R n b c (y c)) else p a (y c)) (by omega) (fun i hi a _ => by
      show (if i < k then p a (R n b i (y i)) else p a (y i)) = _
      rw [if_pos hi, hy i (by omega)]
      rfl) (y k) (Nat.le_refl k)
    have f : det m (upc (fun a c => if c < k then p a (R n b c (y c)) else p a (y c)) k fun a => p a (y k)) = det m (fun a c => if c < k then p a (R n b c (y c)) else p a (y c)) := det_congr fun a c _ _ => by
      by_cases q : c = k
      · subst q
        rw [upc_same, if_neg (by omega)]
      · rw [upc_ne q]
    rw [← f, ← e]
    refine det_congr fun a c _ _ => ?_
    by_cases q : c = k
    · subst q
      rw [upc_same, if_pos (by omega)]
    · rw [upc_ne q]
      by_cases r : c < k
      · rw [if_pos r, if_pos (by omega)]
      · rw [if_neg r, if_neg (by omega)]
/-- the determinant of the rows' products, the last column's with another row -/
theorem det_lead (x : Vec) (j : Nat) : det (j + 1) (fun a c => ip n (b a) (if c = j then x else b c)) = prod j (N n b) * ip n x (E n b j) := by
  have P : Lin fun a y => ip n (b a) y := ⟨fun a s x y => ip_sub_r⟩
  have e := det_gs (n := n) (b := b) P (m := j + 1) (y := fun c => if c = j then x else b c) (fun c hc => if_neg (by omega)) (Nat.le_refl _)
  rw [e, det_low fun a c hac hc => ?_]
  · show prod j _ * _ = _
    congr 1
    · refine prod_congr fun i hi => ?_
      rw [if_pos (by omega), if_neg (by omega)]
      exact (ip_E (b i) i)
    · show (if j < j + 1 then ip n (b j) (R n b j (if j = j then x else b j)) else _) = _
      rw [if_pos (by omega), if_pos rfl, ip_E x j]
      rw [← ip_R_R (n := n) (b := b) (b j) x (Nat.le_refl j), ip_comm]
      rfl
  · rw [if_pos (by omega)]
    rw [← ip_R_R (n := n) (b := b) (b a) _ (Nat.le_refl c)]
    exact ip_zero_l (R_own0 hac)
/-- D -/
theorem det_vol (j : Nat) : det (j + 1) (fun a c => ip n (b a) (b c)) = prod (j + 1) (N n b) := by
  have e := det_lead (n := n) (b := b) (b j) j
  have f : (fun a c => ip n (b a) (if c = j then b j else b c)) = fun a c => ip n (b a) (b c) := by
    funext a c
    by_cases h : c = j
    · rw [if_pos h, h]
    · rw [if_neg h]
  rw [f, ip_E] at e
  exact e
/-- rows that aren't flat have leftovers -/
theorem N_pos (h : det n (fun i j => b i j) ≠ 0) {k : Nat} (hk : k < n) : 0 < N n b k := by
  have a := N_nonneg (n := n) (b := b) k
  rcases Rat.le_iff_lt_or_eq.mp a with q | q
  · exact q
  · refine absurd ?_ h
    rw [det_tr]
    have P : Lin fun a (y : Vec) => y a := ⟨fun a s x y => rfl⟩
    have e := det_gs (n := n) (b := b) P (m := n) (y := b) (fun _ _ => rfl) (Nat.le_refl _)
    have f : (fun i j => b j i) = fun a c => (fun a (y : Vec) => y a) a (b c) := rfl
    rw [f, e]
    refine det_col_zero hk fun i hi => ?_
    rw [if_pos hk]
    exact E_zero q.symm i hi
end Gst

/-! Rows lowered, rows changed: what stays (over Rat). -/
namespace Gst
variable {n : Nat} {b b' : Nat → Vec}
theorem ip_E_congr {k : Nat} {x x' : Vec} (h : ∀ i, i < n → E n b' k i = E n b k i) (hx : ∀ i, i < n → x' i = x i) : ip n x' (E n b' k) = ip n x (E n b k) := ip_congr hx h
theorem N_congr {k : Nat} (h : ∀ i, i < n → E n b' k i = E n b k i) : N n b' k = N n b k := ip_congr h h
/-- from the place s on the same leftovers -/
theorem R_congr {s : Nat} (h0 : ∀ x i, i < n → R n b' s x i = R n b s x i) : ∀ {k : Nat}, s ≤ k → (∀ j, s ≤ j → j < k → ∀ i, i < n → E n b' j i = E n b j i) → ∀ x i, i < n → R n b' k x i = R n b k x i := by
  intro k
  induction k with
  | zero =>
    intro h _ x i hi
    have e : s = 0 := by omega
    subst e
    rfl
  | succ k ih =>
    intro h hE x i hi
    by_cases e : s = k + 1
    · subst e
      exact h0 x i hi
    · have r := ih (by omega) (fun j h1 h2 => hE j h1 (by omega)) x
      have q := hE k (by omega) (by omega)
      rw [R_succ, R_succ]
      show R n b' k x i - mu n b' x k * E n b' k i = R n b k x i - mu n b x k * E n b k i
      have m : mu n b' x k = mu n b x k := by
        unfold mu
        rw [ip_congr r q, N_congr q]
      rw [r i hi, q i hi, m]
theorem mu_congr {k : Nat} {x x' : Vec} (hR : ∀ i, i < n → R n b' k x' i = R n b k x i) (hE : ∀ i, i < n → E n b' k i = E n b k i) : mu n b' x' k = mu n b x k := by
  unfold mu
  rw [ip_congr hR hE, N_congr hE]
theorem R_arg {k : Nat} {x x' : Vec} (h : ∀ i, i < n → x' i = x i) : ∀ i, i < n → R n b k x' i = R n b k x i := by
  induction k with
  | zero => exact h
  | succ k ih =>
    intro i hi
    rw [R_succ, R_succ]
    show R n b k x' i - mu n b x' k * _ = _
    rw [ih i hi, mu_congr ih fun _ _ => rfl]
/-! ### lowered: row k less q times row j -/
structure Low (n : Nat) (b b' : Nat → Vec) (k j : Nat) (q : Rat) : Prop where
  lt : j < k
  at_k : ∀ i, i < n → b' k i = b k i - q * b j i
  off : ∀ a, a ≠ k → ∀ i, i < n → b' a i = b a i
theorem Low.sE {k j : Nat} {q : Rat} (L : Low n b b' k j q) : ∀ (a : Nat) (i : Nat), i < n → E n b' a i = E n b a i := by
  intro a
  induction a using Nat.strongRecOn with
  | _ a ih =>
    intro i hi
    show R n b' a (b' a) i = R n b a (b a) i
    rw [R_congr (n := n) (b := b) (b' := b') (s := 0) (fun _ _ _ => rfl) (Nat.zero_le a) (fun c _ h => ih c h) (b' a) i hi]
    by_cases e : a = k
    · subst e
      rw [R_arg (L.at_k) i hi, R_sub]
      show R n b a (b a) i - q * R n b a (b j) i = _
      rw [R_own0 L.lt i hi]
      grind
    · exact R_arg (L.off a e) i hi
theorem Low.sN {k j : Nat} {q : Rat} (L : Low n b b' k j q) (a : Nat) : N n b' a = N n b a := N_congr (L.sE a)
theorem Low.sR {k j : Nat} {q : Rat} (L : Low n b b' k j q) (a : Nat) (x : Vec) : ∀ i, i < n → R n b' a x i = R n b a x i :=
  R_congr (n := n) (b := b) (b' := b') (s := 0) (fun _ _ _ => rfl) (Nat.zero_le a) (fun c _ _ => L.sE c) x
theorem Low.smu {k j : Nat} {q : Rat} (L : Low n b b' k j q) (a : Nat) (x : Vec) : mu n b' x a = mu n b x a := mu_congr (L.sR a x) (L.sE a)
theorem mu_arg {k : Nat} {x x' : Vec} (h : ∀ i, i < n → x' i = x i) : mu n b x' k = mu n b x k := mu_congr (R_arg h) fun _ _ => rfl
/-- the multiples in the rows, behind the step -/
theorem Low.mu_off {k j : Nat} {q : Rat} (L : Low n b b' k j q) {a : Nat} (h : a ≠ k) (c : Nat) : mu n b' (b' a) c = mu n b (b a) c :=
  (L.smu c _).trans (mu_arg (L.off a h))
theorem Low.mu_k {k j : Nat} {q : Rat} (L : Low n b b' k j q) (c : Nat) : mu n b' (b' k) c = mu n b (b k) c - q * mu n b (b j) c :=
  ((L.smu c _).trans (mu_arg L.at_k)).trans (mu_lin q (b k) (b j) c)
/-! ### changed: rows p and p + 1 in each other's places -/
structure Chg (n : Nat) (b b' : Nat → Vec) (p : Nat) : Prop where
  at_p : ∀ i, i < n → b' p i = b (p + 1) i
  at_q : ∀ i, i < n → b' (p + 1) i = b p i
  off : ∀ a, a ≠ p → a ≠ p + 1 → ∀ i, i < n → b' a i = b a i
section
variable {p : Nat} (C : Chg n b b' p)
include C
theorem Chg.E_lt : ∀ (a : Nat), a < p → ∀ (i : Nat), i < n → E n b' a i = E n b a i := by
  intro a
  induction a using Nat.strongRecOn with
  | _ a ih =>
    intro ha i hi
    show R n b' a (b' a) i = R n b a (b a) i
    rw [R_congr (n := n) (b := b) (b' := b') (s := 0) (fun _ _ _ => rfl) (Nat.zero_le a) (fun c _ h => ih c h (by omega)) (b' a) i hi]
    exact R_arg (C.off a (by omega) (by omega)) i hi
theorem Chg.R_p (x : Vec) : ∀ i, i < n → R n b' p x i = R n b p x i :=
  R_congr (n := n) (b := b) (b' := b') (s := 0) (fun _ _ _ => rfl) (Nat.zero_le p) (fun c _ h => C.E_lt c h) x
/-- the new row p at right angles -/
theorem Chg.E_p : ∀ i, i < n → E n b' p i = E n b (p + 1) i + mu n b (b (p + 1)) p * E n b p i := fun i hi => by
  show R n b' p (b' p) i = _
  rw [C.R_p _ i hi, R_arg C.at_p i hi]
  have e : E n b (p + 1) i = R n b p (b (p + 1)) i - mu n b (b (p + 1)) p * E n b p i := rfl
  rw [e]
  grind
theorem Chg.N_p : N n b' p = N n b (p + 1) + mu n b (b (p + 1)) p * mu n b (b (p + 1)) p * N n b p := by
  have e : N n b' p = ip n (R n b p (b (p + 1))) (R n b p (b (p + 1))) := ip_congr (fun i hi => (C.R_p _ i hi).trans (R_arg C.at_p i hi)) fun i hi => (C.R_p _ i hi).trans (R_arg C.at_p i hi)
  rw [e, R_sq]
  rfl
theorem Chg.ip_uv : ip n (E n b p) (E n b' p) = mu n b (b (p + 1)) p * N n b p := by
  have e : ip n (E n b p) (E n b' p) = ip n (R n b p (b (p + 1))) (E n b p) := by
    rw [ip_comm]
    exact ip_congr (fun i hi => (C.R_p _ i hi).trans (R_arg C.at_p i hi)) fun _ _ => rfl
  rw [e, mu_N]
/-- the new row p + 1 at right angles -/
theorem Chg.E_q : ∀ i, i < n → E n b' (p + 1) i = E n b p i - mu n b (b (p + 1)) p * N n b p / N n b' p * E n b' p i := fun i hi => by
  have a : ∀ i, i < n → R n b' p (b' (p + 1)) i = E n b p i := fun i hi => (C.R_p _ i hi).trans (R_arg C.at_q i hi)
  have m : mu n b' (b' (p + 1)) p = mu n b (b (p + 1)) p * N n b p / N n b' p := by
    rw [← C.ip_uv]
    show ip n (R n b' p (b' (p + 1))) (E n b' p) / N n b' p = _
    rw [ip_congr (n := n) a (fun _ _ => rfl)]
  show R n b' p (b' (p + 1)) i - mu n b' (b' (p + 1)) p * E n b' p i = _
  rw [a i hi, m]
theorem Chg.N_pq (h : N n b' p ≠ 0) : N n b' p * N n b' (p + 1) = N n b p * N n b (p + 1) := by
  have e : N n b' (p + 1) = ip n (fun i => E n b p i - mu n b (b (p + 1)) p * N n b p / N n b' p * E n b' p i) (fun i => E n b p i - mu n b (b (p + 1)) p * N n b p / N n b' p * E n b' p i) := ip_congr C.E_q C.E_q
  have u := C.ip_uv
  have v := C.N_p
  have w : ip n (E n b' p) (E n b p) = mu n b (b (p + 1)) p * N n b p := (ip_comm _ _ _).trans u
  have x : ip n (E n b' p) (E n b' p) = N n b' p := rfl
  have y : ip n (E n b p) (E n b p) = N n b p := rfl
  rw [e, ip_sub, ip_sub_r, ip_sub_r, u, w, x, y]
  have k : mu n b (b (p + 1)) p * N n b p / N n b' p * N n b' p = mu n b (b (p + 1)) p * N n b p := Rat.div_mul_cancel h
  grind
/-- behind both rows the same leftovers -/
theorem Chg.R_pq (h0 : N n b p ≠ 0) (h1 : N n b (p + 1) ≠ 0) (h2 : N n b' p ≠ 0) (x : Vec) : ∀ i, i < n → R n b' (p + 2) x i = R n b (p + 2) x i := fun i hi => by
  have hq : N n b' (p + 1) ≠ 0 := fun z => by
    have a := C.N_pq h2
    rw [z] at a
    have : N n b p * N n b (p + 1) = 0 := by grind
    rcases Rat.mul_eq_zero.mp this with k | k
    · exact h0 k
    · exact h1 k
  have r := C.R_p x
  -- y: what is left ahead of both
  have yu : ip n (R n b p x) (E n b p) = mu n b x p * N n b p := (mu_N x p).symm
  have ye : ip n (R n b p x) (E n b (p + 1)) = mu n b x (p + 1) * N n b (p + 1) := by
    rw [mu_N, ← ip_E x (p + 1)]
    exact ip_R_R (n := n) (b := b) x (b (p + 1)) (m := p + 1) (i := p) (by omega)
  have yv : mu n b' x p * N n b' p = mu n b x (p + 1) * N n b (p + 1) + mu n b (b (p + 1)) p * (mu n b x p * N n b p) := by
    rw [mu_N, ip_congr (n := n) r C.E_p, ← yu, ← ye, ip_comm, ip_add, ip_mul, ip_comm, ip_comm n (E n b p)]
  have yw : mu n b' x (p + 1) * N n b' (p + 1) = mu n b x p * N n b p - mu n b (b (p + 1)) p * N n b p / N n b' p * (mu n b' x p * N n b' p) := by
    have o : ip n (R n b' p x) (E n b' (p + 1)) = ip n x (E n b' (p + 1)) := ip_R_R (n := n) (b := b') x (b' (p + 1)) (m := p + 1) (i := p) (by omega)
    rw [mu_N, ← ip_E x (p + 1), ← o]
    have mv := mu_N (n := n) (b := b') x p
    rw [ip_congr (n := n) (fun _ _ => rfl) C.E_q, ip_sub_r, ← mv, ip_congr (n := n) r (fun _ _ => rfl), yu]
  have eu := C.E_p i hi
  have ev := C.E_q i hi
  have nv := C.N_p
  have nq := C.N_pq h2
  show R n b' p x i - mu n b' x p * E n b' p i - mu n b' x (p + 1) * E n b' (p + 1) i = R n b p x i - mu n b x p * E n b p i - mu n b x (p + 1) * E n b (p + 1) i
  rw [r i hi, ev, eu]
  have k : mu n b (b (p + 1)) p * N n b p / N n b' p * N n b' p = mu n b (b (p + 1)) p * N n b p := Rat.div_mul_cancel h2
  generalize mu n b (b (p + 1)) p * N n b p / N n b' p = t at *
  generalize mu n b (b (p + 1)) p = m at *
  generalize mu n b x p = a at *
  generalize mu n b x (p + 1) = c at *
  generalize mu n b' x p = a' at *
  generalize mu n b' x (p + 1) = c' at *
  generalize E n b (p + 1) i = e at *
  generalize E n b p i = u at *
  generalize N n b' (p + 1) = Nw at *
  generalize N n b' p = Nv at *
  generalize N n b (p + 1) = Ne at *
  generalize N n b p = Nu at *
  generalize R n b p x i = Y at *
  clear r ye yu eu ev hi C
  -- c' = a - t * a' ; a = c' * .. 
  have f1 : (c' - (a - m * c)) * (Nv * Nw) = 0 := by grind
  have f2 : (a' - (t * (a - m * c) + c)) * Nv = 0 := by grind
  have g1 : c' = a - m * c := by
    rcases Rat.mul_eq_zero.mp f1 with z | z
    · grind
    · rcases Rat.mul_eq_zero.mp z with z | z
      · exact absurd z h2
      · exact absurd z hq
  have g2 : a' = t * (a - m * c) + c := by
    rcases Rat.mul_eq_zero.mp f2 with z | z
    · grind
    · exact absurd z h2
  rw [g1, g2]
  grind
theorem Chg.E_gt (h0 : N n b p ≠ 0) (h1 : N n b (p + 1) ≠ 0) (h2 : N n b' p ≠ 0) : ∀ (a : Nat), p + 2 ≤ a → ∀ (i : Nat), i < n → E n b' a i = E n b a i := by
  intro a
  induction a using Nat.strongRecOn with
  | _ a ih =>
    intro ha i hi
    show R n b' a (b' a) i = R n b a (b a) i
    rw [R_congr (n := n) (b := b) (b' := b') (s := p + 2) (C.R_pq h0 h1 h2) ha (fun c k h => ih c h k) (b' a) i hi]
    exact R_arg (C.off a (by omega) (by omega)) i hi
end
end Gst

/-! The specification's rows as rows over Rat. -/
namespace Gst
open Si18 (Row Rows)
def vec (x : Row) : Vec := fun i => ((x.getD i 0 : Int) : Rat)
def mat (b : Rows) : Nat → Vec := fun k => vec (Si18.row b k)
/-- n rows of n numbers -/
structure Sqr (n : Nat) (b : Rows) : Prop where
  len : b.length = n
  wide : ∀ x : Row, x ∈ b → x.length = n
theorem row_mem {b : Rows} {k : Nat} (h : k < b.length) : Si18.row b k ∈ b := by
  unfold Si18.row
  rw [List.getD_eq_getElem?_getD, List.getElem?_eq_getElem h]
  exact List.getElem_mem h
theorem Sqr.row {n : Nat} {b : Rows} (S : Sqr n b) {k : Nat} (h : k < n) : (Si18.row b k).length = n := S.wide _ (row_mem (by rw [S.len]; exact h))
theorem vec_cons (a : Int) (x : Row) (i : Nat) : vec (a :: x) (i + 1) = vec x i := rfl
theorem dot_cons (a c : Int) (x y : Row) : Si18.dot (a :: x) (c :: y) = a * c + Si18.dot x y := by
  simp [Si18.dot]
theorem dot_cast : ∀ {n : Nat} {x y : Row}, x.length = n → y.length = n → ((Si18.dot x y : Int) : Rat) = ip n (vec x) (vec y)
  | 0, [], [], _, _ => rfl
  | n + 1, a :: x, c :: y, hx, hy => by
    rw [dot_cons, Rat.intCast_add, Rat.intCast_mul, dot_cast (n := n) (Nat.succ.inj hx) (Nat.succ.inj hy)]
    unfold ip
    rw [sum_front]
    rfl
theorem sum_cast (f : Nat → Int) : ∀ n, ((((List.range n).map f).sum : Int) : Rat) = sum n fun j => ((f j : Int) : Rat)
  | 0 => rfl
  | n + 1 => by
    rw [List.range_succ, List.map_append, List.sum_append]
    simp only [List.map_cons, List.map_nil, List.sum_cons, List.sum_nil, Int.add_zero]
    rw [Rat.intCast_add, sum_cast f n]
    rfl
theorem getD_erase (x : Row) (j c : Nat) : (x.eraseIdx j).getD c 0 = x.getD (skip j c) 0 := by
  rw [List.getD_eq_getElem?_getD, List.getD_eq_getElem?_getD, List.getElem?_eraseIdx]
  unfold skip
  split <;> rfl
theorem det_cast : ∀ {n : Nat} {m : Rows}, m.length = n → ((Si18.det n m : Int) : Rat) = det n (mat m)
  | 0, _, _ => rfl
  | n + 1, r :: l, h => by
    have hl : l.length = n := Nat.succ.inj h
    show ((((List.range (n + 1)).map fun j => (if j % 2 = 0 then (1 : Int) else -1) * r.getD j 0 * Si18.det n (l.map fun (x : Row) => x.eraseIdx j)).sum : Int) : Rat) = _
    rw [sum_cast, det_succ]
    refine sum_congr fun j hj => ?_
    rw [Rat.intCast_mul, Rat.intCast_mul, det_cast (n := n) (by rw [List.length_map]; exact hl)]
    have s : (((if j % 2 = 0 then (1 : Int) else -1) : Int) : Rat) = sgn j := by
      unfold sgn
      split <;> rfl
    rw [s]
    show sgn j * mat (r :: l) 0 j * _ = _
    congr 1
    refine det_congr fun i c hi hc => ?_
    show vec (Si18.row (l.map fun (x : Row) => x.eraseIdx j) i) c = vec (Si18.row (r :: l) (i + 1)) (skip j c)
    unfold vec Si18.row
    have e : (l.map fun (x : Row) => x.eraseIdx j).getD i [] = (l.getD i []).eraseIdx j := by
      rw [List.getD_eq_getElem?_getD, List.getD_eq_getElem?_getD, List.getElem?_map]
      cases l[i]? <;> simp
    rw [e, getD_erase]
    rfl
theorem getD_range {α : Type} (f : Nat → α) (d : α) {n i : Nat} (h : i < n) : ((List.range n).map f).getD i d = f i := by
  rw [List.getD_eq_getElem?_getD, List.getElem?_map, List.getElem?_range h]
  rfl
theorem lead_cast {n : Nat} {b : Rows} (S : Sqr n b) {x : Row} (hx : x.length = n) {j : Nat} (hj : j < n) :
    ((Si18.lead b x j : Int) : Rat) = prod j (N n (mat b)) * ip n (vec x) (E n (mat b) j) := by
  rw [← det_lead]
  unfold Si18.lead
  rw [det_cast (by rw [List.length_map, List.length_range])]
  refine det_congr fun a c ha hc => ?_
  show vec (Si18.row _ a) c = _
  unfold vec Si18.row
  rw [getD_range _ _ ha, getD_range _ _ hc]
  have ra := S.row (k := a) (by omega)
  by_cases e : c = j
  · rw [if_pos e, if_pos e]
    exact dot_cast ra hx
  · rw [if_neg e, if_neg e]
    exact dot_cast ra (S.row (by omega))
theorem lam_cast {n : Nat} {b : Rows} (S : Sqr n b) {k j : Nat} (hk : k < n) (hj : j < n) :
    ((Si18.lam b k j : Int) : Rat) = prod j (N n (mat b)) * (mu n (mat b) (mat b k) j * N n (mat b) j) := by
  unfold Si18.lam
  rw [lead_cast S (S.row hk) hj, mu_eq]
  rfl
theorem vol_cast {n : Nat} {b : Rows} (S : Sqr n b) : ∀ {j : Nat}, j ≤ n → ((Si18.vol b j : Int) : Rat) = prod j (N n (mat b))
  | 0, _ => rfl
  | j + 1, h => by
    show ((Si18.lam b j j : Int) : Rat) = _
    unfold Si18.lam
    rw [lead_cast S (S.row (by omega)) (by omega), ip_E]
    rfl
/-! ### the nearest whole number -/
theorem nearest_le {x y : Int} (h : 0 < y) : 2 * (x - Si18.nearest x y * y) < y ∧ -y ≤ 2 * (x - Si18.nearest x y * y) := by
  unfold Si18.nearest
  have a := Int.mul_ediv_add_emod (2 * x + y) (2 * y)
  have b := Int.emod_nonneg (2 * x + y) (b := 2 * y) (by omega)
  have c := Int.emod_lt_of_pos (2 * x + y) (b := 2 * y) (by omega)
  generalize (2 * x + y) / (2 * y) = q at *
  generalize (2 * x + y) % (2 * y) = r at *
  have e : 2 * y * q = 2 * (q * y) := by
    rw [Int.mul_assoc, Int.mul_comm y q]
  rw [e] at a
  generalize q * y = z at *
  omega
/-! ### one step of lowering -/
theorem row_set {b : Rows} {k i : Nat} {x : Row} (h : k < b.length) : Si18.row (b.set k x) i = if i = k then x else Si18.row b i := by
  unfold Si18.row
  rw [List.getD_eq_getElem?_getD, List.getD_eq_getElem?_getD, List.getElem?_set]
  by_cases e : i = k
  · subst e
    simp [h]
  · rw [if_neg (Ne.symm e), if_neg e]
theorem plus_len {x y : Row} : (Si18.plus x y).length = min x.length y.length := by
  unfold Si18.plus
  exact List.length_zipWith
theorem times_len {c : Int} {x : Row} : (Si18.times c x).length = x.length := by
  unfold Si18.times
  exact List.length_map _
theorem vec_plus {n : Nat} {x y : Row} {c : Int} (hx : x.length = n) (hy : y.length = n) (i : Nat) : vec (Si18.plus x (Si18.times c y)) i = vec x i + (c : Rat) * vec y i := by
  unfold vec Si18.plus Si18.times
  rw [List.getD_eq_getElem?_getD, List.getD_eq_getElem?_getD, List.getD_eq_getElem?_getD, List.getElem?_zipWith, List.getElem?_map]
  by_cases h : i < n
  · rw [List.getElem?_eq_getElem (by omega), List.getElem?_eq_getElem (by omega)]
    show ((x[i] + c * y[i] : Int) : Rat) = _
    rw [Rat.intCast_add, Rat.intCast_mul]
    rfl
  · rw [List.getElem?_eq_none (by omega), List.getElem?_eq_none (by omega)]
    show ((0 : Int) : Rat) = ((0 : Int) : Rat) + c * ((0 : Int) : Rat)
    have z : ((0 : Int) : Rat) = 0 := rfl
    rw [z]
    grind
theorem shrink_sqr {n : Nat} {b : Rows} (S : Sqr n b) {k j : Nat} (hk : k < n) (hj : j < n) : Sqr n (Si18.shrink b k j) := by
  unfold Si18.shrink
  refine ⟨by rw [List.length_set]; exact S.len, fun x hx => ?_⟩
  rcases List.mem_or_eq_of_mem_set hx with h | h
  · exact S.wide x h
  · rw [h, plus_len, times_len, S.row hk, S.row hj]
    omega
theorem shrink_low {n : Nat} {b : Rows} (S : Sqr n b) {k j : Nat} (hk : k < n) (hj : j < k) : Low n (mat b) (mat (Si18.shrink b k j)) k j (Si18.nearest (Si18.lam b k j) (Si18.vol b (j + 1)) : Int) := by
  refine ⟨hj, fun i hi => ?_, fun a ha i hi => ?_⟩
  · show vec (Si18.row (b.set k _) k) i = _
    rw [row_set (by rw [S.len]; exact hk), if_pos rfl, vec_plus (S.row hk) (S.row (by omega)), Rat.intCast_neg]
    show mat b k i + _ * mat b j i = _
    grind
  · show vec (Si18.row (b.set k _) a) i = _
    rw [row_set (by rw [S.len]; exact hk), if_neg ha]
    rfl
/-- determinants behind a step -/
theorem Low.det {n : Nat} {b b' : Nat → Vec} {k j : Nat} {q : Rat} (L : Low n b b' k j q) (hk : k < n) : Gst.det n b' = Gst.det n b := by
  rw [det_tr n b', det_tr n b]
  have e := det_col_op (A := fun i j => b j i) (c := k) (d := j) (s := -q) (u := fun i => b k i) hk (Nat.lt_trans L.lt hk) (Nat.ne_of_gt L.lt)
  rw [show upc (fun i j => b j i) k (fun i => b k i) = fun i j => b j i from upc_self] at e
  rw [← e]
  refine det_congr fun i c hi hc => ?_
  by_cases h : c = k
  · subst h
    rw [upc_same, L.at_k i hi]
    grind
  · rw [upc_ne h, L.off c h i hi]
theorem Chg.det {n : Nat} {b b' : Nat → Vec} {p : Nat} (C : Chg n b b' p) (hp : p + 1 < n) : Gst.det n b' = - Gst.det n b := by
  rw [det_tr n b', det_tr n b, ← det_swap (c := p) hp]
  refine det_congr fun i c hi hc => ?_
  by_cases h : c = p + 1
  · subst h
    rw [upc_same, C.at_q i hi]
  · rw [upc_ne h]
    by_cases h2 : c = p
    · subst h2
      rw [upc_same, C.at_p i hi]
    · rw [upc_ne h2, C.off c h2 h i hi]
end Gst

/-! Reducing ends, within what is told. -/
namespace Gst
open Si18 (Row Rows)
theorem half_of {D m N : Rat} (hD : 0 < D) (hN : 0 < N) (h1 : -(D * N) ≤ 2 * (D * (m * N))) (h2 : 2 * (D * (m * N)) ≤ D * N) : -1 ≤ 2 * m ∧ 2 * m ≤ 1 := by
  have hp := Rat.mul_pos hD hN
  constructor
  · refine Rat.le_of_mul_le_mul_left (c := D * N) ?_ hp
    grind
  · refine Rat.le_of_mul_le_mul_left (c := D * N) ?_ hp
    grind
theorem cast_le {a b : Int} (h : a ≤ b) : (a : Rat) ≤ (b : Rat) := Rat.intCast_le_intCast.mpr h
theorem cast_lt {a b : Int} (h : a < b) : (a : Rat) < (b : Rat) := Rat.intCast_lt_intCast.mpr h
/-- rows not flat, their leftovers at most so great -/
structure Pos (n : Nat) (be : Rat) (b : Rows) : Prop where
  sq : Sqr n b
  pos : ∀ i, i < n → 0 < N n (mat b) i
  le : ∀ i, i < n → N n (mat b) i ≤ be
def Half (x : Rat) : Prop := -1 ≤ 2 * x ∧ 2 * x ≤ 1
variable {n : Nat} {be : Rat} {b : Rows}
theorem Pos.vol_pos (P : Pos n be b) {j : Nat} (hj : j ≤ n) : 0 < Si18.vol b j := by
  have e := vol_cast P.sq hj
  have p := prod_pos (f := N n (mat b)) (n := j) fun i hi => P.pos i (by omega)
  rw [← e] at p
  exact Rat.intCast_pos.mp p
theorem Pos.shrink (P : Pos n be b) {k j : Nat} (hk : k < n) (hj : j < k) : Pos n be (Si18.shrink b k j) := by
  have L := shrink_low P.sq hk hj
  exact ⟨shrink_sqr P.sq hk (by omega), fun i hi => by rw [L.sN]; exact P.pos i hi, fun i hi => by rw [L.sN]; exact P.le i hi⟩
theorem Pos.shrink_half (P : Pos n be b) {k j : Nat} (hk : k < n) (hj : j < k) : Half (mu n (mat (Si18.shrink b k j)) (mat (Si18.shrink b k j) k) j) := by
  have L := shrink_low P.sq hk hj
  have v := P.vol_pos (j := j + 1) (by omega)
  have q := nearest_le (x := Si18.lam b k j) v
  rw [L.mu_k, mu_own (Rat.ne_of_gt (P.pos j (by omega)))]
  have e1 := lam_cast P.sq hk (j := j) (by omega)
  have e2 := vol_cast P.sq (j := j + 1) (by omega)
  generalize Si18.nearest (Si18.lam b k j) (Si18.vol b (j + 1)) = z at *
  have h1 := cast_le q.2
  have h2 := cast_le (Int.le_of_lt q.1)
  rw [Rat.intCast_neg, Rat.intCast_mul, Rat.intCast_sub, Rat.intCast_mul, e1, e2] at h1
  rw [Rat.intCast_mul, Rat.intCast_sub, Rat.intCast_mul, e1, e2] at h2
  have pj := prod_pos (f := N n (mat b)) (n := j) fun i hi => P.pos i (by omega)
  have two : ((2 : Int) : Rat) = 2 := rfl
  rw [two] at h1 h2
  have s : prod (j + 1) (N n (mat b)) = prod j (N n (mat b)) * N n (mat b) j := rfl
  rw [s] at h1 h2
  refine half_of pj (P.pos j (by omega)) ?_ ?_
  · grind
  · grind
/-- what a row lowered keeps, and what it gains from j on -/
structure Lowed (n : Nat) (b c : Rows) (k j : Nat) : Prop where
  N : ∀ i, N n (mat c) i = N n (mat b) i
  row : ∀ a, a ≠ k → ∀ i, Gst.mu n (mat c) (mat c a) i = Gst.mu n (mat b) (mat b a) i
  half : ∀ i, j ≤ i → i < k → Half (Gst.mu n (mat c) (mat c k) i)
  same : ∀ a, a ≠ k → Si18.row c a = Si18.row b a
  det : Gst.det n (mat c) = Gst.det n (mat b)
theorem lowed_step (P : Pos n be b) {c : Rows} (Pc : Pos n be c) {k j : Nat} (hk : k < n) (hj : j < k) (L : Lowed n b c k (j + 1)) : Lowed n b (Si18.shrink c k j) k j := by
  have l := shrink_low Pc.sq hk hj
  refine ⟨fun i => (l.sN i).trans (L.N i), fun a ha i => (l.mu_off ha i).trans (L.row a ha i), fun i h1 h2 => ?_, fun a ha => ?_, (l.det hk).trans L.det⟩
  · by_cases e : i = j
    · subst e
      exact Pc.shrink_half hk hj
    · rw [l.mu_k, mu_past (show j < i by omega)]
      have q := L.half i (by omega) h2
      unfold Half at *
      grind
  · unfold Si18.shrink
    rw [row_set (by rw [Pc.sq.len]; exact hk), if_neg ha]
    exact L.same a ha
theorem range_rev (j : Nat) : (List.range (j + 1)).reverse = j :: (List.range j).reverse := by
  rw [List.range_succ, List.reverse_append]
  rfl
theorem lowed_fold (P : Pos n be b) {k : Nat} (hk : k < n) : ∀ {j : Nat} {c : Rows}, j ≤ k → Pos n be c → Lowed n b c k j →
    Pos n be ((List.range j).reverse.foldl (fun (c : Rows) (j : Nat) => Si18.shrink c k j) c) ∧ Lowed n b ((List.range j).reverse.foldl (fun (c : Rows) (j : Nat) => Si18.shrink c k j) c) k 0
  | 0, c, _, Pc, L => ⟨Pc, L⟩
  | j + 1, c, h, Pc, L => by
    rw [range_rev, List.foldl_cons]
    exact lowed_fold P hk (by omega) (Pc.shrink hk (by omega)) (lowed_step P Pc hk (by omega) L)
theorem shrunk_low (P : Pos n be b) {k : Nat} (hk : k < n) : Pos n be (Si18.shrunk b k) ∧ Lowed n b (Si18.shrunk b k) k 0 :=
  lowed_fold P hk (Nat.le_refl k) P ⟨fun _ => rfl, fun _ _ _ => rfl, fun i h1 h2 => by omega, fun _ _ => rfl, rfl⟩
/-! ### the inequality -/
theorem holds_iff (P : Pos n be b) {p : Nat} (hp : p + 1 < n) :
    Si18.holds b (p + 1) = true ↔ 3 * N n (mat b) p ≤ 4 * (N n (mat b) (p + 1) + mu n (mat b) (mat b (p + 1)) p * mu n (mat b) (mat b (p + 1)) p * N n (mat b) p) := by
  have e0 := vol_cast P.sq (j := p) (by omega)
  have e1 := vol_cast P.sq (j := p + 1) (by omega)
  have e2 := vol_cast P.sq (j := p + 2) (by omega)
  have e3 := lam_cast P.sq (k := p + 1) (j := p) hp (by omega)
  have pj := prod_pos (f := N n (mat b)) (n := p) fun i hi => P.pos i (by omega)
  have pn := P.pos p (by omega)
  have s1 : prod (p + 1) (N n (mat b)) = prod p (N n (mat b)) * N n (mat b) p := rfl
  have s2 : prod (p + 2) (N n (mat b)) = prod p (N n (mat b)) * N n (mat b) p * N n (mat b) (p + 1) := rfl
  rw [s1] at e1
  rw [s2] at e2
  unfold Si18.holds
  rw [show p + 1 - 1 = p from rfl, show p + 1 + 1 = p + 2 from rfl, decide_eq_true_iff, ← Rat.intCast_le_intCast]
  rw [Rat.intCast_mul, Rat.intCast_mul, Rat.intCast_add, Rat.intCast_mul, Rat.intCast_pow, Rat.intCast_pow, e0, e1, e2, e3]
  have t3 : ((3 : Int) : Rat) = 3 := rfl
  have t4 : ((4 : Int) : Rat) = 4 := rfl
  rw [t3, t4]
  generalize mu n (mat b) (mat b (p + 1)) p = m at *
  generalize prod p (N n (mat b)) = D at *
  generalize N n (mat b) (p + 1) = Ne at *
  generalize N n (mat b) p = Nu at *
  have hp2 : 0 < D * D * Nu := Rat.mul_pos (Rat.mul_pos pj pj) pn
  have l : 3 * (D * Nu) ^ 2 = D * D * Nu * (3 * Nu) := by grind
  have r : 4 * (D * Nu * Ne * D + (D * (m * Nu)) ^ 2) = D * D * Nu * (4 * (Ne + m * m * Nu)) := by grind
  rw [l, r]
  constructor
  · intro h
    exact Rat.le_of_mul_le_mul_left h hp2
  · intro h
    exact Rat.mul_le_mul_of_nonneg_left h (Rat.le_of_lt hp2)
/-! ### rows changed -/
theorem swapped_row (S : Sqr n b) {p : Nat} (hp : p + 1 < n) (a : Nat) : Si18.row (Si18.swapped b (p + 1)) a = if a = p then Si18.row b (p + 1) else if a = p + 1 then Si18.row b p else Si18.row b a := by
  unfold Si18.swapped
  have hl := S.len
  rw [show p + 1 - 1 = p from rfl, row_set (by rw [List.length_set]; omega)]
  by_cases h : a = p
  · rw [if_pos h, if_pos h]
  · rw [if_neg h, if_neg h, row_set (by omega)]
theorem swapped_sqr (S : Sqr n b) {p : Nat} (hp : p + 1 < n) : Sqr n (Si18.swapped b (p + 1)) := by
  unfold Si18.swapped
  refine ⟨by rw [List.length_set, List.length_set]; exact S.len, fun x hx => ?_⟩
  rcases List.mem_or_eq_of_mem_set hx with h | h
  · rcases List.mem_or_eq_of_mem_set h with h | h
    · exact S.wide x h
    · rw [h]
      exact S.row (k := p) (by omega)
  · rw [h]
    exact S.row hp
theorem swapped_chg (S : Sqr n b) {p : Nat} (hp : p + 1 < n) : Chg n (mat b) (mat (Si18.swapped b (p + 1))) p := by
  refine ⟨fun i _ => ?_, fun i _ => ?_, fun a h1 h2 i _ => ?_⟩
  · show vec (Si18.row _ p) i = _
    rw [swapped_row S hp, if_pos rfl]
    rfl
  · show vec (Si18.row _ (p + 1)) i = _
    rw [swapped_row S hp, if_neg (by omega), if_pos rfl]
    rfl
  · show vec (Si18.row _ a) i = _
    rw [swapped_row S hp, if_neg h1, if_neg h2]
    rfl
/-- what is gained when rows change places -/
structure Changed (n : Nat) (b c : Rows) (p : Nat) : Prop where
  Np : 4 * N n (mat c) p < 3 * N n (mat b) p
  Npq : N n (mat c) p * N n (mat c) (p + 1) = N n (mat b) p * N n (mat b) (p + 1)
  off : ∀ i, i ≠ p → i ≠ p + 1 → N n (mat c) i = N n (mat b) i
  mu : ∀ a i, a < p → i < a → Gst.mu n (mat c) (mat c a) i = Gst.mu n (mat b) (mat b a) i
  det : Gst.det n (mat c) = - Gst.det n (mat b)
theorem changed_of (P : Pos n be b) {p : Nat} (hp : p + 1 < n) (h : Si18.holds b (p + 1) = false) : Pos n be (Si18.swapped b (p + 1)) ∧ Changed n b (Si18.swapped b (p + 1)) p := by
  have C := swapped_chg P.sq hp
  have h' : ¬ (3 * N n (mat b) p ≤ 4 * (N n (mat b) (p + 1) + mu n (mat b) (mat b (p + 1)) p * mu n (mat b) (mat b (p + 1)) p * N n (mat b) p)) := fun z => by
    rw [(holds_iff P hp).mpr z] at h
    cases h
  rw [← C.N_p] at h'
  have p0 := P.pos p (by omega)
  have p1 := P.pos (p + 1) hp
  have l0 := P.le p (by omega)
  have ge : N n (mat b) (p + 1) ≤ N n (mat (Si18.swapped b (p + 1))) p := by
    rw [C.N_p]
    have := Rat.mul_nonneg (sq_nonneg (mu n (mat b) (mat b (p + 1)) p)) (Rat.le_of_lt p0)
    grind
  have q0 : 0 < N n (mat (Si18.swapped b (p + 1))) p := by grind
  have pq := C.N_pq (Rat.ne_of_gt q0)
  have q1 : 0 < N n (mat (Si18.swapped b (p + 1))) (p + 1) := by
    have := Rat.mul_pos p0 p1
    rw [← pq] at this
    exact (Rat.mul_pos_iff_of_pos_left q0).mp this
  have le1 : N n (mat (Si18.swapped b (p + 1))) (p + 1) ≤ N n (mat b) p := by
    refine Rat.le_of_mul_le_mul_left (c := N n (mat (Si18.swapped b (p + 1))) p) ?_ q0
    rw [pq]
    have := Rat.mul_le_mul_of_nonneg_left ge (Rat.le_of_lt p0)
    grind
  have off : ∀ i, i ≠ p → i ≠ p + 1 → N n (mat (Si18.swapped b (p + 1))) i = N n (mat b) i := fun i h1 h2 => by
    by_cases k : i < p
    · exact N_congr (C.E_lt i k)
    · exact N_congr (C.E_gt (Rat.ne_of_gt p0) (Rat.ne_of_gt p1) (Rat.ne_of_gt q0) i (by omega))
  refine ⟨⟨swapped_sqr P.sq hp, fun i hi => ?_, fun i hi => ?_⟩, ⟨by grind, pq, off, fun a i h1 h2 => ?_, C.det hp⟩⟩
  · by_cases k : i = p
    · rw [k]
      exact q0
    · by_cases k2 : i = p + 1
      · rw [k2]
        exact q1
      · rw [off i k k2]
        exact P.pos i hi
  · by_cases k : i = p
    · rw [k]
      grind
    · by_cases k2 : i = p + 1
      · rw [k2]
        grind
      · rw [off i k k2]
        exact P.le i hi
  · refine mu_congr ?_ (C.E_lt i (by omega))
    intro j hj
    refine (R_congr (n := n) (b := mat b) (b' := mat (Si18.swapped b (p + 1))) (s := 0) (fun _ _ _ => rfl) (Nat.zero_le i) (fun c _ h => C.E_lt c (by omega)) _ j hj).trans ?_
    exact R_arg (C.off a (by omega) (by omega)) j hj
/-! ### what falls -/
def pot (n : Nat) (b : Rows) : Rat := prod (n - 1) fun i => prod (i + 1) (N n (mat b))
theorem prod_one_lt {f g : Nat → Rat} {p : Nat} : ∀ {m : Nat}, p < m → (∀ i, i < m → 0 < f i) → (∀ i, i < m → 0 < g i) → (∀ i, i < m → i ≠ p → g i = f i) → 4 * g p ≤ 3 * f p → 4 * prod m g ≤ 3 * prod m f
  | 0, h, _, _, _, _ => by omega
  | m + 1, h, hf, hg, e, hp => by
    show 4 * (prod m g * g m) ≤ 3 * (prod m f * f m)
    by_cases k : p = m
    · subst k
      rw [prod_congr (f := g) (g := f) fun i hi => e i (by omega) (by omega)]
      have q := prod_pos (f := f) (n := p) fun i hi => hf i (by omega)
      have := Rat.mul_le_mul_of_nonneg_left hp (Rat.le_of_lt q)
      grind
    · have ih := prod_one_lt (m := m) (by omega) (fun i hi => hf i (by omega)) (fun i hi => hg i (by omega)) (fun i hi => e i (by omega)) hp
      rw [e m (by omega) (by omega)]
      have := Rat.mul_le_mul_of_nonneg_right ih (Rat.le_of_lt (hf m (by omega)))
      grind
theorem prod_off {f g : Nat → Rat} {p : Nat} (he : ∀ i, i ≠ p → i ≠ p + 1 → g i = f i) (h : g p * g (p + 1) = f p * f (p + 1)) : ∀ m, m ≠ p + 1 → prod m g = prod m f
  | 0, _ => rfl
  | m + 1, hm => by
    show prod m g * g m = prod m f * f m
    by_cases k : m = p + 1
    · subst k
      have e : prod p g = prod p f := prod_congr fun i hi => he i (by omega) (by omega)
      show prod p g * g p * g (p + 1) = prod p f * f p * f (p + 1)
      rw [e]
      grind
    · rw [prod_off he h m k, he m (by omega) k]
theorem pot_fall (P : Pos n be b) {c : Rows} (Pc : Pos n be c) {p : Nat} (hp : p + 1 < n) (C : Changed n b c p) : 4 * pot n c ≤ 3 * pot n b := by
  unfold pot
  refine prod_one_lt (p := p) (by omega) (fun i hi => prod_pos fun j hj => P.pos j (by omega)) (fun i hi => prod_pos fun j hj => Pc.pos j (by omega)) (fun i hi hne => prod_off C.off C.Npq (i + 1) (by omega)) ?_
  show 4 * (prod p (N n (mat c)) * N n (mat c) p) ≤ 3 * (prod p (N n (mat b)) * N n (mat b) p)
  rw [prod_congr (f := N n (mat c)) (g := N n (mat b)) fun i hi => C.off i (by omega) (by omega)]
  have q := prod_pos (f := N n (mat b)) (n := p) fun i hi => P.pos i (by omega)
  have := Rat.mul_le_mul_of_nonneg_left (Rat.le_of_lt C.Np) (Rat.le_of_lt q)
  grind
theorem prod_one_le {f : Nat → Rat} : ∀ {m : Nat}, (∀ i, i < m → 1 ≤ f i) → 1 ≤ prod m f
  | 0, _ => Rat.le_refl
  | m + 1, h => by
    show 1 ≤ prod m f * f m
    have a := prod_one_le (m := m) fun i hi => h i (by omega)
    have c := h m (by omega)
    have := Rat.mul_le_mul_of_nonneg_left c (show (0 : Rat) ≤ prod m f by grind)
    grind
theorem Pos.vol_one (P : Pos n be b) {j : Nat} (hj : j ≤ n) : 1 ≤ prod j (N n (mat b)) := by
  rw [← vol_cast P.sq hj]
  have h := P.vol_pos hj
  exact cast_le (a := 1) (by omega)
theorem Pos.pot_one (P : Pos n be b) : 1 ≤ pot n b := prod_one_le fun i hi => P.vol_one (by omega)
/-! ### the whole run -/
def PSz (n : Nat) (b : Rows) (i j : Nat) : Prop := Half (mu n (mat b) (mat b i) j)
/-- ahead of a round: rows ahead of k are reduced, no row is long, t changes at most are left -/
structure Rnd (n : Nat) (be : Rat) (b0 : Rows) (t k : Nat) (b : Rows) : Prop where
  P : Pos n be b
  k1 : 1 ≤ k
  kn : k ≤ n
  half : ∀ i j, i < k → j < i → PSz n b i j
  turn : ∀ i, i + 1 < k → Si18.holds b (i + 1) = true
  short : ∀ i, i < n → ip n (mat b i) (mat b i) ≤ 2 * be
  fuel : pot n b * 3 ^ t < 4 ^ t
  det : Gst.det n (mat b) = Gst.det n (mat b0) ∨ Gst.det n (mat b) = - Gst.det n (mat b0)
theorem sum_le_const {f : Nat → Rat} {c : Rat} : ∀ {m : Nat}, (∀ i, i < m → f i ≤ c) → sum m f ≤ m * c
  | 0, _ => by
    show (0 : Rat) ≤ ((0 : Nat) : Rat) * c
    have : ((0 : Nat) : Rat) = 0 := rfl
    grind
  | m + 1, h => by
    show sum m f + f m ≤ ((m + 1 : Nat) : Rat) * c
    have a := sum_le_const (m := m) fun i hi => h i (by omega)
    have d := h m (by omega)
    have e : ((m + 1 : Nat) : Rat) = (m : Rat) + 1 := by
      rw [Rat.natCast_add]
      rfl
    rw [e]
    grind
theorem half_sq {x : Rat} (h : Half x) : 4 * (x * x) ≤ 1 := by
  obtain ⟨h1, h2⟩ := h
  have a := Rat.mul_nonneg (a := 1 - 2 * x) (b := 1 + 2 * x) (by grind) (by grind)
  grind
/-- a row that is lowered is short -/
theorem Pos.short (P : Pos n be b) (h5 : n ≤ 5) {k : Nat} (hk : k < n) (h : ∀ j, j < k → PSz n b k j) : ip n (mat b k) (mat b k) ≤ 2 * be := by
  rw [R_sq_all (b := mat b) (mat b k) k]
  have a : ip n (R n (mat b) k (mat b k)) (R n (mat b) k (mat b k)) = N n (mat b) k := rfl
  rw [a]
  have l := P.le k hk
  have p := P.pos k hk
  have s := sum_le_const (m := k) (f := fun j => mu n (mat b) (mat b k) j * mu n (mat b) (mat b k) j * N n (mat b) j) (c := be / 4) fun j hj => by
    have q := half_sq (h j hj)
    have lj := P.le j (by omega)
    have pj := P.pos j (by omega)
    have m := Rat.mul_le_mul_of_nonneg_right q (Rat.le_of_lt pj)
    have d : be / 4 * 4 = be := Rat.div_mul_cancel (by decide)
    grind
  have d : be / 4 * 4 = be := Rat.div_mul_cancel (by decide)
  have kc : (k : Rat) ≤ 4 := by
    have : ((k : Nat) : Rat) ≤ ((4 : Nat) : Rat) := Rat.natCast_le_natCast.mpr (by omega)
    exact this
  have m := Rat.mul_le_mul_of_nonneg_right kc (show (0 : Rat) ≤ be / 4 by grind)
  grind
theorem row_mat {a c : Rows} {i j : Nat} (h : Si18.row a i = Si18.row c j) : mat a i = mat c j := by
  unfold mat
  rw [h]
variable {b0 : Rows} {t k : Nat}
/-- lowering -/
theorem Rnd.lowered (I : Rnd n be b0 t k b) (h5 : n ≤ 5) (hk : k < n) : Pos n be (Si18.shrunk b k) ∧ Lowed n b (Si18.shrunk b k) k 0 ∧
    (∀ i, i < n → ip n (mat (Si18.shrunk b k) i) (mat (Si18.shrunk b k) i) ≤ 2 * be) ∧ (∀ i j, i < k + 1 → j < i → PSz n (Si18.shrunk b k) i j) := by
  obtain ⟨Pc, L⟩ := shrunk_low I.P hk
  have hs : ∀ i j, i < k + 1 → j < i → PSz n (Si18.shrunk b k) i j := fun i j h1 h2 => by
    unfold PSz
    by_cases e : i = k
    · subst e
      exact L.half j (by omega) h2
    · rw [L.row i e]
      exact I.half i j (by omega) h2
  refine ⟨Pc, L, fun i hi => ?_, hs⟩
  by_cases e : i = k
  · subst e
    exact Pc.short h5 hk fun j hj => hs i j (by omega) hj
  · rw [row_mat (L.same i e)]
    exact I.short i hi
theorem holds_congr {c : Rows} (P : Pos n be b) (Pc : Pos n be c) {i : Nat} (hi : i + 1 < n) (h0 : N n (mat c) i = N n (mat b) i) (h1 : N n (mat c) (i + 1) = N n (mat b) (i + 1))
    (hm : mu n (mat c) (mat c (i + 1)) i = mu n (mat b) (mat b (i + 1)) i) (h : Si18.holds b (i + 1) = true) : Si18.holds c (i + 1) = true := by
  rw [holds_iff Pc hi, h0, h1, hm]
  exact (holds_iff P hi).mp h
theorem Rnd.on (I : Rnd n be b0 t k b) (h5 : n ≤ 5) (hk : k < n) (h : Si18.holds (Si18.shrunk b k) k = true) : Rnd n be b0 t (k + 1) (Si18.shrunk b k) := by
  obtain ⟨Pc, L, hs, hh⟩ := I.lowered h5 hk
  refine ⟨Pc, by omega, hk, hh, fun i hi => ?_, hs, ?_, ?_⟩
  · by_cases e : i + 1 = k
    · rw [e]
      exact h
    · exact holds_congr I.P Pc (by omega) (L.N i) (L.N (i + 1)) (L.row (i + 1) e i) (I.turn i (by omega))
  · have e : pot n (Si18.shrunk b k) = pot n b := prod_congr fun i hi => prod_congr fun j hj => L.N j
    rw [e]
    exact I.fuel
  · rw [L.det]
    exact I.det
theorem pow3_pos (t : Nat) : (0 : Rat) < 3 ^ t := Rat.pow_pos (by decide)
theorem Rnd.back (I : Rnd n be b0 t k b) (h5 : n ≤ 5) (hk : k < n) (h : Si18.holds (Si18.shrunk b k) k = false) : 1 ≤ t ∧ Rnd n be b0 (t - 1) (max 1 (k - 1)) (Si18.swapped (Si18.shrunk b k) k) := by
  obtain ⟨Pc, L, hs, hh⟩ := I.lowered h5 hk
  have ht : 1 ≤ t := by
    rcases Nat.eq_zero_or_pos t with e | e
    · have f := I.fuel
      have o := I.P.pot_one
      rw [e, Rat.pow_zero, Rat.pow_zero] at f
      grind
    · exact e
  have k1 := I.k1
  obtain ⟨p, rfl⟩ : ∃ p, k = p + 1 := ⟨k - 1, by omega⟩
  obtain ⟨Pd, C⟩ := changed_of Pc hk h
  refine ⟨ht, Pd, by omega, by omega, fun i j h1 h2 => ?_, fun i hi => ?_, fun i hi => ?_, ?_, ?_⟩
  · unfold PSz
    rw [C.mu i j (by omega) h2]
    exact hh i j (by omega) h2
  · refine holds_congr Pc Pd (by omega) (C.off i (by omega) (by omega)) (C.off (i + 1) (by omega) (by omega)) (C.mu (i + 1) i (by omega) (by omega)) ?_
    exact holds_congr I.P Pc (by omega) (L.N i) (L.N (i + 1)) (L.row (i + 1) (by omega) i) (I.turn i (by omega))
  · have e := swapped_row Pc.sq hk i
    by_cases e1 : i = p
    · rw [if_pos e1] at e
      rw [row_mat e]
      exact hs (p + 1) hk
    · rw [if_neg e1] at e
      by_cases e2 : i = p + 1
      · rw [if_pos e2] at e
        rw [row_mat e]
        exact hs p (by omega)
      · rw [if_neg e2] at e
        rw [row_mat e]
        exact hs i hi
  · have fall := pot_fall Pc Pd hk C
    have e : pot n (Si18.shrunk b (p + 1)) = pot n b := prod_congr fun i hi => prod_congr fun j hj => L.N j
    rw [e] at fall
    have f := I.fuel
    obtain ⟨u, rfl⟩ : ∃ u, t = u + 1 := ⟨t - 1, by omega⟩
    rw [show u + 1 - 1 = u from rfl]
    rw [Rat.pow_succ, Rat.pow_succ] at f
    have m := Rat.mul_le_mul_of_nonneg_right fall (Rat.le_of_lt (pow3_pos u))
    grind
  · rw [C.det, L.det]
    rcases I.det with d | d
    · right
      rw [d]
    · left
      rw [d]
      grind
/-- reducing ends -/
theorem run_ends (h5 : n ≤ 5) : ∀ (f t k : Nat) (b : Rows), Rnd n be b0 t k b → 2 * t + (n - k) < f → ∃ c t', Si18.run n f k b = some c ∧ Rnd n be b0 t' n c
  | 0, _, _, _, _, h => by omega
  | f + 1, t, k, b, I, h => by
    show ∃ c t', (if n ≤ k then some b else
      let c := Si18.shrunk b k
      if Si18.holds c k = true then Si18.run n f (k + 1) c else Si18.run n f (max 1 (k - 1)) (Si18.swapped c k)) = some c ∧ Rnd n be b0 t' n c
    by_cases hk : n ≤ k
    · rw [if_pos hk]
      have e : k = n := Nat.le_antisymm I.kn hk
      subst e
      exact ⟨b, t, rfl, I⟩
    · rw [if_neg hk]
      have k1 := I.k1
      dsimp only
      by_cases hh : Si18.holds (Si18.shrunk b k) k = true
      · rw [if_pos hh]
        exact run_ends h5 f t (k + 1) _ (I.on h5 (by omega) hh) (by omega)
      · rw [if_neg hh]
        have q := I.back h5 (by omega) (Bool.eq_false_iff.mpr hh)
        exact run_ends h5 f (t - 1) _ _ q.2 (by omega)
end Gst

/-! The start of reducing; how great the rows get. -/
namespace Gst
open Si18 (Row Rows)
variable {n : Nat} {be : Rat} {b b0 : Rows}
theorem sq_cast_le {z : Int} {M : Nat} (h : z.natAbs ≤ M) : (z : Rat) * (z : Rat) ≤ (M : Rat) * (M : Rat) := by
  rw [← Rat.intCast_mul, ← Rat.natCast_mul]
  have e : ((M * M : Nat) : Rat) = (((M * M : Nat) : Int) : Rat) := rfl
  rw [e]
  refine cast_le ?_
  have : z.natAbs * z.natAbs ≤ M * M := Nat.mul_le_mul h h
  have e2 : z * z = ((z.natAbs * z.natAbs : Nat) : Int) := by
    rw [Int.natCast_mul]
    exact (Int.natAbs_mul_self' z).symm
  rw [e2]
  exact Int.ofNat_le.mpr this
theorem getD_abs {x : Row} {M : Nat} (h : ∀ z, z ∈ x → z.natAbs ≤ M) (i : Nat) : (x.getD i 0).natAbs ≤ M := by
  rw [List.getD_eq_getElem?_getD]
  cases q : x[i]? with
  | none => exact Nat.zero_le _
  | some z => exact h z (List.mem_of_getElem? q)
theorem ip_row_le {x : Row} {M : Nat} (h : ∀ z, z ∈ x → z.natAbs ≤ M) (n : Nat) : ip n (vec x) (vec x) ≤ (n : Rat) * ((M : Rat) * (M : Rat)) :=
  sum_le_const fun i _ => sq_cast_le (getD_abs h i)
theorem prod_le_pow {f : Nat → Rat} {c : Rat} (hc : 1 ≤ c) : ∀ {m : Nat}, (∀ i, i < m → 0 ≤ f i ∧ f i ≤ c) → 0 ≤ prod m f ∧ prod m f ≤ c ^ m
  | 0, _ => by
    rw [Rat.pow_zero]
    exact ⟨by show (0 : Rat) ≤ 1; decide, Rat.le_refl⟩
  | m + 1, h => by
    have ih := prod_le_pow hc (m := m) fun i hi => h i (by omega)
    have l := h m (by omega)
    show 0 ≤ prod m f * f m ∧ prod m f * f m ≤ c ^ (m + 1)
    rw [Rat.pow_succ]
    refine ⟨Rat.mul_nonneg ih.1 l.1, ?_⟩
    have a := Rat.mul_le_mul_of_nonneg_left l.2 ih.1
    have d := Rat.mul_le_mul_of_nonneg_right ih.2 (show (0 : Rat) ≤ c by grind)
    exact Rat.le_trans a d
theorem pow_mono {c : Rat} (hc : 1 ≤ c) {a b : Nat} (h : a ≤ b) : c ^ a ≤ c ^ b := by
  induction b with
  | zero =>
    have : a = 0 := by omega
    subst this
    exact Rat.le_refl
  | succ b ih =>
    by_cases e : a = b + 1
    · rw [e]
      exact Rat.le_refl
    · rw [Rat.pow_succ]
      have i := ih (by omega)
      have p : (0 : Rat) ≤ c ^ b := Rat.pow_nonneg (by grind)
      have := Rat.mul_le_mul_of_nonneg_left hc p
      grind
theorem pot_le (P : Pos n be b) (hb : be ≤ 5000000) (h5 : n ≤ 5) : pot n b ≤ 5000000 ^ 16 := by
  have one : (1 : Rat) ≤ 5000000 := by decide
  have a : ∀ i, i < n - 1 → 0 ≤ prod (i + 1) (N n (mat b)) ∧ prod (i + 1) (N n (mat b)) ≤ (5000000 : Rat) ^ 4 := fun i hi => by
    have q := prod_le_pow one (f := N n (mat b)) (m := i + 1) fun j hj => ⟨Rat.le_of_lt (P.pos j (by omega)), Rat.le_trans (P.le j (by omega)) hb⟩
    exact ⟨q.1, Rat.le_trans q.2 (pow_mono one (by omega))⟩
  have q := prod_le_pow (c := (5000000 : Rat) ^ 4) (by decide +kernel) a
  refine Rat.le_trans q.2 ?_
  have r := pow_mono (c := (5000000 : Rat) ^ 4) (by decide +kernel) (a := n - 1) (b := 4) (by omega)
  refine Rat.le_trans r ?_
  decide +kernel
theorem det_ne (S : Sqr n b) (h : Si18.det n b ≠ 0) : Gst.det n (mat b) ≠ 0 := fun z => by
  rw [← det_cast S.len] at z
  exact h (Rat.intCast_eq_zero_iff.mp z)
theorem Rnd.start (S : Sqr n b) (n1 : 1 ≤ n) (n5 : n ≤ 5) (hd : Si18.det n b ≠ 0) {M : Nat} (hM : ∀ x : Row, x ∈ b → ∀ z, z ∈ x → z.natAbs ≤ M) (h1000 : M ≤ 1000) :
    Rnd n ((n : Rat) * ((M : Rat) * (M : Rat))) b 1000 1 b := by
  have hs : ∀ i, i < n → ip n (mat b i) (mat b i) ≤ (n : Rat) * ((M : Rat) * (M : Rat)) := fun i hi => ip_row_le (hM _ (row_mem (by rw [S.len]; exact hi))) n
  have P : Pos n ((n : Rat) * ((M : Rat) * (M : Rat))) b := ⟨S, fun i hi => N_pos (det_ne S hd) hi, fun i hi => Rat.le_trans (N_le i) (hs i hi)⟩
  have c1 : ((M : Nat) : Rat) * (M : Rat) ≤ 1000000 := by
    have : ((M : Nat) : Rat) ≤ ((1000 : Nat) : Rat) := Rat.natCast_le_natCast.mpr h1000
    have e : ((1000 : Nat) : Rat) = 1000 := rfl
    rw [e] at this
    have z : (0 : Rat) ≤ (M : Rat) := Rat.natCast_nonneg
    have a := Rat.mul_le_mul_of_nonneg_left this z
    grind
  have z : (0 : Rat) ≤ (M : Rat) * (M : Rat) := Rat.mul_nonneg Rat.natCast_nonneg Rat.natCast_nonneg
  have hb : (n : Rat) * ((M : Rat) * (M : Rat)) ≤ 5000000 := by
    have h5 : ((n : Nat) : Rat) ≤ ((5 : Nat) : Rat) := Rat.natCast_le_natCast.mpr n5
    have e : ((5 : Nat) : Rat) = 5 := rfl
    rw [e] at h5
    have a := Rat.mul_le_mul_of_nonneg_right h5 z
    grind
  refine ⟨P, by omega, n1, fun i j h1 h2 => by omega, fun i h => by omega, fun i hi => ?_, ?_, .inl rfl⟩
  · have a := hs i hi
    have c := Rat.le_trans (ip_self n (mat b i)) a
    grind
  · have a := pot_le P hb n5
    have k : (5000000 : Rat) ^ 16 * 3 ^ 1000 < 4 ^ 1000 := by decide +kernel
    have m := Rat.mul_le_mul_of_nonneg_right a (Rat.le_of_lt (pow3_pos 1000))
    exact Rat.not_le.mp fun z => absurd (Rat.le_trans z m) (Rat.not_le.mpr k)
/-- reducing ends; what it gives is reduced -/
theorem reducedOf_rnd (n5 : n ≤ 5) (I : Rnd n be b 1000 1 b) : Si18.run n 20000 1 b = some (Si18.reducedOf n b) ∧ ∃ t, Rnd n be b t n (Si18.reducedOf n b) := by
  obtain ⟨c, t, e, J⟩ := run_ends (b0 := b) n5 20000 1000 1 b I (by omega)
  have g : Si18.reducedOf n b = c := by
    unfold Si18.reducedOf
    rw [e]
    rfl
  rw [g]
  exact ⟨e, t, J⟩
/-- no number of the rows is great -/
theorem short_small {x : Row} (hl : x.length = n) {B : Nat} (h : ip n (vec x) (vec x) ≤ ((B * B : Nat) : Rat)) : ∀ z, z ∈ x → z.natAbs ≤ B := fun z hz => by
  obtain ⟨i, hi, e⟩ := List.getElem_of_mem hz
  have a := sum_one_le (f := fun i => vec x i * vec x i) (c := i) (n := n) (by omega) fun j _ => sq_nonneg _
  have v : vec x i = (z : Rat) := by
    unfold vec
    rw [List.getD_eq_getElem?_getD, List.getElem?_eq_getElem hi, e]
    rfl
  have c : vec x i * vec x i ≤ ((B * B : Nat) : Rat) := Rat.le_trans a h
  rw [v, ← Rat.intCast_mul] at c
  have e2 : ((B * B : Nat) : Rat) = (((B * B : Nat) : Int) : Rat) := rfl
  rw [e2] at c
  have d := Rat.intCast_le_intCast.mp c
  rcases Nat.lt_or_ge B z.natAbs with q | q
  · have : (B + 1) * (B + 1) ≤ z.natAbs * z.natAbs := Nat.mul_le_mul q q
    have e3 : z * z = ((z.natAbs * z.natAbs : Nat) : Int) := by
      rw [Int.natCast_mul]
      exact (Int.natAbs_mul_self' z).symm
    rw [e3] at d
    have d := Int.ofNat_le.mp d
    have : B * B < (B + 1) * (B + 1) := Nat.mul_lt_mul'' (by omega) (by omega)
    omega
  · exact q
theorem rows_small (S : Sqr n b) {B : Nat} (h : ∀ i, i < n → ip n (mat b i) (mat b i) ≤ ((B * B : Nat) : Rat)) : ∀ x : Row, x ∈ b → ∀ z, z ∈ x → z.natAbs ≤ B := fun x hx => by
  obtain ⟨i, hi, e⟩ := List.getElem_of_mem hx
  have q := h i (by rw [← S.len]; exact hi)
  have r : mat b i = vec x := by
    unfold mat Si18.row
    rw [List.getD_eq_getElem?_getD, List.getElem?_eq_getElem hi, e]
    rfl
  rw [r] at q
  exact short_small (S.wide x hx) q
theorem nearest_abs {x y : Int} (h : 0 < y) : (Si18.nearest x y).natAbs ≤ x.natAbs + 1 := by
  have q := nearest_le (x := x) h
  generalize Si18.nearest x y = z at *
  have a : z * y ≤ x.natAbs + y := by omega
  have c : -(x.natAbs + y : Int) ≤ z * y := by omega
  rcases Int.lt_or_le z 0 with k | k
  · have : (-z) * 1 ≤ (-z) * y := Int.mul_le_mul_of_nonneg_left (by omega) (by omega)
    rw [Int.neg_mul z y] at this
    by_cases e : (x.natAbs : Int) + 1 < -z
    · have : ((x.natAbs : Int) + 2) * y ≤ (-z) * y := Int.mul_le_mul_of_nonneg_right (by omega) (by omega)
      rw [Int.neg_mul z y, Int.add_mul] at this
      have : (x.natAbs : Int) * 1 ≤ (x.natAbs : Int) * y := Int.mul_le_mul_of_nonneg_left (by omega) (by omega)
      omega
    · omega
  · by_cases e : (x.natAbs : Int) + 1 < z
    · have : ((x.natAbs : Int) + 2) * y ≤ z * y := Int.mul_le_mul_of_nonneg_right (by omega) (by omega)
      rw [Int.add_mul] at this
      have : (x.natAbs : Int) * 1 ≤ (x.natAbs : Int) * y := Int.mul_le_mul_of_nonneg_left (by omega) (by omega)
      omega
    · omega
end Gst

/-! Cofactors, and how long they are. -/
namespace Gst
open Si18 (Row Rows)
def cofT (n : Nat) (m : Rows) (k j : Nat) : Int := (if (k + j) % 2 = 0 then (1 : Int) else -1) * Si18.det (n - 1) ((m.eraseIdx k).map fun (x : Row) => x.eraseIdx j)
def cofR (n : Nat) (m : Rows) (k : Nat) : List Int := (List.range n).map (cofT n m k)
def upL (n : Nat) (m : Rows) : Rows := if Si18.det n m < 0 then (Si18.other n m).map fun x => x.map fun z => 0 - z else Si18.other n m
def upW (n : Nat) (m : Rows) : Int := if Si18.det n m < 0 then 0 - Si18.det n m else Si18.det n m
theorem row_erase (m : Rows) (k i : Nat) : Si18.row (m.eraseIdx k) i = Si18.row m (skip k i) := by
  unfold Si18.row
  rw [List.getD_eq_getElem?_getD, List.getD_eq_getElem?_getD, List.getElem?_eraseIdx]
  unfold skip
  split <;> rfl
theorem row_map (m : Rows) (f : Row → Row) (h : f [] = []) (i : Nat) : Si18.row (m.map f) i = f (Si18.row m i) := by
  unfold Si18.row
  rw [List.getD_eq_getElem?_getD, List.getD_eq_getElem?_getD, List.getElem?_map]
  cases m[i]? with
  | none => exact h.symm
  | some x => rfl
theorem cofT_cast {n : Nat} {m : Rows} (S : Sqr (n + 1) m) {k j : Nat} (hk : k < n + 1) : ((cofT (n + 1) m k j : Int) : Rat) = sgn (k + j) * det n (fun i c => mat m (skip k i) (skip j c)) := by
  unfold cofT
  rw [Rat.intCast_mul, Nat.add_sub_cancel, det_cast (n := n) (by rw [List.length_map, List.length_eraseIdx, S.len, if_pos hk, Nat.add_sub_cancel])]
  have s : (((if (k + j) % 2 = 0 then (1 : Int) else -1) : Int) : Rat) = sgn (k + j) := by
    unfold sgn
    split <;> rfl
  rw [s]
  congr 1
  refine det_congr fun i c _ _ => ?_
  show vec (Si18.row _ i) c = vec (Si18.row m (skip k i)) (skip j c)
  rw [row_map _ _ rfl, row_erase]
  unfold vec
  rw [getD_erase]
/-- a row's product with the cofactors -/
theorem cof_ip {n : Nat} {m : Rows} (S : Sqr n m) {k i : Nat} (hk : k < n) (hi : i < n) : ip n (vec (cofR n m k)) (mat m i) = if i = k then det n (mat m) else 0 := by
  obtain ⟨n, rfl⟩ : ∃ p, n = p + 1 := ⟨n - 1, by omega⟩
  have e : ip (n + 1) (vec (cofR (n + 1) m k)) (mat m i) = sum (n + 1) fun j => sgn (k + j) * mat m i j * det n (fun r c => mat m (skip k r) (skip j c)) := sum_congr fun j hj => by
    have v : vec (cofR (n + 1) m k) j = sgn (k + j) * det n (fun r c => mat m (skip k r) (skip j c)) := by
      rw [← cofT_cast S hk]
      unfold vec cofR
      rw [getD_range _ _ hj]
    rw [v]
    grind
  rw [e]
  by_cases h : i = k
  · subst h
    rw [if_pos rfl]
    exact (det_row hi).symm
  · rw [if_neg h]
    exact det_cof_ne hk hi h
theorem vec_neg (x : Row) (i : Nat) : vec (x.map fun z => 0 - z) i = - vec x i := by
  unfold vec
  rw [List.getD_eq_getElem?_getD, List.getD_eq_getElem?_getD, List.getElem?_map]
  cases x[i]? with
  | none => rfl
  | some z =>
    show ((0 - z : Int) : Rat) = - (z : Rat)
    rw [Rat.intCast_sub]
    show (0 : Rat) - (z : Rat) = _
    grind
theorem other_row {n : Nat} {m : Rows} {k : Nat} (hk : k < n) : Si18.row (Si18.other n m) k = cofR n m k := by
  unfold Si18.row Si18.other
  rw [getD_range _ _ hk]
  rfl
theorem upL_row {n : Nat} {m : Rows} {k : Nat} (hk : k < n) : Si18.row (upL n m) k = if Si18.det n m < 0 then (cofR n m k).map fun z => 0 - z else cofR n m k := by
  unfold upL
  split
  · rw [row_map _ _ rfl, other_row hk]
  · exact other_row hk
theorem upW_pos {n : Nat} {m : Rows} (h : Si18.det n m ≠ 0) : 0 < upW n m := by
  unfold upW
  split <;> omega
theorem up_ip {n : Nat} {m : Rows} (S : Sqr n m) {k i : Nat} (hk : k < n) (hi : i < n) : ip n (mat (upL n m) k) (mat m i) = if i = k then ((upW n m : Int) : Rat) else 0 := by
  have c := cof_ip S hk hi
  have d := det_cast (n := n) S.len
  have e : mat (upL n m) k = vec (Si18.row (upL n m) k) := rfl
  rw [e, upL_row hk]
  unfold upW
  by_cases h : Si18.det n m < 0
  · rw [if_pos h, if_pos h]
    have v : ip n (vec ((cofR n m k).map fun z => 0 - z)) (mat m i) = - ip n (vec (cofR n m k)) (mat m i) := by
      have := ip_mul (n := n) (x := vec (cofR n m k)) (z := mat m i) (s := -1)
      rw [show (fun j => (-1 : Rat) * vec (cofR n m k) j) = vec ((cofR n m k).map fun z => 0 - z) by
        funext j
        rw [vec_neg]
        grind] at this
      rw [this]
      grind
    rw [v, c, Rat.intCast_sub, d]
    split
    · show _ = (0 : Rat) - _
      grind
    · grind
  · rw [if_neg h, if_neg h, c, d]
/-- nothing but 0 is at right angles to rows that aren't flat -/
theorem ip_all_zero {n : Nat} {b : Nat → Vec} (h : det n (fun i j => b i j) ≠ 0) {r : Vec} (hr : ∀ j, j < n → ip n r (b j) = 0) : ∀ i, i < n → r i = 0 := by
  intro i hi
  obtain ⟨n, rfl⟩ : ∃ p, n = p + 1 := ⟨n - 1, by omega⟩
  have key : (sum (n + 1) fun j => ip (n + 1) r (b j) * (sgn (i + j) * det n (fun x c => b (skip j c) (skip i x)))) = r i * det (n + 1) (fun x c => b c x) := by
    have e1 : (sum (n + 1) fun j => ip (n + 1) r (b j) * (sgn (i + j) * det n (fun x c => b (skip j c) (skip i x)))) = sum (n + 1) fun j => sum (n + 1) fun l => r l * (sgn (i + j) * b j l * det n (fun x c => b (skip j c) (skip i x))) := sum_congr fun j _ => by
      unfold ip
      rw [Rat.mul_comm, ← sum_mul]
      exact sum_congr fun l _ => by grind
    rw [e1, sum_comm]
    have e2 : (sum (n + 1) fun l => sum (n + 1) fun j => r l * (sgn (i + j) * b j l * det n (fun x c => b (skip j c) (skip i x)))) = sum (n + 1) fun l => r l * (if l = i then det (n + 1) (fun x c => b c x) else 0) := sum_congr fun l hl => by
      rw [sum_mul]
      congr 1
      by_cases k : l = i
      · subst k
        rw [if_pos rfl]
        exact (det_row (A := fun x c => b c x) hl).symm
      · rw [if_neg k]
        exact det_cof_ne (A := fun x c => b c x) hi hl k
    rw [e2, sum_one (c := i) hi fun l hl ne => by rw [if_neg ne]; grind, if_pos rfl]
  rw [sum_zero fun j hj => by rw [hr j hj]; grind] at key
  rw [← det_tr] at key
  rcases Rat.mul_eq_zero.mp key.symm with z | z
  · exact z
  · exact absurd z h
variable {n : Nat} {b : Nat → Vec}
/-- what is left, by what was taken -/
theorem ip_R_taken (v x : Vec) : ∀ k, ip n v (R n b k x) = ip n v x - sum k fun i => mu n b x i * ip n v (E n b i)
  | 0 => by
    show ip n v x = ip n v x - 0
    grind
  | k + 1 => by
    rw [R_succ, ip_sub_r, ip_R_taken v x k]
    show _ = ip n v x - (sum k (fun i => mu n b x i * ip n v (E n b i)) + mu n b x k * ip n v (E n b k))
    grind
theorem R_all_zero (h : det n (fun i j => b i j) ≠ 0) (x : Vec) : ∀ i, i < n → R n b n x i = 0 := by
  refine ip_all_zero h fun j hj => ?_
  have t := ip_R_taken (n := n) (b := b) (R n b n x) (b j) j
  rw [sum_zero fun i hi => by rw [R_orth x (by omega)]; grind] at t
  have o : ip n (R n b n x) (R n b j (b j)) = 0 := R_orth x hj
  rw [o] at t
  grind
/-- the squares, whole -/
theorem sq_whole (h : det n (fun i j => b i j) ≠ 0) (x : Vec) : ip n x x = sum n fun j => mu n b x j * mu n b x j * N n b j := by
  have a := R_sq_all (n := n) (b := b) x n
  rw [ip_zero_l (R_all_zero h x)] at a
  grind
end Gst

/-! The box of multiples that is gone through: its widths, its points. -/
namespace Gst
open Si18 (Row Rows)
/-! ### the whole root -/
theorem rootIn_spec {z : Nat} : ∀ {k lo hi : Nat}, lo * lo ≤ z → z < hi * hi → hi ≤ lo + 2 ^ k → Si18.rootIn z k lo hi * Si18.rootIn z k lo hi ≤ z ∧ z < (Si18.rootIn z k lo hi + 1) * (Si18.rootIn z k lo hi + 1)
  | 0, lo, hi, h1, h2, h3 => by
    show lo * lo ≤ z ∧ z < (lo + 1) * (lo + 1)
    have : hi ≤ lo + 1 := h3
    exact ⟨h1, Nat.lt_of_lt_of_le h2 (Nat.mul_le_mul this this)⟩
  | k + 1, lo, hi, h1, h2, h3 => by
    have e : Si18.rootIn z (k + 1) lo hi = if hi ≤ lo + 1 then lo else if ((lo + hi) / 2) * ((lo + hi) / 2) ≤ z then Si18.rootIn z k ((lo + hi) / 2) hi else Si18.rootIn z k lo ((lo + hi) / 2) := rfl
    rw [e]
    rw [Nat.pow_succ] at h3
    by_cases c : hi ≤ lo + 1
    · rw [if_pos c]
      exact ⟨h1, Nat.lt_of_lt_of_le h2 (Nat.mul_le_mul c c)⟩
    · rw [if_neg c]
      by_cases d : ((lo + hi) / 2) * ((lo + hi) / 2) ≤ z
      · rw [if_pos d]
        exact rootIn_spec d h2 (by omega)
      · rw [if_neg d]
        exact rootIn_spec h1 (by omega) (by omega)
theorem root_spec {z : Nat} (h : z < 2 ^ 199) : Si18.root z * Si18.root z ≤ z ∧ z < (Si18.root z + 1) * (Si18.root z + 1) := by
  unfold Si18.root
  refine rootIn_spec (by omega) ?_ ?_
  · have : (z + 2) * (z + 2) = z * z + 4 * z + 4 := by grind
    rw [this]
    have : 0 ≤ z * z := Nat.zero_le _
    omega
  · have : (2 : Nat) ^ 200 = 2 ^ 199 * 2 := Nat.pow_succ ..
    omega
theorem root_unique {z a b : Nat} (h1 : a * a ≤ z) (h2 : z < (a + 1) * (a + 1)) (h3 : b * b ≤ z) (h4 : z < (b + 1) * (b + 1)) : a = b := by
  have k1 : a < b + 1 := by
    rcases Nat.lt_or_ge a (b + 1) with q | q
    · exact q
    · have := Nat.mul_le_mul q q
      omega
  have k2 : b < a + 1 := by
    rcases Nat.lt_or_ge b (a + 1) with q | q
    · exact q
    · have := Nat.mul_le_mul q q
      omega
  omega
theorem root_div {X W : Nat} (hX : X < 2 ^ 199) (hW : 0 < W) : Si18.root (X / (W * W)) = Si18.root X / W := by
  have a := root_spec hX
  have hd : X / (W * W) < 2 ^ 199 := Nat.lt_of_le_of_lt (Nat.div_le_self _ _) hX
  have b := root_spec hd
  refine root_unique b.1 b.2 ?_ ?_
  · rw [Nat.le_div_iff_mul_le (Nat.mul_pos hW hW)]
    have t := Nat.div_mul_le_self (Si18.root X) W
    have e : Si18.root X / W * (Si18.root X / W) * (W * W) = (Si18.root X / W * W) * (Si18.root X / W * W) := by grind
    rw [e]
    exact Nat.le_trans (Nat.mul_le_mul t t) a.1
  · rw [Nat.div_lt_iff_lt_mul (Nat.mul_pos hW hW)]
    have t := Nat.lt_div_mul_add (a := Si18.root X) hW
    have t' : Si18.root X + 1 ≤ (Si18.root X / W + 1) * W := by
      rw [Nat.add_mul, Nat.one_mul]
      exact t
    have e : (Si18.root X / W + 1) * (Si18.root X / W + 1) * (W * W) = ((Si18.root X / W + 1) * W) * ((Si18.root X / W + 1) * W) := by grind
    rw [e]
    exact Nat.lt_of_lt_of_le a.2 (Nat.mul_le_mul t' t')
/-! ### widths -/
def nu : Nat → Rat
  | 0 => 1
  | d + 1 => (3 / 2 : Rat) ^ d / 2
theorem abs_mul_half {m g : Rat} (h : Half m) : -(m * g) ≤ g.abs / 2 ∧ m * g ≤ g.abs / 2 := by
  obtain ⟨h1, h2⟩ := h
  rcases Rat.le_total (a := 0) (b := g) with q | q
  · rw [Rat.abs_of_nonneg q]
    have a := Rat.mul_le_mul_of_nonneg_right h1 q
    have b := Rat.mul_le_mul_of_nonneg_right h2 q
    grind
  · rw [Rat.abs_of_nonpos q]
    have q' : 0 ≤ -g := by grind
    have a := Rat.mul_le_mul_of_nonneg_right h1 q'
    have b := Rat.mul_le_mul_of_nonneg_right h2 q'
    grind
theorem sum_half {mu g : Nat → Rat} : ∀ {n : Nat}, (∀ i, i < n → Half (mu i)) → (sum n fun i => mu i * g i) ≤ sum n (fun i => (g i).abs) / 2 ∧ -(sum n fun i => mu i * g i) ≤ sum n (fun i => (g i).abs) / 2
  | 0, _ => by
    show (0 : Rat) ≤ 0 / 2 ∧ -(0 : Rat) ≤ 0 / 2
    grind
  | n + 1, h => by
    have a := sum_half (g := g) (n := n) fun i hi => h i (by omega)
    have b := abs_mul_half (g := g n) (h n (by omega))
    show sum n (fun i => mu i * g i) + mu n * g n ≤ (sum n (fun i => (g i).abs) + (g n).abs) / 2 ∧ -(sum n (fun i => mu i * g i) + mu n * g n) ≤ (sum n (fun i => (g i).abs) + (g n).abs) / 2
    grind
theorem abs_le_of {x y : Rat} (h1 : x ≤ y) (h2 : -x ≤ y) : x.abs ≤ y := by
  rcases Rat.le_total (a := 0) (b := x) with q | q
  · rw [Rat.abs_of_nonneg q]
    exact h1
  · rw [Rat.abs_of_nonpos q]
    exact h2
theorem pow_succ_r (x : Rat) (d : Nat) : x ^ (d + 1) = x ^ d * x := Rat.pow_succ x d
section
variable {n : Nat} {b : Nat → Vec} {v : Vec} {W : Rat} {k : Nat}
/-- of a row whose products with the rows are 0, but W with row k: how its products with the rows at right angles grow -/
theorem dual_grow (hW : 0 ≤ W) (hv : ∀ i, i < n → ip n v (b i) = if i = k then W else 0) (hh : ∀ i j, i < n → j < i → Half (mu n b (b i) j)) : ∀ j, j ≤ n →
    (j ≤ k → ∀ i, i < j → ip n v (E n b i) = 0) ∧ (∀ d, j = k + 1 + d → sum j (fun i => (ip n v (E n b i)).abs) ≤ (3 / 2 : Rat) ^ d * W)
  | 0, _ => ⟨fun _ i hi => by omega, fun d hd => by omega⟩
  | j + 1, hj => by
    have ih := dual_grow hW hv hh j (by omega)
    have t := ip_R_taken (n := n) (b := b) v (b j) j
    have s := sum_half (g := fun i => ip n v (E n b i)) (n := j) fun i hi => hh j i (by omega) hi
    have e : ip n v (E n b j) = ip n v (b j) - sum j fun i => mu n b (b j) i * ip n v (E n b i) := t
    have hz : ∀ m, m ≤ k → m ≤ j → sum m (fun i => mu n b (b j) i * ip n v (E n b i)) = 0 := fun m h1 h2 => sum_zero fun i hi => by
      have := (dual_grow hW hv hh m (by omega)).1 h1 i hi
      rw [this]
      grind
    refine ⟨fun hk i hi => ?_, fun d hd => ?_⟩
    · by_cases c : i = j
      · subst c
        rw [e, hv i (by omega), if_neg (by omega), hz i (by omega) (Nat.le_refl _)]
        grind
      · exact ih.1 (by omega) i (by omega)
    · show sum j (fun i => (ip n v (E n b i)).abs) + (ip n v (E n b j)).abs ≤ _
      rcases d with _ | d
      · have ejk : j = k := by omega
        subst ejk
        have z0 : sum j (fun i => (ip n v (E n b i)).abs) = 0 := sum_zero fun i hi => by
          rw [ih.1 (Nat.le_refl _) i hi]
          exact Rat.abs_zero
        rw [z0, e, hv j (by omega), if_pos rfl, hz j (Nat.le_refl _) (Nat.le_refl _), Rat.pow_zero]
        have : (W - 0).abs = W := by
          rw [Rat.abs_of_nonneg (by grind)]
          grind
        rw [this]
        grind
      · have i2 := ih.2 d (by omega)
        rw [hv j (by omega), if_neg (by omega)] at e
        have a : (ip n v (E n b j)).abs ≤ sum j (fun i => (ip n v (E n b i)).abs) / 2 := abs_le_of (by grind) (by grind)
        rw [pow_succ_r]
        grind
theorem dual_le (hW : 0 ≤ W) (hv : ∀ i, i < n → ip n v (b i) = if i = k then W else 0) (hh : ∀ i j, i < n → j < i → Half (mu n b (b i) j)) {j : Nat} (hj : j < n) :
    (j < k → ip n v (E n b j) = 0) ∧ (k ≤ j → (ip n v (E n b j)).abs ≤ nu (j - k) * W) := by
  refine ⟨fun h => (dual_grow hW hv hh (j + 1) hj).1 h j (by omega), fun h => ?_⟩
  by_cases c : j = k
  · subst c
    have a := (dual_grow hW hv hh (j + 1) hj).2 0 rfl
    have p : 0 ≤ sum j (fun i => (ip n v (E n b i)).abs) := sum_nonneg fun i _ => Rat.abs_nonneg
    have a : sum j (fun i => (ip n v (E n b i)).abs) + (ip n v (E n b j)).abs ≤ (3 / 2 : Rat) ^ 0 * W := a
    rw [Rat.pow_zero] at a
    rw [Nat.sub_self]
    show _ ≤ (1 : Rat) * W
    grind
  · obtain ⟨d, hd⟩ : ∃ d, j = k + 1 + d := ⟨j - k - 1, by omega⟩
    have a := (dual_grow hW hv hh j (by omega)).2 d hd
    have t := ip_R_taken (n := n) (b := b) v (b j) j
    have s := sum_half (g := fun i => ip n v (E n b i)) (n := j) fun i hi => hh j i (by omega) hi
    have e : ip n v (E n b j) = ip n v (b j) - sum j fun i => mu n b (b j) i * ip n v (E n b i) := t
    rw [hv j hj, if_neg c] at e
    rw [show j - k = d + 1 by omega]
    show _ ≤ (3 / 2 : Rat) ^ d / 2 * W
    exact abs_le_of (by grind) (by grind)
theorem abs_sq (x : Rat) : x.abs * x.abs = x * x := by
  rcases Rat.le_total (a := 0) (b := x) with q | q
  · rw [Rat.abs_of_nonneg q]
  · rw [Rat.abs_of_nonpos q]
    grind
/-- so many times its square -/
def vk (n : Nat) (u : Nat → Rat) (k : Nat) : Rat := sum n fun j => if j < k then 0 else nu (j - k) * nu (j - k) * u j
theorem nu_nonneg : ∀ d, 0 ≤ nu d
  | 0 => by
    show (0 : Rat) ≤ 1
    decide
  | d + 1 => by
    show (0 : Rat) ≤ (3 / 2 : Rat) ^ d / 2
    have : (0 : Rat) ≤ (3 / 2 : Rat) ^ d := Rat.pow_nonneg (by decide +kernel)
    grind
theorem dual_sq (hdet : det n (fun i j => b i j) ≠ 0) (hN : ∀ i, i < n → 0 < N n b i) (hW : 0 ≤ W) (hv : ∀ i, i < n → ip n v (b i) = if i = k then W else 0) (hh : ∀ i j, i < n → j < i → Half (mu n b (b i) j))
    {most : Rat} {u : Nat → Rat} (hu : ∀ j, j < n → most ≤ u j * N n b j) (hu0 : ∀ j, j < n → 0 ≤ u j) (hm : 0 ≤ most) : most * ip n v v ≤ W * W * vk n u k := by
  rw [sq_whole hdet v]
  unfold vk
  rw [← sum_mul, ← sum_mul]
  refine sum_le fun j hj => ?_
  have g := mu_eq (n := n) (b := b) v j
  have d := dual_le hW hv hh hj
  by_cases c : j < k
  · rw [if_pos c]
    rw [d.1 c] at g
    have nz := hN j hj
    have mz : mu n b v j = 0 := by
      rcases Rat.mul_eq_zero.mp g with z | z
      · exact z
      · exact absurd z (Rat.ne_of_gt nz)
    rw [mz]
    grind
  · rw [if_neg c]
    have l := d.2 (by omega)
    rw [← g] at l
    have a0 : 0 ≤ (mu n b v j * N n b j).abs := Rat.abs_nonneg
    have l2 := Rat.mul_le_mul_of_nonneg_left l a0
    have l3 := Rat.mul_le_mul_of_nonneg_right l (show 0 ≤ nu (j - k) * W from Rat.mul_nonneg (nu_nonneg _) hW)
    have l4 := Rat.le_trans l2 l3
    rw [abs_sq] at l4
    have p := Rat.mul_nonneg (sq_nonneg (mu n b v j)) (Rat.le_of_lt (hN j hj))
    have q1 := Rat.mul_le_mul_of_nonneg_right (hu j hj) p
    have q2 := Rat.mul_le_mul_of_nonneg_left l4 (hu0 j hj)
    grind
end
end Gst

/-! The points that are gone through: the specification's and the program's. -/
namespace Gst
open Si18 (Row Rows)
/-! ### one factor after another, in another order -/
theorem flatMap_cons_perm {α β : Type} (g : α → β) (h : α → List β) : ∀ B : List α, (B.flatMap fun b => g b :: h b).Perm (B.map g ++ B.flatMap h)
  | [] => .refl _
  | b :: B => by
    rw [List.flatMap_cons, List.map_cons, List.flatMap_cons, List.cons_append, List.cons_append]
    refine .cons _ ?_
    have ih := flatMap_cons_perm g h B
    refine (List.Perm.append_left (h b) ih).trans ?_
    rw [← List.append_assoc, ← List.append_assoc]
    exact List.Perm.append_right _ List.perm_append_comm
theorem flatMap_swap {α β γ : Type} (f : α → β → γ) (B : List β) : ∀ A : List α, (A.flatMap fun a => B.map fun b => f a b).Perm (B.flatMap fun b => A.map fun a => f a b)
  | [] => by
    have : (B.flatMap fun b => ([] : List α).map fun a => f a b) = [] := by
      induction B with
      | nil => rfl
      | cons b B ih =>
        rw [List.flatMap_cons, ih]
        rfl
    rw [this]
    exact .refl _
  | a :: A => by
    rw [List.flatMap_cons]
    exact (List.Perm.append_left _ (flatMap_swap f B A)).trans (flatMap_cons_perm (fun b => f a b) (fun b => A.map fun a => f a b) B).symm
theorem flatMap_perm {α β : Type} {f : α → List β} {A B : List α} (h : A.Perm B) : (A.flatMap f).Perm (B.flatMap f) := by
  induction h with
  | nil => exact .refl _
  | cons x _ ih =>
    rw [List.flatMap_cons, List.flatMap_cons]
    exact List.Perm.append_left _ ih
  | swap x y l =>
    rw [List.flatMap_cons, List.flatMap_cons, List.flatMap_cons, List.flatMap_cons, ← List.append_assoc, ← List.append_assoc]
    exact List.Perm.append_right _ List.perm_append_comm
  | trans _ _ i j => exact i.trans j
/-- all lists of multiples within bounds, the first outermost -/
def tup : List (Int × Int) → List (List Int)
  | [] => [[]]
  | p :: l => (List.range (p.2 + 1 - p.1).toNat).flatMap fun (i : Nat) => (tup l).map fun c => (p.1 + (i : Int)) :: c
theorem combos_tup : ∀ ks : List Nat, (Si18.combos ks).Perm (tup (ks.map fun (k : Nat) => (-(k : Int), (k : Int))))
  | [] => .refl _
  | k :: l => by
    have ih := combos_tup l
    have e : Si18.combos (k :: l) = (Si18.combos l).flatMap fun c => (List.range (2 * k + 1)).map fun (i : Nat) => ((i : Int) - (k : Int)) :: c := rfl
    rw [e]
    refine (flatMap_perm ih).trans ?_
    refine (flatMap_swap (fun (c : List Int) (i : Nat) => ((i : Int) - (k : Int)) :: c) _ _).trans ?_
    rw [List.map_cons]
    show (List.Perm _ ((List.range ((k : Int) + 1 - (-(k : Int))).toNat).flatMap fun (i : Nat) => (tup (l.map fun (k : Nat) => (-(k : Int), (k : Int)))).map fun c => (-(k : Int) + (i : Int)) :: c))
    have w : ((k : Int) + 1 - (-(k : Int))).toNat = 2 * k + 1 := by omega
    rw [w]
    have s : (fun (b : Nat) => (tup (l.map fun (k : Nat) => (-(k : Int), (k : Int)))).map fun a => ((b : Int) - (k : Int)) :: a) = fun (i : Nat) => (tup (l.map fun (k : Nat) => (-(k : Int), (k : Int)))).map fun c => (-(k : Int) + (i : Int)) :: c := by
      funext i
      have : (i : Int) - (k : Int) = -(k : Int) + (i : Int) := by omega
      rw [this]
    rw [s]
/-- within bounds, place by place -/
def InB : List (Int × Int) → List Int → Prop
  | [], [] => True
  | p :: l, z :: t => p.1 ≤ z ∧ z ≤ p.2 ∧ InB l t
  | _, _ => False
theorem mem_tup : ∀ {l : List (Int × Int)} {c : List Int}, c ∈ tup l ↔ InB l c
  | [], [] => by
    simp [tup, InB]
  | [], _ :: _ => by
    simp [tup, InB]
  | p :: l, [] => by
    unfold tup InB
    simp
  | p :: l, z :: t => by
    show z :: t ∈ (List.range (p.2 + 1 - p.1).toNat).flatMap (fun (i : Nat) => (tup l).map fun c => (p.1 + (i : Int)) :: c) ↔ p.1 ≤ z ∧ z ≤ p.2 ∧ InB l t
    rw [List.mem_flatMap]
    constructor
    · rintro ⟨i, hi, h⟩
      obtain ⟨c, hc, e⟩ := List.mem_map.mp h
      have hi := List.mem_range.mp hi
      injection e with e1 e2
      subst e2
      exact ⟨by omega, by omega, mem_tup.mp hc⟩
    · rintro ⟨h1, h2, h3⟩
      refine ⟨(z - p.1).toNat, List.mem_range.mpr (by omega), List.mem_map.mpr ⟨t, mem_tup.mpr h3, ?_⟩⟩
      congr 1
      omega
/-- one row further -/
def grow (acc : List Row) (row : Row) (p : Int × Int) : List Row := acc.flatMap fun x => (List.range (p.2 + 1 - p.1).toNat).map fun (i : Nat) => Si18.plus x (Si18.times (p.1 + (i : Int)) row)
def grows : List Row → Rows → List (Int × Int) → List Row
  | acc, row :: rows, p :: bs => grows (grow acc row p) rows bs
  | acc, _, _ => acc
theorem flatMap_flatMap {α β γ : Type} (f : α → List β) (g : β → List γ) : ∀ A : List α, (A.flatMap f).flatMap g = A.flatMap fun a => (f a).flatMap g
  | [] => rfl
  | a :: A => by
    rw [List.flatMap_cons, List.flatMap_append, List.flatMap_cons, flatMap_flatMap f g A]
theorem grows_eq : ∀ {rows : Rows} {bs : List (Int × Int)} {acc : List Row}, rows.length = bs.length → grows acc rows bs = acc.flatMap fun x => (tup bs).map fun c => (List.zipWith Si18.times c rows).foldl Si18.plus x
  | [], [], acc, _ => by
    unfold grows tup
    simp
  | row :: rows, p :: bs, acc, h => by
    show grows (grow acc row p) rows bs = _
    rw [grows_eq (rows := rows) (bs := bs) (Nat.succ.inj h)]
    unfold grow
    rw [flatMap_flatMap]
    congr 1
    funext x
    show _ = ((List.range (p.2 + 1 - p.1).toNat).flatMap fun (i : Nat) => (tup bs).map fun c => (p.1 + (i : Int)) :: c).map _
    rw [List.map_flatMap, List.flatMap_map]
    congr 1
    funext i
    rw [List.map_map]
    rfl
theorem flatMap_len {α β : Type} {f : α → List β} {w : Nat} : ∀ {A : List α}, (∀ a, a ∈ A → (f a).length = w) → (A.flatMap f).length = A.length * w
  | [], _ => by simp
  | a :: A, h => by
    rw [List.flatMap_cons, List.length_append, flatMap_len fun x hx => h x (List.mem_cons_of_mem _ hx), h a List.mem_cons_self, List.length_cons, Nat.add_mul, Nat.one_mul, Nat.add_comm]
theorem grow_len {acc : List Row} {row : Row} {p : Int × Int} : (grow acc row p).length = acc.length * (p.2 + 1 - p.1).toNat := by
  unfold grow
  exact flatMap_len fun x _ => by rw [List.length_map, List.length_range]
/-! ### the bounds -/
def far (n : Nat) (m : Rows) (most : Int) (k : Nat) : Int := ((Si18.root (most * Si18.square (Si18.row (upL n m) k)).toNat : Nat) : Int)
def loB (n : Nat) (m : Rows) (place : Row) (most : Int) (k : Nat) : Int := 0 - (far n m most k - Si18.dot (Si18.row (upL n m) k) place) / upW n m
def hiB (n : Nat) (m : Rows) (place : Row) (most : Int) (k : Nat) : Int := (Si18.dot (Si18.row (upL n m) k) place + far n m most k) / upW n m
def bnds (n : Nat) (m : Rows) (place : Row) (most : Int) : List (Int × Int) := (List.range n).map fun k => (loB n m place most k, hiB n m place most k)
def wd (n : Nat) (m : Rows) (place : Row) (most : Int) (k : Nat) : Nat := (hiB n m place most k + 1 - loB n m place most k).toNat
theorem far_sq {n : Nat} {m : Rows} {most : Int} {k : Nat} (h : most * Si18.square (Si18.row (upL n m) k) < 2 ^ 199) (h0 : 0 ≤ most * Si18.square (Si18.row (upL n m) k)) :
    far n m most k * far n m most k ≤ most * Si18.square (Si18.row (upL n m) k) ∧ most * Si18.square (Si18.row (upL n m) k) < (far n m most k + 1) * (far n m most k + 1) := by
  unfold far
  generalize most * Si18.square (Si18.row (upL n m) k) = X at *
  have hx : X.toNat < 2 ^ 199 := by
    have : (X.toNat : Int) = X := Int.toNat_of_nonneg h0
    have e : ((2 ^ 199 : Nat) : Int) = (2 : Int) ^ 199 := by decide
    omega
  have r := root_spec hx
  have e : (X.toNat : Int) = X := Int.toNat_of_nonneg h0
  generalize Si18.root X.toNat = t at *
  have a : ((t * t : Nat) : Int) ≤ ((X.toNat : Nat) : Int) := Int.ofNat_le.mpr r.1
  have b : ((X.toNat : Nat) : Int) < (((t + 1) * (t + 1) : Nat) : Int) := Int.ofNat_lt.mpr r.2
  rw [Int.natCast_mul] at a b
  rw [e] at a b
  exact ⟨a, b⟩
/-- what is known of reduced rows -/
structure Redd (n : Nat) (be : Rat) (m : Rows) : Prop where
  P : Pos n be m
  half : ∀ i j, i < n → j < i → Half (mu n (mat m) (mat m i) j)
  turn : ∀ i, i + 1 < n → Si18.holds m (i + 1) = true
  short : ∀ i, i < n → ip n (mat m i) (mat m i) ≤ 2 * be
  det : Si18.det n m ≠ 0
theorem det_int_ne {n : Nat} {m : Rows} (S : Sqr n m) (h : Gst.det n (mat m) ≠ 0) : Si18.det n m ≠ 0 := fun z => by
  have e := det_cast (n := n) S.len
  rw [z] at e
  exact h e.symm
theorem Rnd.redd {n : Nat} {be : Rat} {b0 b : Rows} {t : Nat} (I : Rnd n be b0 t n b) (h0 : Gst.det n (mat b0) ≠ 0) : Redd n be b := by
  refine ⟨I.P, fun i j hi hj => I.half i j hi hj, fun i hi => I.turn i hi, I.short, det_int_ne I.P.sq ?_⟩
  rcases I.det with d | d
  · rw [d]
    exact h0
  · rw [d]
    intro z
    exact h0 (by grind)
theorem square_cast {n : Nat} {x : Row} (h : x.length = n) : ((Si18.square x : Int) : Rat) = ip n (vec x) (vec x) := dot_cast h h
theorem upL_wide {n : Nat} {m : Rows} {k : Nat} (hk : k < n) : (Si18.row (upL n m) k).length = n := by
  rw [upL_row hk]
  unfold cofR
  split <;> simp
theorem square_nonneg (x : Row) : 0 ≤ Si18.square x := by
  have e := square_cast (n := x.length) (x := x) rfl
  have p := ip_self x.length (vec x)
  rw [← e] at p
  exact Rat.intCast_nonneg.mp p
theorem wd_le {n : Nat} {be : Rat} {m : Rows} (D : Redd n be m) {place : Row} {most : Int} {k : Nat} (hk : k < n) (hm : 0 ≤ most) (hX : most * Si18.square (Si18.row (upL n m) k) < 2 ^ 199)
    {u : Nat → Rat} (hu : ∀ j, j < n → (most : Rat) ≤ u j * N n (mat m) j) (hu0 : ∀ j, j < n → 0 ≤ u j) {b : Nat} (hb : 4 * vk n u k < (b : Rat) * (b : Rat)) : wd n m place most k ≤ b := by
  have f := far_sq hX (Int.mul_nonneg hm (square_nonneg _))
  have W := upW_pos D.det
  have fn : 0 ≤ far n m most k := Int.natCast_nonneg _
  have dd := dual_sq (n := n) (b := mat m) (v := mat (upL n m) k) (W := ((upW n m : Int) : Rat)) (k := k) (det_ne D.P.sq D.det) D.P.pos (Rat.le_of_lt (Rat.intCast_pos.mpr W)) (fun i hi => up_ip D.P.sq hk hi) D.half hu hu0 (Rat.intCast_nonneg.mpr hm)
  have sc : ip n (mat (upL n m) k) (mat (upL n m) k) = ((Si18.square (Si18.row (upL n m) k) : Int) : Rat) := (square_cast (upL_wide hk)).symm
  rw [sc] at dd
  unfold wd hiB loB
  have a1 := Int.mul_ediv_self_le (x := Si18.dot (Si18.row (upL n m) k) place + far n m most k) (k := upW n m) (by omega)
  have a2 := Int.mul_ediv_self_le (x := far n m most k - Si18.dot (Si18.row (upL n m) k) place) (k := upW n m) (by omega)
  generalize (Si18.dot (Si18.row (upL n m) k) place + far n m most k) / upW n m = h at *
  generalize (far n m most k - Si18.dot (Si18.row (upL n m) k) place) / upW n m = l at *
  generalize far n m most k = F at *
  generalize Si18.square (Si18.row (upL n m) k) = sq at *
  generalize upW n m = w at *
  have s : w * (h + l) ≤ 2 * F := by
    rw [Int.mul_add]
    omega
  by_cases c : h + l < 0
  · omega
  · have s2 : (w * (h + l)) * (w * (h + l)) ≤ 2 * F * (2 * F) := Int.mul_le_mul s s (Int.mul_nonneg (by omega) (by omega)) (by omega)
    have s3 : (w * (h + l)) * (w * (h + l)) ≤ 4 * (most * sq) := by
      have : 2 * F * (2 * F) = 4 * (F * F) := by grind
      omega
    have s4 := cast_le s3
    rw [Rat.intCast_mul, Rat.intCast_mul, Rat.intCast_mul, Rat.intCast_mul] at s4
    have f4 : ((4 : Int) : Rat) = 4 := rfl
    rw [f4] at s4
    have wp : (0 : Rat) < (w : Rat) * (w : Rat) := Rat.mul_pos (Rat.intCast_pos.mpr W) (Rat.intCast_pos.mpr W)
    have s5 : (w : Rat) * (w : Rat) * (((h + l : Int) : Rat) * ((h + l : Int) : Rat)) ≤ (w : Rat) * (w : Rat) * (4 * vk n u k) := by grind
    have s6 := Rat.le_of_mul_le_mul_left s5 wp
    have s7 : ((h + l : Int) : Rat) * ((h + l : Int) : Rat) < (b : Rat) * (b : Rat) := Rat.not_le.mp fun z => absurd (Rat.le_trans z s6) (Rat.not_le.mpr hb)
    rw [← Rat.intCast_mul, ← Rat.natCast_mul] at s7
    have e : ((b * b : Nat) : Rat) = (((b * b : Nat) : Int) : Rat) := rfl
    rw [e] at s7
    have s8 := Rat.intCast_lt_intCast.mp s7
    rw [Int.natCast_mul] at s8
    have s9 : h + l < b := by
      rcases Int.lt_or_le (h + l) (b : Int) with q | q
      · exact q
      · have := Int.mul_le_mul q q (by omega) (by omega)
        omega
    omega
/-! ### how many there are on the way -/
def pw (f : Nat → Nat) : Nat → Nat
  | 0 => 1
  | k + 1 => pw f k * f k
theorem pw_le {f g : Nat → Nat} : ∀ {j : Nat}, (∀ k, k < j → f k ≤ g k) → pw f j ≤ pw g j
  | 0, _ => Nat.le_refl _
  | j + 1, h => Nat.mul_le_mul (pw_le fun k hk => h k (by omega)) (h j (by omega))
theorem pw_mono {g : Nat → Nat} {j n : Nat} (h : j ≤ n) (h1 : ∀ k, k < n → 1 ≤ g k) : pw g j ≤ pw g n := by
  induction n with
  | zero =>
    have : j = 0 := by omega
    subst this
    exact Nat.le_refl _
  | succ n ih =>
    by_cases e : j = n + 1
    · subst e
      exact Nat.le_refl _
    · have i := ih (by omega) fun k hk => h1 k (by omega)
      have := Nat.mul_le_mul_left (pw g n) (h1 n (by omega))
      show pw g j ≤ pw g n * g n
      omega
/-- the table of one way: for each row how often most goes into its square at right angles at most, and a width -/
def wayOk (n : Nat) (u : List Rat) (b : List Nat) : Bool :=
  (List.range n).all (fun k => decide (4 * vk n (fun j => u.getD j 0) k < ((b.getD k 0 : Nat) : Rat) * ((b.getD k 0 : Nat) : Rat)) && decide (1 ≤ b.getD k 0) && decide (0 ≤ u.getD k 0)) && decide (pw (fun k => b.getD k 0) n ≤ 16000000)
theorem way_box {n : Nat} {be : Rat} {m : Rows} (D : Redd n be m) {place : Row} {most : Int} (hm : 0 ≤ most) (hX : ∀ k, k < n → most * Si18.square (Si18.row (upL n m) k) < 2 ^ 199)
    {u : List Rat} {b : List Nat} (ok : wayOk n u b = true) (hu : ∀ j, j < n → (most : Rat) ≤ u.getD j 0 * N n (mat m) j) : ∀ j, j ≤ n → pw (wd n m place most) j ≤ 16000000 := by
  unfold wayOk at ok
  rw [Bool.and_eq_true] at ok
  have ok1 := List.all_eq_true.mp ok.1
  have ok2 : pw (fun k => b.getD k 0) n ≤ 16000000 := of_decide_eq_true ok.2
  have at_k : ∀ k, k < n → 4 * vk n (fun j => u.getD j 0) k < ((b.getD k 0 : Nat) : Rat) * ((b.getD k 0 : Nat) : Rat) ∧ 1 ≤ b.getD k 0 ∧ 0 ≤ u.getD k 0 := fun k hk => by
    have := ok1 k (List.mem_range.mpr hk)
    rw [Bool.and_eq_true, Bool.and_eq_true] at this
    exact ⟨of_decide_eq_true this.1.1, of_decide_eq_true this.1.2, of_decide_eq_true this.2⟩
  intro j hj
  refine Nat.le_trans (pw_le (g := fun k => b.getD k 0) fun k hk => ?_) (Nat.le_trans (pw_mono hj fun k hk => (at_k k hk).2.1) ok2)
  exact wd_le D (by omega) hm (hX k (by omega)) hu (fun j hj => (at_k j hj).2.2) (at_k k (by omega)).1
end Gst

/-! Tables of widths. -/
namespace Gst
open Si18 (Row Rows)
variable {n : Nat} {be : Rat} {m : Rows}
theorem Redd.step (D : Redd n be m) {j : Nat} (h : j + 1 < n) : N n (mat m) j ≤ 2 * N n (mat m) (j + 1) := by
  have t := (holds_iff D.P h).mp (D.turn j h)
  have q := half_sq (D.half (j + 1) j h (by omega))
  have p := D.P.pos j (by omega)
  have m := Rat.mul_le_mul_of_nonneg_right q (Rat.le_of_lt p)
  grind
theorem Redd.decay (D : Redd n be m) : ∀ {d i : Nat}, i + d < n → N n (mat m) i ≤ 2 ^ d * N n (mat m) (i + d)
  | 0, i, h => by
    rw [Rat.pow_zero]
    show _ ≤ 1 * N n (mat m) i
    grind
  | d + 1, i, h => by
    have a := D.decay (d := d) (i := i) (by omega)
    have s := D.step (j := i + d) (by omega)
    have p : (0 : Rat) ≤ 2 ^ d := Rat.pow_nonneg (by decide)
    have r := Rat.mul_le_mul_of_nonneg_left s p
    rw [Rat.pow_succ]
    show _ ≤ 2 ^ d * 2 * N n (mat m) (i + d + 1)
    grind
theorem Redd.first_one (D : Redd n be m) (h : 0 < n) : 1 ≤ N n (mat m) 0 := by
  have a := D.P.vol_one (j := 1) (by omega)
  have e : prod 1 (N n (mat m)) = 1 * N n (mat m) 0 := rfl
  rw [e] at a
  grind
theorem Redd.low (D : Redd n be m) {j : Nat} (h : j < n) : 1 ≤ 2 ^ j * N n (mat m) j := by
  have a := D.decay (d := j) (i := 0) (by omega)
  rw [Nat.zero_add] at a
  have o := D.first_one (by omega)
  grind
theorem first_sq (D : Redd n be m) (h : 0 < n) : ((Si18.square (Si18.row m 0) : Int) : Rat) = N n (mat m) 0 := square_cast (D.P.sq.row h)
/-- the last of five -/
theorem Redd.last5 (D : Redd 5 be m) : 1 ≤ 4 * N 5 (mat m) 4 := by
  have v := D.P.vol_one (j := 5) (by omega)
  have e : prod 5 (N 5 (mat m)) = 1 * N 5 (mat m) 0 * N 5 (mat m) 1 * N 5 (mat m) 2 * N 5 (mat m) 3 * N 5 (mat m) 4 := rfl
  rw [e] at v
  have p0 := D.P.pos 0 (by omega)
  have p1 := D.P.pos 1 (by omega)
  have p2 := D.P.pos 2 (by omega)
  have p3 := D.P.pos 3 (by omega)
  have p4 := D.P.pos 4 (by omega)
  have s0 := D.step (j := 0) (by omega)
  have s1 := D.step (j := 1) (by omega)
  have s2 := D.step (j := 2) (by omega)
  have s3 := D.step (j := 3) (by omega)
  rcases Rat.le_total (a := 1) (b := 4 * N 5 (mat m) 4) with q | q
  · exact q
  · by_cases h : 4 * N 5 (mat m) 4 = 1
    · rw [h]
      exact Rat.le_refl
    · exfalso
      have l4 : 4 * N 5 (mat m) 4 < 1 := Rat.lt_of_le_of_ne q h
      generalize N 5 (mat m) 0 = x0 at *
      generalize N 5 (mat m) 1 = x1 at *
      generalize N 5 (mat m) 2 = x2 at *
      generalize N 5 (mat m) 3 = x3 at *
      generalize N 5 (mat m) 4 = x4 at *
      have a3 : x3 < 1 / 2 := by grind
      have a2 : x2 < 1 := by grind
      have a1 : x1 < 2 := by grind
      have a0 : x0 < 4 := by grind
      have b1 : x0 * x1 < 8 := by
        have t1 := Rat.mul_lt_mul_of_pos_right a0 p1
        grind
      have c1 : 0 < x0 * x1 := Rat.mul_pos p0 p1
      have b2 : x0 * x1 * x2 < 8 := by
        have t1 := Rat.mul_lt_mul_of_pos_right b1 p2
        grind
      have c2 : 0 < x0 * x1 * x2 := Rat.mul_pos c1 p2
      have b3 : x0 * x1 * x2 * x3 < 4 := by
        have t1 := Rat.mul_lt_mul_of_pos_right b2 p3
        grind
      have t1 := Rat.mul_lt_mul_of_pos_right b3 p4
      grind
/-- what the tables ask: few numbers -/
structure Few (n : Nat) (m : Rows) (most : Int) : Prop where
  pos : 0 ≤ most
  low : ∀ k, k < n → most * Si18.square (Si18.row (upL n m) k) < 2 ^ 199
theorem way_short (D : Redd n be m) (n1 : 1 ≤ n) (n5 : n ≤ 5) {most : Int} (F : Few n m most) (h : most ≤ Si18.square (Si18.row m 0)) (place : Row) : ∀ j, j ≤ n → pw (wd n m place most) j ≤ 16000000 := by
  have key : ∀ j, j < n → (most : Rat) ≤ 2 ^ j * N n (mat m) j := fun j hj => by
    have a := cast_le h
    rw [first_sq D (by omega)] at a
    have b := D.decay (d := j) (i := 0) (by omega)
    rw [Nat.zero_add] at b
    exact Rat.le_trans a b
  have tab : ∀ (u : List Rat) (b : List Nat), wayOk n u b = true → (∀ j, j < n → u.getD j 0 = 2 ^ j) → ∀ j, j ≤ n → pw (wd n m place most) j ≤ 16000000 := fun u b ok e =>
    way_box D F.pos F.low ok fun j hj => by
      rw [e j hj]
      exact key j hj
  have two : ∀ j, j < 5 → ([1, 2, 4, 8, 16] : List Rat).getD j 0 = 2 ^ j := fun j hj => by
    rcases j with _ | _ | _ | _ | _ | j
    · decide +kernel
    · decide +kernel
    · decide +kernel
    · decide +kernel
    · decide +kernel
    · omega
  have ok : wayOk n [1, 2, 4, 8, 16] ([[3], [3, 3], [4, 4, 5], [8, 6, 5, 6], [16, 11, 8, 7, 9]].getD (n - 1) []) = true := by
    rcases n with _ | _ | _ | _ | _ | _ | n
    · omega
    · decide +kernel
    · decide +kernel
    · decide +kernel
    · decide +kernel
    · decide +kernel
    · omega
  exact tab _ _ ok fun j hj => two j (by omega)
theorem way_count (D : Redd n be m) (n1 : 1 ≤ n) (n5 : n ≤ 5) {most : Int} (F : Few n m most) (h : most ≤ if n ≤ 3 then 400 else if n = 4 then 60 else 12) (place : Row) : ∀ j, j ≤ n → pw (wd n m place most) j ≤ 16000000 := by
  have low : ∀ j, j < n → 1 ≤ 2 ^ j * N n (mat m) j := fun j hj => D.low hj
  rcases n with _ | _ | _ | _ | _ | _ | n
  · omega
  · refine way_box D F.pos F.low (u := [400]) (b := [41]) (by decide +kernel) fun j hj => ?_
    have a : (most : Rat) ≤ 400 := cast_le (a := most) (b := 400) h
    have c := low j hj
    have ej : j = 0 := by omega
    subst ej
    rw [Rat.pow_zero] at c
    show _ ≤ (400 : Rat) * _
    grind
  · refine way_box D F.pos F.low (u := [400, 800]) (b := [49, 57]) (by decide +kernel) fun j hj => ?_
    have a : (most : Rat) ≤ 400 := cast_le (a := most) (b := 400) h
    have c := low j hj
    rcases j with _ | _ | j
    · rw [Rat.pow_zero] at c
      show _ ≤ (400 : Rat) * N _ (mat m) 0
      grind
    · have e : (2 : Rat) ^ 1 = 2 := by decide +kernel
      rw [e] at c
      show _ ≤ (800 : Rat) * N _ (mat m) 1
      grind
    · omega
  · refine way_box D F.pos F.low (u := [400, 800, 1600]) (b := [78, 70, 81]) (by decide +kernel) fun j hj => ?_
    have a : (most : Rat) ≤ 400 := cast_le (a := most) (b := 400) h
    have c := low j hj
    rcases j with _ | _ | _ | j
    · rw [Rat.pow_zero] at c
      show _ ≤ (400 : Rat) * N _ (mat m) 0
      grind
    · have e : (2 : Rat) ^ 1 = 2 := by decide +kernel
      rw [e] at c
      show _ ≤ (800 : Rat) * N _ (mat m) 1
      grind
    · have e : (2 : Rat) ^ 2 = 4 := by decide +kernel
      rw [e] at c
      show _ ≤ (1600 : Rat) * N _ (mat m) 2
      grind
    · omega
  · refine way_box D F.pos F.low (u := [60, 120, 240, 480]) (b := [58, 43, 38, 44]) (by decide +kernel) fun j hj => ?_
    have a : (most : Rat) ≤ 60 := cast_le (a := most) (b := 60) h
    have c := low j hj
    rcases j with _ | _ | _ | _ | j
    · rw [Rat.pow_zero] at c
      show _ ≤ (60 : Rat) * N _ (mat m) 0
      grind
    · have e : (2 : Rat) ^ 1 = 2 := by decide +kernel
      rw [e] at c
      show _ ≤ (120 : Rat) * N _ (mat m) 1
      grind
    · have e : (2 : Rat) ^ 2 = 4 := by decide +kernel
      rw [e] at c
      show _ ≤ (240 : Rat) * N _ (mat m) 2
      grind
    · have e : (2 : Rat) ^ 3 = 8 := by decide +kernel
      rw [e] at c
      show _ ≤ (480 : Rat) * N _ (mat m) 3
      grind
    · omega
  · refine way_box D F.pos F.low (u := [12, 24, 48, 96, 48]) (b := [35, 25, 20, 21, 14]) (by decide +kernel) fun j hj => ?_
    have a : (most : Rat) ≤ 12 := cast_le (a := most) (b := 12) h
    have c := low j hj
    rcases j with _ | _ | _ | _ | _ | j
    · rw [Rat.pow_zero] at c
      show _ ≤ (12 : Rat) * N _ (mat m) 0
      grind
    · have e : (2 : Rat) ^ 1 = 2 := by decide +kernel
      rw [e] at c
      show _ ≤ (24 : Rat) * N _ (mat m) 1
      grind
    · have e : (2 : Rat) ^ 2 = 4 := by decide +kernel
      rw [e] at c
      show _ ≤ (48 : Rat) * N _ (mat m) 2
      grind
    · have e : (2 : Rat) ^ 3 = 8 := by decide +kernel
      rw [e] at c
      show _ ≤ (96 : Rat) * N _ (mat m) 3
      grind
    · have c5 := D.last5
      show _ ≤ (48 : Rat) * N _ (mat m) 4
      grind
    · omega
  · omega
end Gst

/-! The points about 0: the same as the specification's, in another order. -/
namespace Gst
open Si18 (Row Rows)
theorem dot_zeros : ∀ (x : Row) (n : Nat), Si18.dot x (Si18.zeros n) = 0
  | [], _ => by
    unfold Si18.dot
    simp
  | _ :: _, 0 => rfl
  | a :: x, n + 1 => by
    show Si18.dot (a :: x) (0 :: Si18.zeros n) = 0
    rw [dot_cons, dot_zeros x n]
    omega
theorem minus_zeros : ∀ {n : Nat} {x : Row}, x.length = n → Si18.minus x (Si18.zeros n) = x
  | 0, [], _ => rfl
  | n + 1, a :: x, h => by
    have ih := minus_zeros (n := n) (x := x) (Nat.succ.inj h)
    unfold Si18.minus Si18.plus Si18.times at ih ⊢
    show (a + -1 * 0) :: List.zipWith (fun (a b : Int) => a + b) x ((Si18.zeros n).map fun (a : Int) => -1 * a) = a :: x
    rw [ih]
    simp
theorem square_neg (x : Row) : Si18.square (x.map fun z => 0 - z) = Si18.square x := by
  unfold Si18.square
  induction x with
  | nil => rfl
  | cons a x ih =>
    rw [List.map_cons, dot_cons, dot_cons, ih]
    grind
theorem upW_abs (n : Nat) (m : Rows) : upW n m = (((Si18.det n m).natAbs : Nat) : Int) := by
  unfold upW
  split <;> omega
theorem square_up {n : Nat} {m : Rows} {k : Nat} (hk : k < n) : Si18.square (Si18.row (upL n m) k) = Si18.square (cofR n m k) := by
  rw [upL_row hk]
  split
  · exact square_neg _
  · rfl
/-- the half width about 0 -/
def hw (n : Nat) (m : Rows) (r : Nat) (k : Nat) : Nat := Si18.root (r * (Si18.square (cofR n m k)).toNat) / (Si18.det n m).natAbs
theorem bnds_zero {n : Nat} {m : Rows} {r : Nat} : bnds n m (Si18.zeros n) (r : Int) = (List.range n).map fun k => (-((hw n m r k : Nat) : Int), ((hw n m r k : Nat) : Int)) := by
  unfold bnds
  refine List.map_congr_left fun k hk => ?_
  have hk := List.mem_range.mp hk
  have f : far n m (r : Int) k = ((Si18.root (r * (Si18.square (cofR n m k)).toNat) : Nat) : Int) := by
    unfold far
    rw [square_up hk]
    have e : ((r : Int) * Si18.square (cofR n m k)).toNat = r * (Si18.square (cofR n m k)).toNat := by
      have p := square_nonneg (cofR n m k)
      have q : Si18.square (cofR n m k) = (((Si18.square (cofR n m k)).toNat : Nat) : Int) := (Int.toNat_of_nonneg p).symm
      rw [q, ← Int.natCast_mul, Int.toNat_natCast, Int.toNat_natCast]
    rw [e]
  unfold loB hiB
  rw [f, dot_zeros, upW_abs, Int.sub_zero, Int.zero_add]
  unfold hw
  rw [Int.natCast_ediv, Int.zero_sub]
theorem boxOf_hw {n : Nat} {m : Rows} {r : Nat} (hd : Si18.det n m ≠ 0) (h : ∀ k, k < n → r * (Si18.square (cofR n m k)).toNat < 2 ^ 199) : Si18.boxOf n m r = (List.range n).map fun k => hw n m r k := by
  unfold Si18.boxOf
  have e : Si18.other n m = (List.range n).map (cofR n m) := rfl
  rw [e]
  dsimp only
  rw [List.map_map]
  refine List.map_congr_left fun k hk => ?_
  have hk := List.mem_range.mp hk
  show Si18.root (r * (Si18.square (cofR n m k)).toNat / ((Si18.det n m).natAbs * (Si18.det n m).natAbs)) = _
  rw [root_div (h k hk) (by omega)]
  rfl
theorem foldl_plus_len {n : Nat} : ∀ {l : List Row} {x : Row}, x.length = n → (∀ y, y ∈ l → y.length = n) → (l.foldl Si18.plus x).length = n
  | [], x, h, _ => h
  | y :: l, x, h, k => by
    rw [List.foldl_cons]
    refine foldl_plus_len ?_ fun z hz => k z (List.mem_cons_of_mem _ hz)
    rw [plus_len, h, k y List.mem_cons_self]
    omega
theorem zip_times_mem : ∀ {c : List Int} {m : Rows} {y : Row}, y ∈ List.zipWith Si18.times c m → ∃ z x, x ∈ m ∧ y = Si18.times z x
  | [], _, _, h => by simp at h
  | _ :: _, [], _, h => by simp at h
  | z :: c, x :: m, y, h => by
    rw [List.zipWith_cons_cons] at h
    rcases List.mem_cons.mp h with e | h
    · exact ⟨z, x, List.mem_cons_self, e⟩
    · obtain ⟨z', x', h1, h2⟩ := zip_times_mem h
      exact ⟨z', x', List.mem_cons_of_mem _ h1, h2⟩
theorem combo_len {n : Nat} {m : Rows} (S : Sqr n m) (c : List Int) : (Si18.combo n c m).length = n := by
  unfold Si18.combo
  refine foldl_plus_len (List.length_replicate ..) fun y hy => ?_
  obtain ⟨z, x, hx, rfl⟩ := zip_times_mem hy
  rw [times_len]
  exact S.wide x hx
theorem grows_combo {n : Nat} {m : Rows} (S : Sqr n m) (place : Row) (most : Int) : grows [Si18.zeros n] m (bnds n m place most) = (tup (bnds n m place most)).map fun c => Si18.combo n c m := by
  rw [grows_eq (by
    unfold bnds
    rw [List.length_map, List.length_range, S.len])]
  rw [List.flatMap_cons, List.flatMap_nil, List.append_nil]
  rfl
/-- **the same points** -/
theorem pts_perm {n : Nat} {c : Rows} (S : Sqr n c) (hd : Si18.det n c ≠ 0) {r : Nat} (h : ∀ k, k < n → r * (Si18.square (cofR n c k)).toNat < 2 ^ 199) :
    ((grows [Si18.zeros n] c (bnds n c (Si18.zeros n) (r : Int))).filter fun x => decide (Si18.square (Si18.minus x (Si18.zeros n)) ≤ (r : Int))).Perm (((Si18.combos (Si18.boxOf n c r)).map fun m => Si18.combo n m c).filter fun x => decide (Si18.square x ≤ (r : Int))) := by
  rw [grows_combo S]
  have e1 : ((tup (bnds n c (Si18.zeros n) (r : Int))).map fun m => Si18.combo n m c).filter (fun x => decide (Si18.square (Si18.minus x (Si18.zeros n)) ≤ (r : Int))) = ((tup (bnds n c (Si18.zeros n) (r : Int))).map fun m => Si18.combo n m c).filter (fun x => decide (Si18.square x ≤ (r : Int))) := by
    refine List.filter_congr fun x hx => ?_
    obtain ⟨m, _, rfl⟩ := List.mem_map.mp hx
    rw [minus_zeros (combo_len S m)]
  rw [e1]
  refine List.Perm.filter _ (List.Perm.map _ ?_)
  refine List.Perm.symm ((combos_tup _).trans ?_)
  rw [boxOf_hw hd h, List.map_map, bnds_zero]
  exact .refl _
theorem pw_single {f : Nat → Nat} {n k : Nat} (h1 : ∀ j, j < n → 1 ≤ f j) (hk : k < n) : f k ≤ pw f n := by
  have a : pw f (k + 1) ≤ pw f n := pw_mono hk h1
  have b : pw f (k + 1) = pw f k * f k := rfl
  have c : 1 ≤ pw f k := by
    have : pw f 0 ≤ pw f k := pw_mono (Nat.zero_le k) fun j hj => h1 j (by omega)
    exact this
  have d : 1 * f k ≤ pw f k * f k := Nat.mul_le_mul_right _ c
  omega
theorem ends_zero {n : Nat} {m : Rows} {r : Nat} (h : pw (wd n m (Si18.zeros n) (r : Int)) n ≤ 16000000) : ∀ k, k < n → -(2 ^ 61) ≤ loB n m (Si18.zeros n) (r : Int) k ∧ loB n m (Si18.zeros n) (r : Int) k < 2 ^ 61 ∧ -(2 ^ 61) ≤ hiB n m (Si18.zeros n) (r : Int) k ∧ hiB n m (Si18.zeros n) (r : Int) k < 2 ^ 61 := by
  have at_k : ∀ k, k < n → loB n m (Si18.zeros n) (r : Int) k = -((hw n m r k : Nat) : Int) ∧ hiB n m (Si18.zeros n) (r : Int) k = ((hw n m r k : Nat) : Int) := fun k hk => by
    have e := congrArg (fun l => l[k]?) (bnds_zero (n := n) (m := m) (r := r))
    unfold bnds at e
    rw [List.getElem?_map, List.getElem?_map, List.getElem?_range hk] at e
    have e := Option.some.inj e
    injection e with e1 e2
    exact ⟨e1, e2⟩
  have wk : ∀ k, k < n → wd n m (Si18.zeros n) (r : Int) k = 2 * hw n m r k + 1 := fun k hk => by
    unfold wd
    rw [(at_k k hk).1, (at_k k hk).2]
    omega
  intro k hk
  have s := pw_single (f := wd n m (Si18.zeros n) (r : Int)) (n := n) (k := k) (fun j hj => by rw [wk j hj]; omega) hk
  rw [wk k hk] at s
  rw [(at_k k hk).1, (at_k k hk).2]
  omega
end Gst

/-! Rows in the order of their first numbers that differ; the first of the least. -/
namespace Gst
open Si18
theorem less_cons (a b : Int) (x y : Row) : less (a :: x) (b :: y) = (decide (a < b) || (a == b && less x y)) := rfl
theorem less_irrefl : ∀ x : Row, less x x = false
  | [] => rfl
  | a :: x => by rw [less_cons, less_irrefl x]; simp
theorem less_trans : ∀ {x y z : Row}, x.length = y.length → y.length = z.length → less x y = true → less y z = true → less x z = true
  | [], _, _, _, _, h, _ => by cases h
  | _ :: _, [], _, e, _, _, _ => by cases e
  | _ :: _, _ :: _, [], _, e, _, _ => by cases e
  | a :: x, b :: y, c :: z, e1, e2, h1, h2 => by
    rw [less_cons] at h1 h2 ⊢
    simp only [Bool.or_eq_true, Bool.and_eq_true, decide_eq_true_eq, beq_iff_eq] at h1 h2 ⊢
    rcases h1 with h1 | ⟨h1, k1⟩
    · rcases h2 with h2 | ⟨h2, k2⟩
      · left; omega
      · left; omega
    · rcases h2 with h2 | ⟨h2, k2⟩
      · left; omega
      · right
        exact ⟨by omega, less_trans (by simpa using e1) (by simpa using e2) k1 k2⟩
theorem less_total : ∀ {x y : Row}, x.length = y.length → less x y = false → less y x = false → x = y
  | [], [], _, _, _ => rfl
  | [], _ :: _, e, _, _ => by cases e
  | _ :: _, [], e, _, _ => by cases e
  | a :: x, b :: y, e, h1, h2 => by
    rw [less_cons] at h1 h2
    simp only [Bool.or_eq_false_iff, Bool.and_eq_false_iff, decide_eq_false_iff_not, beq_eq_false_iff_ne] at h1 h2
    have e0 : a = b := by omega
    subst e0
    have k1 := h1.2.resolve_left (by simp)
    have k2 := h2.2.resolve_left (by simp)
    rw [less_total (by simpa using e) k1 k2]
/-- nothing less stays nothing less -/
theorem less_keep {x y z : Row} (e1 : x.length = y.length) (e2 : y.length = z.length) (h1 : less x y = false) (h2 : less z y = true) : less x z = false := by
  cases e : less x z with
  | false => rfl
  | true =>
    have := less_trans (e1.trans e2) e2.symm e h2
    rw [h1] at this
    cases this
theorem first_fold (N : Nat) : ∀ (l : List Row) (m : Row), m.length = N → (∀ x ∈ l, x.length = N) →
    (l.foldl (fun (m : Row) x => if less x m = true then x else m) m ∈ m :: l) ∧ ∀ y ∈ m :: l, less y (l.foldl (fun (m : Row) x => if less x m = true then x else m) m) = false
  | [], m, _, _ => ⟨by simp, fun y hy => by
    have : y = m := by simpa using hy
    rw [this]
    exact less_irrefl m⟩
  | a :: l, m, hm, hl => by
    have ha := hl a (by simp)
    have hl' : ∀ x ∈ l, x.length = N := fun x hx => hl x (by simp [hx])
    rw [List.foldl_cons]
    by_cases h : less a m = true
    · rw [if_pos h]
      obtain ⟨k1, k2⟩ := first_fold N l a ha hl'
      refine ⟨List.mem_cons_of_mem _ k1, fun y hy => ?_⟩
      rcases List.mem_cons.mp hy with rfl | hy
      · have q := k2 a (by simp)
        have len : (l.foldl (fun (m : Row) x => if less x m = true then x else m) a).length = N := by
          rcases List.mem_cons.mp k1 with z | z
          · rw [z]; exact ha
          · exact hl' _ z
        cases e : less y (l.foldl (fun (m : Row) x => if less x m = true then x else m) a) with
        | false => rfl
        | true =>
          have := less_trans (ha.trans hm.symm) (hm.trans len.symm) h e
          rw [q] at this
          cases this
      · exact k2 y hy
    · rw [if_neg h]
      obtain ⟨k1, k2⟩ := first_fold N l m hm hl'
      have len : (l.foldl (fun (m : Row) x => if less x m = true then x else m) m).length = N := by
        rcases List.mem_cons.mp k1 with z | z
        · rw [z]; exact hm
        · exact hl' _ z
      refine ⟨?_, fun y hy => ?_⟩
      · rcases List.mem_cons.mp k1 with z | z
        · rw [z]; simp
        · simp [z]
      · rcases List.mem_cons.mp hy with rfl | hy
        · exact k2 _ (by simp)
        · rcases List.mem_cons.mp hy with rfl | hy
          · have q := k2 m (by simp)
            cases e : less y (l.foldl (fun (m : Row) x => if less x m = true then x else m) m) with
            | false => rfl
            | true =>
              cases e2 : less m (l.foldl (fun (m : Row) x => if less x m = true then x else m) m) with
              | true => rw [q] at e2; cases e2
              | false =>
                -- y ≥ m, y < best, m not < best: then best = m
                by_cases e3 : less (l.foldl (fun (m : Row) x => if less x m = true then x else m) m) m = true
                · have := less_trans (ha.trans len.symm) (len.trans hm.symm) e e3
                  exact absurd this h
                · have := less_total (len.trans hm.symm) (by simpa using e3) e2
                  rw [this] at e
                  exact absurd e h
          · exact k2 y (by simp [hy])
theorem first_spec {N : Nat} {l : List Row} (h0 : l ≠ []) (hl : ∀ x ∈ l, x.length = N) : firstOf l ∈ l ∧ ∀ y ∈ l, less y (firstOf l) = false := by
  cases l with
  | nil => exact absurd rfl h0
  | cons a l =>
    unfold firstOf
    rw [List.headD_cons, List.foldl_cons]
    rw [if_neg (by rw [less_irrefl]; decide)]
    exact first_fold N l a (hl a (by simp)) fun x hx => hl x (by simp [hx])
theorem least_fold : ∀ (l : List Row) (m : Int), (l.foldl (fun (m : Int) x => min m (square x)) m ≤ m) ∧ (∀ x ∈ l, l.foldl (fun (m : Int) x => min m (square x)) m ≤ square x) ∧
    (l.foldl (fun (m : Int) x => min m (square x)) m = m ∨ ∃ x ∈ l, l.foldl (fun (m : Int) x => min m (square x)) m = square x)
  | [], m => ⟨by simp, fun x hx => by simp at hx, .inl rfl⟩
  | a :: l, m => by
    rw [List.foldl_cons]
    obtain ⟨k1, k2, k3⟩ := least_fold l (min m (square a))
    refine ⟨by omega, fun x hx => ?_, ?_⟩
    · rcases List.mem_cons.mp hx with rfl | hx
      · omega
      · exact k2 x hx
    · rcases k3 with k3 | ⟨x, hx, k3⟩
      · rw [k3]
        by_cases h : m ≤ square a
        · left; omega
        · right; exact ⟨a, by simp, by omega⟩
      · right; exact ⟨x, by simp [hx], k3⟩
theorem least_spec {l : List Row} (h0 : l ≠ []) : (∀ x ∈ l, leastSquare l ≤ square x) ∧ ∃ x ∈ l, leastSquare l = square x := by
  cases l with
  | nil => exact absurd rfl h0
  | cons a l =>
    unfold leastSquare
    rw [List.headD_cons]
    obtain ⟨k1, k2, k3⟩ := least_fold (a :: l) (square a)
    refine ⟨k2, ?_⟩
    rcases k3 with k3 | k3
    · exact ⟨a, by simp, k3⟩
    · exact k3
/-- the first of those at least distance: the least by (distance, row) -/
theorem first_uniq {N : Nat} {ps : List Row} {f : Row → Int} {m : Int} {x : Row} (hl : ∀ y ∈ ps, y.length = N) (hx : x ∈ ps) (hm1 : ∀ y ∈ ps, m ≤ f y) (hm2 : ∃ y ∈ ps, m = f y)
    (h : ∀ y ∈ ps, less (f y :: y) (f x :: x) = false) : f x = m ∧ firstOf (ps.filter fun y => f y == m) = x := by
  obtain ⟨y0, hy0, e0⟩ := hm2
  have fx : f x = m := by
    have q := h y0 hy0
    rw [less_cons, Bool.or_eq_false_iff] at q
    have q1 := of_decide_eq_false q.1
    have := hm1 x hx
    omega
  refine ⟨fx, ?_⟩
  have hxm : x ∈ ps.filter fun y => f y == m := List.mem_filter.mpr ⟨hx, by simp [fx]⟩
  obtain ⟨k1, k2⟩ := first_spec (N := N) (l := ps.filter fun y => f y == m) (fun z => by rw [z] at hxm; cases hxm) fun y hy => hl y (List.mem_filter.mp hy).1
  obtain ⟨k3, k4⟩ := List.mem_filter.mp k1
  have k4' : f (firstOf (ps.filter fun y => f y == m)) = m := by simpa using k4
  have q := h _ k3
  rw [k4', fx, less_cons] at q
  simp only [Bool.or_eq_false_iff, decide_eq_false_iff_not] at q
  have q2 : less (firstOf (ps.filter fun y => f y == m)) x = false := by
    have := q.2
    simpa using this
  exact less_total ((hl _ k3).trans (hl x hx).symm) q2 (k2 x hxm)
end Gst

/-! Every point of the grid that is near enough is found. -/
namespace Gst
open Si18 (Row Rows)
theorem sq_int_nonneg (x : Int) : 0 ≤ x * x := by
  rcases Int.le_total 0 x with h | h
  · exact Int.mul_nonneg h h
  · exact Int.mul_nonneg_of_nonpos_of_nonpos h h
theorem le_of_sq {p q : Int} (hp : 0 ≤ p) (h : q * q ≤ p * p) : q ≤ p := by
  rcases Int.lt_or_le p q with c | c
  · have : (p + 1) * (p + 1) ≤ q * q := Int.mul_le_mul (by omega) (by omega) (by omega) (by omega)
    have e : (p + 1) * (p + 1) = p * p + 2 * p + 1 := by grind
    omega
  · exact c
theorem cs : ∀ {x y : Row}, x.length = y.length → Si18.dot x y * Si18.dot x y ≤ Si18.square x * Si18.square y
  | [], [], _ => by decide
  | [], _ :: _, e => by cases e
  | _ :: _, [], e => by cases e
  | a :: x, c :: y, e => by
    have ih := cs (x := x) (y := y) (by simpa using e)
    have hA := square_nonneg x
    have hB := square_nonneg y
    have e1 : Si18.square (a :: x) = a * a + Si18.square x := dot_cons a a x x
    have e2 : Si18.square (c :: y) = c * c + Si18.square y := dot_cons c c y y
    rw [dot_cons, e1, e2]
    generalize Si18.square x = A at *
    generalize Si18.square y = B at *
    generalize Si18.dot x y = s at *
    have p0 : 0 ≤ a * a * B + c * c * A := Int.add_nonneg (Int.mul_nonneg (sq_int_nonneg a) hB) (Int.mul_nonneg (sq_int_nonneg c) hA)
    have t1 : 0 ≤ (a * a * (c * c)) * (A * B - s * s) := Int.mul_nonneg (Int.mul_nonneg (sq_int_nonneg a) (sq_int_nonneg c)) (by omega)
    have t2 := sq_int_nonneg (a * a * B - c * c * A)
    have t3 : (2 * (a * c * s)) * (2 * (a * c * s)) ≤ (a * a * B + c * c * A) * (a * a * B + c * c * A) := by
      have f : (a * a * B + c * c * A) * (a * a * B + c * c * A) - (2 * (a * c * s)) * (2 * (a * c * s)) = 4 * ((a * a * (c * c)) * (A * B - s * s)) + (a * a * B - c * c * A) * (a * a * B - c * c * A) := by grind
      omega
    have t4 := le_of_sq p0 t3
    have f1 : (a * c + s) * (a * c + s) = a * a * (c * c) + 2 * (a * c * s) + s * s := by grind
    have f2 : (a * a + A) * (c * c + B) = a * a * (c * c) + (a * a * B + c * c * A) + A * B := by grind
    omega
/-! ### products with a point -/
theorem dot_plus : ∀ {v x y : Row}, v.length = x.length → x.length = y.length → Si18.dot v (Si18.plus x y) = Si18.dot v x + Si18.dot v y
  | [], [], [], _, _ => by decide
  | a :: v, b :: x, c :: y, h1, h2 => by
    have ih := dot_plus (v := v) (x := x) (y := y) (by simpa using h1) (by simpa using h2)
    have e : Si18.plus (b :: x) (c :: y) = (b + c) :: Si18.plus x y := rfl
    rw [e, dot_cons, dot_cons, dot_cons, ih]
    grind
  | [], [], _ :: _, _, h => by cases h
  | [], _ :: _, _, h, _ => by cases h
  | _ :: _, [], _, h, _ => by cases h
  | _ :: _, _ :: _, [], _, h => by cases h
theorem dot_times : ∀ {v : Row} {c : Int} {x : Row}, v.length = x.length → Si18.dot v (Si18.times c x) = c * Si18.dot v x
  | [], c, [], _ => by simp [Si18.dot, Si18.times]
  | a :: v, c, b :: x, h => by
    have ih := dot_times (v := v) (c := c) (x := x) (by simpa using h)
    have e : Si18.times c (b :: x) = (c * b) :: Si18.times c x := rfl
    rw [e, dot_cons, dot_cons, ih]
    grind
  | [], _, _ :: _, h => by cases h
  | _ :: _, _, [], h => by cases h
theorem dot_fold {v : Row} : ∀ {l : List Row} {acc : Row}, v.length = acc.length → (∀ y, y ∈ l → v.length = y.length) → Si18.dot v (l.foldl Si18.plus acc) = Si18.dot v acc + (l.map (Si18.dot v)).sum
  | [], acc, _, _ => by simp
  | y :: l, acc, h, k => by
    have hy := k y (by simp)
    rw [List.foldl_cons, dot_fold (by rw [plus_len]; omega) fun z hz => k z (by simp [hz]), dot_plus h (h.symm.trans hy), List.map_cons, List.sum_cons]
    omega
theorem sum_pick {v : Row} {W : Int} {k : Nat} : ∀ {c : List Int} {m : Rows} {s : Nat}, c.length = m.length → (∀ y, y ∈ m → v.length = y.length) → (∀ i, i < m.length → Si18.dot v (Si18.row m i) = if s + i = k then W else 0) →
    ((List.zipWith Si18.times c m).map (Si18.dot v)).sum = if s ≤ k ∧ k < s + c.length then c.getD (k - s) 0 * W else 0
  | [], [], s, _, _, _ => by
    rw [if_neg (by simp)]
    rfl
  | [], _ :: _, _, h, _, _ => by cases h
  | _ :: _, [], _, h, _, _ => by cases h
  | z :: c, x :: m, s, h, hw, hd => by
    have ih := sum_pick (c := c) (m := m) (s := s + 1) (by simpa using h) (fun y hy => hw y (by simp [hy])) fun i hi => by
      have := hd (i + 1) (by simpa using hi)
      rw [show s + 1 + i = s + (i + 1) by omega]
      exact this
    rw [List.zipWith_cons_cons, List.map_cons, List.sum_cons, ih, dot_times (hw x (by simp))]
    have h0 : Si18.dot v x = if s = k then W else 0 := hd 0 (by simp)
    rw [h0, List.length_cons]
    by_cases e : s = k
    · subst e
      rw [if_pos rfl, if_neg (by omega), if_pos (by omega), Nat.sub_self]
      simp
    · rw [if_neg e]
      by_cases q : s + 1 ≤ k ∧ k < s + 1 + c.length
      · rw [if_pos q, if_pos (by omega)]
        have ek : k - s = (k - (s + 1)) + 1 := by omega
        rw [ek, List.getD_cons_succ]
        simp
      · rw [if_neg q, if_neg (by omega)]
        simp
theorem up_dot {n : Nat} {m : Rows} (S : Sqr n m) {k i : Nat} (hk : k < n) (hi : i < n) : Si18.dot (Si18.row (upL n m) k) (Si18.row m i) = if i = k then upW n m else 0 := by
  have a := dot_cast (upL_wide (m := m) hk) (S.row hi)
  have b := up_ip S hk hi
  have c : ((Si18.dot (Si18.row (upL n m) k) (Si18.row m i) : Int) : Rat) = if i = k then ((upW n m : Int) : Rat) else 0 := a.trans b
  by_cases e : i = k
  · rw [if_pos e] at c ⊢
    exact Rat.intCast_inj.mp c
  · rw [if_neg e] at c ⊢
    exact Rat.intCast_inj.mp c
theorem dot_zero_r (v : Row) (n : Nat) : Si18.dot v (Si18.zeros n) = 0 := dot_zeros v n
/-- a point's coefficient, by the line at right angles to the other rows -/
theorem up_combo {n : Nat} {m : Rows} (S : Sqr n m) {c : List Int} (hc : c.length = n) {k : Nat} (hk : k < n) : Si18.dot (Si18.row (upL n m) k) (Si18.combo n c m) = c.getD k 0 * upW n m := by
  have wide := upL_wide (m := m) hk
  unfold Si18.combo
  rw [dot_fold (by rw [wide]; exact (List.length_replicate ..).symm) (fun y hy => by
    obtain ⟨z, x, hx, rfl⟩ := zip_times_mem hy
    rw [times_len, wide, S.wide x hx]), dot_zero_r, sum_pick (W := upW n m) (k := k) (s := 0) (by rw [hc, S.len]) (fun y hy => by rw [wide, S.wide y hy]) (fun i hi => by
    rw [up_dot S hk (by rw [← S.len]; exact hi), Nat.zero_add]), if_pos (by omega)]
  simp
/-! ### completeness -/
theorem inB_of : ∀ {l : List (Int × Int)} {c : List Int}, c.length = l.length → (∀ k, k < l.length → (l.getD k (0, 0)).1 ≤ c.getD k 0 ∧ c.getD k 0 ≤ (l.getD k (0, 0)).2) → InB l c
  | [], [], _, _ => True.intro
  | [], _ :: _, h, _ => by cases h
  | _ :: _, [], h, _ => by cases h
  | p :: l, z :: c, h, k => by
    have h0 := k 0 (by simp)
    refine ⟨h0.1, h0.2, inB_of (by simpa using h) fun i hi => ?_⟩
    have := k (i + 1) (by simpa using hi)
    simpa using this
theorem dot_minus {v x t : Row} (h1 : v.length = x.length) (h2 : x.length = t.length) : Si18.dot v (Si18.minus x t) = Si18.dot v x - Si18.dot v t := by
  unfold Si18.minus
  rw [dot_plus h1 (by rw [times_len]; exact h2), dot_times (h1.trans h2)]
  omega
theorem minus_len {x t : Row} (h : x.length = t.length) : (Si18.minus x t).length = x.length := by
  unfold Si18.minus
  rw [plus_len, times_len]
  omega
/-- how far a product with a line may be -/
theorem far_bound {n : Nat} {m : Rows} {most : Int} (F : Few n m most) {k : Nat} (hk : k < n) {v : Row} (hv : v.length = n) (hx : Si18.square v ≤ most) : Si18.dot (Si18.row (upL n m) k) v ≤ far n m most k ∧ - far n m most k ≤ Si18.dot (Si18.row (upL n m) k) v := by
  have f := far_sq (F.low k hk) (Int.mul_nonneg F.pos (square_nonneg _))
  have c := cs (x := Si18.row (upL n m) k) (y := v) ((upL_wide hk).trans hv.symm)
  have fn : 0 ≤ far n m most k := Int.natCast_nonneg _
  have g : Si18.square (Si18.row (upL n m) k) * Si18.square v ≤ most * Si18.square (Si18.row (upL n m) k) := by
    rw [Int.mul_comm]
    exact Int.mul_le_mul_of_nonneg_right hx (square_nonneg _)
  generalize far n m most k = q at *
  generalize Si18.dot (Si18.row (upL n m) k) v = d at *
  have e : (q + 1) * (q + 1) = q * q + 2 * q + 1 := by grind
  constructor
  · rcases Int.lt_or_le q d with z | z
    · have : (q + 1) * (q + 1) ≤ d * d := Int.mul_le_mul (by omega) (by omega) (by omega) (by omega)
      omega
    · exact z
  · rcases Int.lt_or_le q (-d) with z | z
    · have : (q + 1) * (q + 1) ≤ (-d) * (-d) := Int.mul_le_mul (by omega) (by omega) (by omega) (by omega)
      have e2 : (-d) * (-d) = d * d := by grind
      omega
    · omega
theorem complete {n : Nat} {m : Rows} (S : Sqr n m) (hd : Si18.det n m ≠ 0) {place : Row} (hp : place.length = n) {most : Int} (F : Few n m most) {c : List Int} (hc : c.length = n) (hx : Si18.square (Si18.minus (Si18.combo n c m) place) ≤ most) :
    Si18.combo n c m ∈ (grows [Si18.zeros n] m (bnds n m place most)).filter fun x => decide (Si18.square (Si18.minus x place) ≤ most) := by
  refine List.mem_filter.mpr ⟨?_, decide_eq_true hx⟩
  rw [grows_combo S]
  refine List.mem_map.mpr ⟨c, mem_tup.mpr (inB_of ?_ fun k hk => ?_), rfl⟩
  · unfold bnds
    rw [List.length_map, List.length_range, hc]
  · have hk : k < n := by
      unfold bnds at hk
      simpa using hk
    unfold bnds
    rw [getD_range _ _ hk]
    have cl := combo_len S c
    have b := far_bound F hk ((minus_len (cl.trans hp.symm)).trans cl) hx
    rw [dot_minus ((upL_wide hk).trans cl.symm) (cl.trans hp.symm), up_combo S hc hk] at b
    have W := upW_pos hd
    show loB n m place most k ≤ _ ∧ _ ≤ hiB n m place most k
    unfold loB hiB
    generalize far n m most k = q at *
    generalize Si18.dot (Si18.row (upL n m) k) place = mid at *
    generalize c.getD k 0 = z at *
    generalize upW n m = w at *
    constructor
    · have : -z ≤ (q - mid) / w := Int.le_ediv_of_mul_le W (by rw [Int.neg_mul]; omega)
      omega
    · exact Int.le_ediv_of_mul_le W (by omega)
/-! ### a row among the points -/
theorem sum_scale {v : Row} {t : Int} {k : Nat} : ∀ {c : List Int} {m : Rows} {s : Nat}, c.length = m.length → (∀ y, y ∈ m → v.length = y.length) → (∀ i, i < c.length → c.getD i 0 = if s + i = k then t else 0) → s ≤ k → k < s + m.length →
    ((List.zipWith Si18.times c m).map (Si18.dot v)).sum = t * Si18.dot v (Si18.row m (k - s))
  | [], [], s, _, _, _, h1, h2 => by
    simp at h2
    omega
  | [], _ :: _, _, h, _, _, _, _ => by cases h
  | _ :: _, [], _, h, _, _, _, _ => by cases h
  | z :: c, x :: m, s, h, hw, hd, h1, h2 => by
    rw [List.zipWith_cons_cons, List.map_cons, List.sum_cons, dot_times (hw x (by simp))]
    have h0 : z = if s = k then t else 0 := hd 0 (by simp)
    have tl : ∀ i, i < c.length → c.getD i 0 = if s + 1 + i = k then t else 0 := fun i hi => by
      have := hd (i + 1) (by simpa using hi)
      rw [show s + 1 + i = s + (i + 1) by omega]
      simpa using this
    by_cases e : s = k
    · subst e
      rw [if_pos rfl] at h0
      rw [h0, Nat.sub_self]
      have zero : ((List.zipWith Si18.times c m).map (Si18.dot v)).sum = 0 := by
        have all : ∀ i, i < c.length → c.getD i 0 = 0 := fun i hi => by
          rw [tl i hi, if_neg (by omega)]
        clear h0 hd tl h h1 h2
        have wide : ∀ y, y ∈ m → v.length = y.length := fun y hy => hw y (by simp [hy])
        clear hw
        induction c generalizing m with
        | nil => rfl
        | cons a c ih =>
          cases m with
          | nil => rfl
          | cons y m =>
            rw [List.zipWith_cons_cons, List.map_cons, List.sum_cons, ih m (fun i hi => by have := all (i + 1) (by simpa using hi); simpa using this) (fun y' hy => wide y' (by simp [hy])), dot_times (wide y (by simp))]
            have a0 : a = 0 := all 0 (by simp)
            rw [a0]
            simp
      rw [zero]
      show t * Si18.dot v x + 0 = t * Si18.dot v x
      omega
    · rw [if_neg e] at h0
      rw [h0, sum_scale (by simpa using h) (fun y hy => hw y (by simp [hy])) tl (by omega) (by rw [List.length_cons] at h2; omega)]
      have ek : k - s = (k - (s + 1)) + 1 := by omega
      rw [ek]
      show 0 * Si18.dot v x + t * Si18.dot v (Si18.row m (k - (s + 1))) = t * Si18.dot v (Si18.row m (k - (s + 1)))
      omega
theorem square_zero : ∀ {x : Row}, Si18.square x = 0 → ∀ a, a ∈ x → a = 0
  | [], _, a, h => by simp at h
  | b :: x, h, a, ha => by
    have e : Si18.square (b :: x) = b * b + Si18.square x := dot_cons b b x x
    rw [e] at h
    have p := square_nonneg x
    have q := sq_int_nonneg b
    rcases List.mem_cons.mp ha with r | r
    · rw [r]
      have : b * b = 0 := by omega
      rcases Int.mul_eq_zero.mp this with z | z <;> exact z
    · exact square_zero (by omega) a r
theorem zero_minus : ∀ {x y : Row}, x.length = y.length → (∀ a, a ∈ Si18.minus x y → a = 0) → x = y
  | [], [], _, _ => rfl
  | [], _ :: _, h, _ => by cases h
  | _ :: _, [], h, _ => by cases h
  | a :: x, b :: y, h, k => by
    have e : Si18.minus (a :: x) (b :: y) = (a + -1 * b) :: Si18.minus x y := rfl
    rw [e] at k
    have h0 := k _ (List.mem_cons_self)
    rw [zero_minus (by simpa using h) fun z hz => k z (List.mem_cons_of_mem _ hz), show a = b by omega]
theorem row_ext {n : Nat} {x y : Row} (hx : x.length = n) (hy : y.length = n) (h : ∀ v : Row, v.length = n → Si18.dot v x = Si18.dot v y) : x = y := by
  have e := hx.trans hy.symm
  refine zero_minus e (square_zero ?_)
  have l := minus_len e
  show Si18.dot (Si18.minus x y) (Si18.minus x y) = 0
  rw [dot_minus l e, h _ (l.trans hx)]
  omega
def unit_ (n k : Nat) (t : Int) : List Int := (List.range n).map fun i => if i = k then t else 0
theorem combo_unit {n : Nat} {m : Rows} (S : Sqr n m) {k : Nat} (hk : k < n) (t : Int) : Si18.combo n (unit_ n k t) m = Si18.times t (Si18.row m k) := by
  have ul : (unit_ n k t).length = n := by
    unfold unit_
    simp
  refine row_ext (combo_len S _) (by rw [times_len, S.row hk]) fun v hv => ?_
  unfold Si18.combo
  rw [dot_fold (by rw [hv]; exact (List.length_replicate ..).symm) (fun y hy => by
    obtain ⟨z, x, hx, rfl⟩ := zip_times_mem hy
    rw [times_len, hv, S.wide x hx]), dot_zero_r, sum_scale (t := t) (k := k) (s := 0) (by rw [ul, S.len]) (fun y hy => by rw [hv, S.wide y hy]) (fun i hi => by
      rw [ul] at hi
      unfold unit_
      rw [getD_range _ _ hi, Nat.zero_add]) (Nat.zero_le _) (by rw [S.len]; omega), dot_times (by rw [hv, S.row hk])]
  simp
theorem square_times (t : Int) (x : Row) : Si18.square (Si18.times t x) = t * t * Si18.square x := by
  have l : (Si18.times t x).length = x.length := times_len
  show Si18.dot (Si18.times t x) (Si18.times t x) = _
  rw [dot_times l]
  have e : Si18.dot (Si18.times t x) x = Si18.dot x (Si18.times t x) := by
    have a := dot_cast (n := x.length) (x := Si18.times t x) (y := x) l rfl
    have b := dot_cast (n := x.length) (x := x) (y := Si18.times t x) rfl l
    rw [ip_comm] at a
    exact Rat.intCast_inj.mp (a.trans b.symm)
  rw [e, dot_times rfl]
  show t * (t * Si18.square x) = _
  grind
/-! ### ahead -/
theorem ahead_one (a : Int) (x : Row) : Si18.ahead (a :: x) = if a = 0 then Si18.ahead x else decide (0 < a) := by
  unfold Si18.ahead
  rw [List.find?_cons]
  by_cases h : a = 0
  · subst h
    simp
  · rw [if_neg h, show ((a != 0) = true) by simpa using h]
theorem ahead_or : ∀ {x : Row}, Si18.square x ≠ 0 → Si18.ahead x = true ∨ Si18.ahead (Si18.times (-1) x) = true
  | [], h => absurd rfl h
  | a :: x, h => by
    have e : Si18.times (-1) (a :: x) = (-1 * a) :: Si18.times (-1) x := rfl
    rw [e, ahead_one, ahead_one]
    by_cases h0 : a = 0
    · subst h0
      rw [if_pos rfl, if_pos (by decide)]
      refine ahead_or fun z => h ?_
      have e2 : Si18.square (0 :: x) = 0 * 0 + Si18.square x := dot_cons 0 0 x x
      rw [e2, z]
      rfl
    · rw [if_neg h0, if_neg (by omega)]
      by_cases q : 0 < a
      · left; exact decide_eq_true q
      · right; exact decide_eq_true (by omega)
theorem ahead_square : ∀ {x : Row}, Si18.ahead x = true → Si18.square x ≠ 0
  | [], h => by cases h
  | a :: x, h => by
    rw [ahead_one] at h
    have e : Si18.square (a :: x) = a * a + Si18.square x := dot_cons a a x x
    rw [e]
    have p := square_nonneg x
    have q := sq_int_nonneg a
    by_cases h0 : a = 0
    · rw [if_pos h0] at h
      have := ahead_square h
      omega
    · intro z
      have : a * a = 0 := by omega
      rcases Int.mul_eq_zero.mp this with z | z <;> exact h0 z
end Gst

/-! Rounding: how far the point beside a place may lie from it. -/
namespace Gst
open Si18 (Row Rows)
/-! ### a vector by its products with the lines -/
theorem col_ip {n : Nat} {m : Rows} (S : Sqr n m) {i j : Nat} (hi : i < n) (hj : j < n) : (sum n fun k => ((cofT n m k j : Int) : Rat) * mat m k i) = if i = j then det n (mat m) else 0 := by
  obtain ⟨n, rfl⟩ : ∃ p, n = p + 1 := ⟨n - 1, by omega⟩
  have e : (sum (n + 1) fun k => ((cofT (n + 1) m k j : Int) : Rat) * mat m k i) = sum (n + 1) fun k => sgn (j + k) * (fun a b => mat m b a) i k * det n (fun r c => (fun a b => mat m b a) (skip j r) (skip k c)) := sum_congr fun k hk => by
    rw [cofT_cast S hk, det_tr n]
    show _ = sgn (j + k) * mat m k i * det n (fun r c => mat m (skip k c) (skip j r))
    rw [Nat.add_comm j k]
    grind
  rw [e]
  by_cases h : i = j
  · subst h
    rw [if_pos rfl, det_tr (n + 1) (mat m)]
    exact (det_row (A := fun a b => mat m b a) hi).symm
  · rw [if_neg h]
    exact det_cof_ne (A := fun a b => mat m b a) hj hi h
theorem up_at {n : Nat} {m : Rows} {k j : Nat} (hk : k < n) (hj : j < n) : mat (upL n m) k j = (if Si18.det n m < 0 then (-1 : Rat) else 1) * ((cofT n m k j : Int) : Rat) := by
  show vec (Si18.row (upL n m) k) j = _
  rw [upL_row hk]
  have v : vec (cofR n m k) j = ((cofT n m k j : Int) : Rat) := by
    unfold vec cofR
    rw [getD_range _ _ hj]
  by_cases h : Si18.det n m < 0
  · rw [if_pos h, if_pos h, vec_neg, v]
    grind
  · rw [if_neg h, if_neg h, v]
    grind
theorem upW_cast {n : Nat} {m : Rows} (S : Sqr n m) : ((upW n m : Int) : Rat) = (if Si18.det n m < 0 then (-1 : Rat) else 1) * det n (mat m) := by
  have d := det_cast (n := n) S.len
  unfold upW
  by_cases h : Si18.det n m < 0
  · rw [if_pos h, if_pos h, Rat.intCast_sub, d]
    show (0 : Rat) - _ = _
    grind
  · rw [if_neg h, if_neg h, d]
    grind
/-- W x is the sum of the rows, each as often as the product of x with its line -/
theorem cramer {n : Nat} {m : Rows} (S : Sqr n m) (x : Vec) {i : Nat} (hi : i < n) : ((upW n m : Int) : Rat) * x i = sum n fun k => ip n (mat (upL n m) k) x * mat m k i := by
  have e1 : (sum n fun k => ip n (mat (upL n m) k) x * mat m k i) = sum n fun k => sum n fun j => mat (upL n m) k j * x j * mat m k i := sum_congr fun k hk => by
    unfold ip
    rw [Rat.mul_comm, ← sum_mul]
    exact sum_congr fun j _ => by grind
  rw [e1, sum_comm]
  have e2 : (sum n fun j => sum n fun k => mat (upL n m) k j * x j * mat m k i) = sum n fun j => if i = j then ((upW n m : Int) : Rat) * x i else 0 := sum_congr fun j hj => by
    have a : (sum n fun k => mat (upL n m) k j * x j * mat m k i) = (if Si18.det n m < 0 then (-1 : Rat) else 1) * x j * sum n fun k => ((cofT n m k j : Int) : Rat) * mat m k i := by
      rw [← sum_mul]
      exact sum_congr fun k hk => by
        rw [up_at hk hj]
        grind
    rw [a, col_ip S hi hj, upW_cast S]
    by_cases h : i = j
    · subst h
      rw [if_pos rfl, if_pos rfl]
      grind
    · rw [if_neg h, if_neg h]
      grind
  rw [e2, sum_one (c := i) hi (fun j _ hne => if_neg fun z => hne z.symm), if_pos rfl]
/-! ### products that are at most half -/
def hd (d : Nat) : Rat := 1 / 2 + (d : Rat) / 4
theorem mu_beside {n : Nat} {be : Rat} {m : Rows} (D : Redd n be m) {x : Vec} (hx : ∀ k, k < n → -((upW n m : Int) : Rat) ≤ 2 * ip n (mat (upL n m) k) x ∧ 2 * ip n (mat (upL n m) k) x ≤ ((upW n m : Int) : Rat)) {j : Nat} (hj : j < n) :
    -(hd (n - 1 - j)) ≤ mu n (mat m) x j ∧ mu n (mat m) x j ≤ hd (n - 1 - j) := by
  have W : (0 : Rat) < ((upW n m : Int) : Rat) := Rat.intCast_pos.mpr (upW_pos D.det)
  have Np := D.P.pos j hj
  -- W mu = the sum of the products times mu of the rows
  have key : ((upW n m : Int) : Rat) * mu n (mat m) x j = sum n fun k => ip n (mat (upL n m) k) x * mu n (mat m) (mat m k) j := by
    have a := mu_eq (n := n) (b := mat m) x j
    have b : ((upW n m : Int) : Rat) * ip n x (E n (mat m) j) = sum n fun k => ip n (mat (upL n m) k) x * (mu n (mat m) (mat m k) j * N n (mat m) j) := by
      rw [← ip_mul]
      have c : ip n (fun i => ((upW n m : Int) : Rat) * x i) (E n (mat m) j) = sum n fun i => sum n fun k => ip n (mat (upL n m) k) x * (mat m k i * E n (mat m) j i) := sum_congr fun i hi => by
        show (((upW n m : Int) : Rat) * x i) * E n (mat m) j i = _
        rw [cramer D.P.sq x hi, Rat.mul_comm, ← sum_mul]
        exact sum_congr fun k _ => by grind
      rw [c, sum_comm]
      refine sum_congr fun k _ => ?_
      rw [sum_mul, mu_eq]
      rfl
    have d : (((upW n m : Int) : Rat) * mu n (mat m) x j) * N n (mat m) j = (sum n fun k => ip n (mat (upL n m) k) x * mu n (mat m) (mat m k) j) * N n (mat m) j := by
      rw [Rat.mul_assoc, a, b, Rat.mul_comm (sum n _), ← sum_mul]
      exact sum_congr fun k _ => by grind
    have ne := Rat.ne_of_gt Np
    have := congrArg (fun z => z / N n (mat m) j) d
    simp only [Rat.mul_div_cancel ne] at this
    exact this
  -- how great that sum is
  have bound : ∀ K, K ≤ n → (K ≤ j → (sum K fun k => ip n (mat (upL n m) k) x * mu n (mat m) (mat m k) j) = 0) ∧ (∀ d, K = j + 1 + d → -(((upW n m : Int) : Rat) * hd d) ≤ (sum K fun k => ip n (mat (upL n m) k) x * mu n (mat m) (mat m k) j) ∧ (sum K fun k => ip n (mat (upL n m) k) x * mu n (mat m) (mat m k) j) ≤ ((upW n m : Int) : Rat) * hd d) := by
    intro K
    induction K with
    | zero => exact fun _ => ⟨fun _ => rfl, fun d h => by omega⟩
    | succ K ih =>
      intro hK
      obtain ⟨i1, i2⟩ := ih (by omega)
      have gk := hx K (by omega)
      have st : (sum (K + 1) fun k => ip n (mat (upL n m) k) x * mu n (mat m) (mat m k) j) = (sum K fun k => ip n (mat (upL n m) k) x * mu n (mat m) (mat m k) j) + ip n (mat (upL n m) K) x * mu n (mat m) (mat m K) j := rfl
      refine ⟨fun h => ?_, fun d h => ?_⟩
      · rw [st, i1 (by omega), mu_past (by omega)]
        grind
      · rw [st]
        by_cases c : K = j
        · have d0 : d = 0 := by omega
          subst d0
          subst c
          rw [i1 (Nat.le_refl _), mu_own (Rat.ne_of_gt Np)]
          have h0 : hd 0 = 1 / 2 := by
            unfold hd
            show (1 : Rat) / 2 + 0 / 4 = 1 / 2
            grind
          rw [h0]
          grind
        · obtain ⟨d', rfl⟩ : ∃ d', d = d' + 1 := ⟨d - 1, by omega⟩
          obtain ⟨b1, b2⟩ := i2 d' (by omega)
          obtain ⟨h1, h2⟩ := D.half K j (by omega) (by omega)
          generalize (sum K fun k => ip n (mat (upL n m) k) x * mu n (mat m) (mat m k) j) = s at *
          generalize ip n (mat (upL n m) K) x = g at *
          generalize mu n (mat m) (mat m K) j = u at *
          generalize ((upW n m : Int) : Rat) = w at *
          have hs : hd (d' + 1) = hd d' + 1 / 4 := by
            unfold hd
            have : (((d' + 1 : Nat) : Nat) : Rat) = (d' : Rat) + 1 := by
              rw [Rat.natCast_add]
              rfl
            rw [this]
            grind
          rw [hs]
          -- |g| ≤ w / 2, |u| ≤ 1 / 2
          have p1 := Rat.mul_nonneg (a := w - 2 * g) (b := 1 - 2 * u) (by grind) (by grind)
          have p2 := Rat.mul_nonneg (a := w + 2 * g) (b := 1 + 2 * u) (by grind) (by grind)
          have p3 := Rat.mul_nonneg (a := w - 2 * g) (b := 1 + 2 * u) (by grind) (by grind)
          have p4 := Rat.mul_nonneg (a := w + 2 * g) (b := 1 - 2 * u) (by grind) (by grind)
          grind
  have b := (bound n (Nat.le_refl n)).2 (n - 1 - j) (by omega)
  rw [← key] at b
  constructor
  · refine Rat.le_of_mul_le_mul_left ?_ W
    grind
  · refine Rat.le_of_mul_le_mul_left ?_ W
    grind
end Gst

/-! Tables of widths for searches about any place. -/
namespace Gst
open Si18 (Row Rows)
/-- the square of what lies half beside the lines -/
theorem far_sum {n : Nat} {be : Rat} {m : Rows} (D : Redd n be m) {x : Vec} (hx : ∀ k, k < n → -((upW n m : Int) : Rat) ≤ 2 * ip n (mat (upL n m) k) x ∧ 2 * ip n (mat (upL n m) k) x ≤ ((upW n m : Int) : Rat)) :
    ip n x x ≤ sum n fun j => hd (n - 1 - j) * hd (n - 1 - j) * N n (mat m) j := by
  rw [sq_whole (det_ne D.P.sq D.det) x]
  refine sum_le fun j hj => Rat.mul_le_mul_of_nonneg_right ?_ (Rat.le_of_lt (D.P.pos j hj))
  obtain ⟨a, b⟩ := mu_beside D hx hj
  have := Rat.mul_nonneg (a := hd (n - 1 - j) - mu n (mat m) x j) (b := hd (n - 1 - j) + mu n (mat m) x j) (by grind) (by grind)
  grind
/-- how great a search may be -/
structure Near45 (n : Nat) (m : Rows) (most : Rat) : Prop where
  all : ∀ L, (∀ j, j < n → N n (mat m) j ≤ L) → most ≤ 45 / 8 * L
  last : n = 5 → ∀ L, (∀ j, j < 4 → 4 * N n (mat m) j ≤ L) → N n (mat m) 4 ≤ L → most ≤ 8 / 5 * L
theorem hd0 : hd 0 = 1 / 2 := by decide +kernel
theorem hd1 : hd 1 = 3 / 4 := by decide +kernel
theorem hd2 : hd 2 = 1 := by decide +kernel
theorem hd3 : hd 3 = 5 / 4 := by decide +kernel
theorem hd4 : hd 4 = 3 / 2 := by decide +kernel
theorem near_45 {n : Nat} {be : Rat} {m : Rows} (D : Redd n be m) (n1 : 1 ≤ n) (n5 : n ≤ 5) {x : Vec} (hx : ∀ k, k < n → -((upW n m : Int) : Rat) ≤ 2 * ip n (mat (upL n m) k) x ∧ 2 * ip n (mat (upL n m) k) x ≤ ((upW n m : Int) : Rat)) : Near45 n m (ip n x x) := by
  have s := far_sum D hx
  have pos : ∀ j, j < n → 0 < N n (mat m) j := D.P.pos
  constructor
  · intro L hL
    have cs : n = 1 ∨ n = 2 ∨ n = 3 ∨ n = 4 ∨ n = 5 := by omega
    rcases cs with rfl | rfl | rfl | rfl | rfl
    · have e : (sum 1 fun j => hd (1 - 1 - j) * hd (1 - 1 - j) * N 1 (mat m) j) = 0 + hd 0 * hd 0 * N 1 (mat m) 0 := rfl
      rw [e, hd0] at s
      have := hL 0 (by omega)
      have := pos 0 (by omega)
      grind
    · have e : (sum 2 fun j => hd (2 - 1 - j) * hd (2 - 1 - j) * N 2 (mat m) j) = 0 + hd 1 * hd 1 * N 2 (mat m) 0 + hd 0 * hd 0 * N 2 (mat m) 1 := rfl
      rw [e, hd0, hd1] at s
      have := hL 0 (by omega)
      have := hL 1 (by omega)
      have := pos 0 (by omega)
      grind
    · have e : (sum 3 fun j => hd (3 - 1 - j) * hd (3 - 1 - j) * N 3 (mat m) j) = 0 + hd 2 * hd 2 * N 3 (mat m) 0 + hd 1 * hd 1 * N 3 (mat m) 1 + hd 0 * hd 0 * N 3 (mat m) 2 := rfl
      rw [e, hd0, hd1, hd2] at s
      have := hL 0 (by omega)
      have := hL 1 (by omega)
      have := hL 2 (by omega)
      have := pos 0 (by omega)
      grind
    · have e : (sum 4 fun j => hd (4 - 1 - j) * hd (4 - 1 - j) * N 4 (mat m) j) = 0 + hd 3 * hd 3 * N 4 (mat m) 0 + hd 2 * hd 2 * N 4 (mat m) 1 + hd 1 * hd 1 * N 4 (mat m) 2 + hd 0 * hd 0 * N 4 (mat m) 3 := rfl
      rw [e, hd0, hd1, hd2, hd3] at s
      have := hL 0 (by omega)
      have := hL 1 (by omega)
      have := hL 2 (by omega)
      have := hL 3 (by omega)
      have := pos 0 (by omega)
      grind
    · have e : (sum 5 fun j => hd (5 - 1 - j) * hd (5 - 1 - j) * N 5 (mat m) j) = 0 + hd 4 * hd 4 * N 5 (mat m) 0 + hd 3 * hd 3 * N 5 (mat m) 1 + hd 2 * hd 2 * N 5 (mat m) 2 + hd 1 * hd 1 * N 5 (mat m) 3 + hd 0 * hd 0 * N 5 (mat m) 4 := rfl
      rw [e, hd0, hd1, hd2, hd3, hd4] at s
      have := hL 0 (by omega)
      have := hL 1 (by omega)
      have := hL 2 (by omega)
      have := hL 3 (by omega)
      have := hL 4 (by omega)
      have := pos 0 (by omega)
      grind
  · intro h5 L hL hl
    subst h5
    have e : (sum 5 fun j => hd (5 - 1 - j) * hd (5 - 1 - j) * N 5 (mat m) j) = 0 + hd 4 * hd 4 * N 5 (mat m) 0 + hd 3 * hd 3 * N 5 (mat m) 1 + hd 2 * hd 2 * N 5 (mat m) 2 + hd 1 * hd 1 * N 5 (mat m) 3 + hd 0 * hd 0 * N 5 (mat m) 4 := rfl
    rw [e, hd0, hd1, hd2, hd3, hd4] at s
    have := hL 0 (by omega)
    have := hL 1 (by omega)
    have := hL 2 (by omega)
    have := hL 3 (by omega)
    have := pos 0 (by omega)
    have := pos 4 (by omega)
    grind
/-! ### the greatest; the least there can be -/
theorem top_of (f : Nat → Rat) : ∀ {n : Nat}, 0 < n → ∃ p, p < n ∧ ∀ j, j < n → f j ≤ f p
  | 0, h => by omega
  | 1, _ => ⟨0, by omega, fun j hj => by
    rw [show j = 0 by omega]
    exact Rat.le_refl⟩
  | n + 2, _ => by
    obtain ⟨p, hp, h⟩ := top_of f (n := n + 1) (by omega)
    rcases Rat.le_total (a := f p) (b := f (n + 1)) with c | c
    · refine ⟨n + 1, by omega, fun j hj => ?_⟩
      by_cases e : j = n + 1
      · rw [e]
        exact Rat.le_refl
      · exact Rat.le_trans (h j (by omega)) c
    · refine ⟨p, by omega, fun j hj => ?_⟩
      by_cases e : j = n + 1
      · rw [e]
        exact c
      · exact h j (by omega)
section
variable {n : Nat} {be : Rat} {m : Rows}
theorem Redd.low0 (D : Redd n be m) (h : 0 < n) : 1 ≤ N n (mat m) 0 := D.first_one h
theorem Redd.low1 (D : Redd n be m) (h : 1 < n) : 1 ≤ 10 / 7 * N n (mat m) 1 := by
  have v := D.P.vol_one (j := 2) (by omega)
  have e : prod 2 (N n (mat m)) = 1 * N n (mat m) 0 * N n (mat m) 1 := rfl
  rw [e] at v
  have p0 := D.P.pos 0 (by omega)
  have p1 := D.P.pos 1 (by omega)
  have s0 := D.step (j := 0) (by omega)
  generalize N n (mat m) 0 = x0 at *
  generalize N n (mat m) 1 = x1 at *
  rcases Rat.le_total (a := 1) (b := 10 / 7 * x1) with q | q
  · exact q
  · exfalso
    have a1 : x1 ≤ 7 / 10 := by grind
    have a0 : x0 ≤ 7 / 5 := by grind
    have t := Rat.mul_le_mul_of_nonneg_right a0 (Rat.le_of_lt p1)
    grind
theorem Redd.low2 (D : Redd n be m) (h : 2 < n) : 1 ≤ 2 * N n (mat m) 2 := by
  have v := D.P.vol_one (j := 3) (by omega)
  have e : prod 3 (N n (mat m)) = 1 * N n (mat m) 0 * N n (mat m) 1 * N n (mat m) 2 := rfl
  rw [e] at v
  have p0 := D.P.pos 0 (by omega)
  have p1 := D.P.pos 1 (by omega)
  have p2 := D.P.pos 2 (by omega)
  have s0 := D.step (j := 0) (by omega)
  have s1 := D.step (j := 1) (by omega)
  generalize N n (mat m) 0 = x0 at *
  generalize N n (mat m) 1 = x1 at *
  generalize N n (mat m) 2 = x2 at *
  by_cases q : 1 ≤ 2 * x2
  · exact q
  · exfalso
    have q := Rat.not_le.mp q
    have a0 : x0 ≤ 2 := by grind
    have a1 : x1 ≤ 1 := by grind
    have t := Rat.mul_le_mul_of_nonneg_right a0 (Rat.le_of_lt p1)
    have t2 : x0 * x1 ≤ 2 := by grind
    have t3 := Rat.mul_le_mul_of_nonneg_right t2 (Rat.le_of_lt p2)
    grind
theorem Redd.low3 (D : Redd n be m) (h : 3 < n) : 1 ≤ 20 / 7 * N n (mat m) 3 := by
  have v := D.P.vol_one (j := 4) (by omega)
  have e : prod 4 (N n (mat m)) = 1 * N n (mat m) 0 * N n (mat m) 1 * N n (mat m) 2 * N n (mat m) 3 := rfl
  rw [e] at v
  have p0 := D.P.pos 0 (by omega)
  have p1 := D.P.pos 1 (by omega)
  have p2 := D.P.pos 2 (by omega)
  have p3 := D.P.pos 3 (by omega)
  have s0 := D.step (j := 0) (by omega)
  have s1 := D.step (j := 1) (by omega)
  have s2 := D.step (j := 2) (by omega)
  generalize N n (mat m) 0 = x0 at *
  generalize N n (mat m) 1 = x1 at *
  generalize N n (mat m) 2 = x2 at *
  generalize N n (mat m) 3 = x3 at *
  rcases Rat.le_total (a := 1) (b := 20 / 7 * x3) with q | q
  · exact q
  · exfalso
    have a3 : x3 ≤ 7 / 20 := by grind
    have a2 : x2 ≤ 7 / 10 := by grind
    have a1 : x1 ≤ 7 / 5 := by grind
    have a0 : x0 ≤ 14 / 5 := by grind
    have t := Rat.mul_le_mul_of_nonneg_right a0 (Rat.le_of_lt p1)
    have t1 : x0 * x1 ≤ 98 / 25 := by grind
    have t2 := Rat.mul_le_mul_of_nonneg_right t1 (Rat.le_of_lt p2)
    have t3 : x0 * x1 * x2 ≤ 686 / 250 := by grind
    have t4 := Rat.mul_le_mul_of_nonneg_right t3 (Rat.le_of_lt p3)
    grind
theorem Redd.low4 (D : Redd 5 be m) (_ : 4 < 5) : 1 ≤ 4 * N 5 (mat m) 4 := D.last5
theorem way_far1 (D : Redd 1 be m) (hb : be ≤ 1000000) {most : Int} (F : Few 1 m most) (h : Near45 1 m (most : Rat)) (place : Row) : ∀ j, j ≤ 1 → pw (wd 1 m place most) j ≤ 16000000 := by
  obtain ⟨p, hp, top⟩ := top_of (N 1 (mat m)) (n := 1) (by omega)
  have hL := h.all _ top
  have hB := Rat.le_trans (D.P.le p hp) hb
  have l0 := D.low0 (by omega)
  obtain rfl : p = 0 := by omega
  exact way_box D F.pos F.low (u := [(45/8 : Rat)]) (b := [5]) (by decide +kernel) fun j hj => by
    rcases j with _ | j
    · show (most : Rat) ≤ (45/8 : Rat) * N 1 (mat m) 0
      grind
    · omega
theorem way_far2 (D : Redd 2 be m) (hb : be ≤ 2000000) {most : Int} (F : Few 2 m most) (h : Near45 2 m (most : Rat)) (place : Row) : ∀ j, j ≤ 2 → pw (wd 2 m place most) j ≤ 16000000 := by
  obtain ⟨p, hp, top⟩ := top_of (N 2 (mat m)) (n := 2) (by omega)
  have hL := h.all _ top
  have hB := Rat.le_trans (D.P.le p hp) hb
  have s0 := D.step (j := 0) (by omega)
  have l0 := D.low0 (by omega)
  have l1 := D.low1 (by omega)
  have hpp : p = 0 ∨ p = 1 := by omega
  rcases hpp with rfl | rfl
  · exact way_box D F.pos F.low (u := [(45/8 : Rat), (45/4 : Rat)]) (b := [6, 7]) (by decide +kernel) fun j hj => by
      rcases j with _ | _ | j
      · show (most : Rat) ≤ (45/8 : Rat) * N 2 (mat m) 0
        grind
      · show (most : Rat) ≤ (45/4 : Rat) * N 2 (mat m) 1
        grind
      · omega
  · exact way_box D F.pos F.low (u := [(11250000 : Rat), (45/8 : Rat)]) (b := [6709, 5]) (by decide +kernel) fun j hj => by
      rcases j with _ | _ | j
      · show (most : Rat) ≤ (11250000 : Rat) * N 2 (mat m) 0
        grind
      · show (most : Rat) ≤ (45/8 : Rat) * N 2 (mat m) 1
        grind
      · omega
theorem way_far3 (D : Redd 3 be m) (hb : be ≤ 2700) {most : Int} (F : Few 3 m most) (h : Near45 3 m (most : Rat)) (place : Row) : ∀ j, j ≤ 3 → pw (wd 3 m place most) j ≤ 16000000 := by
  obtain ⟨p, hp, top⟩ := top_of (N 3 (mat m)) (n := 3) (by omega)
  have hL := h.all _ top
  have hB := Rat.le_trans (D.P.le p hp) hb
  have s0 := D.step (j := 0) (by omega)
  have s1 := D.step (j := 1) (by omega)
  have l0 := D.low0 (by omega)
  have l1 := D.low1 (by omega)
  have l2 := D.low2 (by omega)
  have hpp : p = 0 ∨ p = 1 ∨ p = 2 := by omega
  rcases hpp with rfl | rfl | rfl
  · exact way_box D F.pos F.low (u := [(45/8 : Rat), (45/4 : Rat), (45/2 : Rat)]) (b := [10, 9, 10]) (by decide +kernel) fun j hj => by
      rcases j with _ | _ | _ | j
      · show (most : Rat) ≤ (45/8 : Rat) * N 3 (mat m) 0
        grind
      · show (most : Rat) ≤ (45/4 : Rat) * N 3 (mat m) 1
        grind
      · show (most : Rat) ≤ (45/2 : Rat) * N 3 (mat m) 2
        grind
      · omega
  · exact way_box D F.pos F.low (u := [(30375/2 : Rat), (45/8 : Rat), (45/4 : Rat)]) (b := [247, 6, 7]) (by decide +kernel) fun j hj => by
      rcases j with _ | _ | _ | j
      · show (most : Rat) ≤ (30375/2 : Rat) * N 3 (mat m) 0
        grind
      · show (most : Rat) ≤ (45/8 : Rat) * N 3 (mat m) 1
        grind
      · show (most : Rat) ≤ (45/4 : Rat) * N 3 (mat m) 2
        grind
      · omega
  · exact way_box D F.pos F.low (u := [(30375/2 : Rat), (151875/7 : Rat), (45/8 : Rat)]) (b := [288, 295, 5]) (by decide +kernel) fun j hj => by
      rcases j with _ | _ | _ | j
      · show (most : Rat) ≤ (30375/2 : Rat) * N 3 (mat m) 0
        grind
      · show (most : Rat) ≤ (151875/7 : Rat) * N 3 (mat m) 1
        grind
      · show (most : Rat) ≤ (45/8 : Rat) * N 3 (mat m) 2
        grind
      · omega
theorem way_far4 (D : Redd 4 be m) (hb : be ≤ 324) {most : Int} (F : Few 4 m most) (h : Near45 4 m (most : Rat)) (place : Row) : ∀ j, j ≤ 4 → pw (wd 4 m place most) j ≤ 16000000 := by
  obtain ⟨p, hp, top⟩ := top_of (N 4 (mat m)) (n := 4) (by omega)
  have hL := h.all _ top
  have hB := Rat.le_trans (D.P.le p hp) hb
  have s0 := D.step (j := 0) (by omega)
  have s1 := D.step (j := 1) (by omega)
  have s2 := D.step (j := 2) (by omega)
  have l0 := D.low0 (by omega)
  have l1 := D.low1 (by omega)
  have l2 := D.low2 (by omega)
  have l3 := D.low3 (by omega)
  have hpp : p = 0 ∨ p = 1 ∨ p = 2 ∨ p = 3 := by omega
  rcases hpp with rfl | rfl | rfl | rfl
  · exact way_box D F.pos F.low (u := [(45/8 : Rat), (45/4 : Rat), (45/2 : Rat), (45 : Rat)]) (b := [18, 13, 12, 14]) (by decide +kernel) fun j hj => by
      rcases j with _ | _ | _ | _ | j
      · show (most : Rat) ≤ (45/8 : Rat) * N 4 (mat m) 0
        grind
      · show (most : Rat) ≤ (45/4 : Rat) * N 4 (mat m) 1
        grind
      · show (most : Rat) ≤ (45/2 : Rat) * N 4 (mat m) 2
        grind
      · show (most : Rat) ≤ (45 : Rat) * N 4 (mat m) 3
        grind
      · omega
  · exact way_box D F.pos F.low (u := [(3645/2 : Rat), (45/8 : Rat), (45/4 : Rat), (45/2 : Rat)]) (b := [87, 10, 9, 10]) (by decide +kernel) fun j hj => by
      rcases j with _ | _ | _ | _ | j
      · show (most : Rat) ≤ (3645/2 : Rat) * N 4 (mat m) 0
        grind
      · show (most : Rat) ≤ (45/8 : Rat) * N 4 (mat m) 1
        grind
      · show (most : Rat) ≤ (45/4 : Rat) * N 4 (mat m) 2
        grind
      · show (most : Rat) ≤ (45/2 : Rat) * N 4 (mat m) 3
        grind
      · omega
  · exact way_box D F.pos F.low (u := [(3645/2 : Rat), (18225/7 : Rat), (45/8 : Rat), (45/4 : Rat)]) (b := [100, 103, 6, 7]) (by decide +kernel) fun j hj => by
      rcases j with _ | _ | _ | _ | j
      · show (most : Rat) ≤ (3645/2 : Rat) * N 4 (mat m) 0
        grind
      · show (most : Rat) ≤ (18225/7 : Rat) * N 4 (mat m) 1
        grind
      · show (most : Rat) ≤ (45/8 : Rat) * N 4 (mat m) 2
        grind
      · show (most : Rat) ≤ (45/4 : Rat) * N 4 (mat m) 3
        grind
      · omega
  · exact way_box D F.pos F.low (u := [(3645/2 : Rat), (18225/7 : Rat), (3645 : Rat), (45/8 : Rat)]) (b := [135, 119, 121, 5]) (by decide +kernel) fun j hj => by
      rcases j with _ | _ | _ | _ | j
      · show (most : Rat) ≤ (3645/2 : Rat) * N 4 (mat m) 0
        grind
      · show (most : Rat) ≤ (18225/7 : Rat) * N 4 (mat m) 1
        grind
      · show (most : Rat) ≤ (3645 : Rat) * N 4 (mat m) 2
        grind
      · show (most : Rat) ≤ (45/8 : Rat) * N 4 (mat m) 3
        grind
      · omega
theorem way_far5 (D : Redd 5 be m) (hb : be ≤ 45) {most : Int} (F : Few 5 m most) (h : Near45 5 m (most : Rat)) (place : Row) : ∀ j, j ≤ 5 → pw (wd 5 m place most) j ≤ 16000000 := by
  obtain ⟨p, hp, top⟩ := top_of (N 5 (mat m)) (n := 5) (by omega)
  have hL := h.all _ top
  have hB := Rat.le_trans (D.P.le p hp) hb
  have s0 := D.step (j := 0) (by omega)
  have s1 := D.step (j := 1) (by omega)
  have s2 := D.step (j := 2) (by omega)
  have s3 := D.step (j := 3) (by omega)
  have l0 := D.low0 (by omega)
  have l1 := D.low1 (by omega)
  have l2 := D.low2 (by omega)
  have l3 := D.low3 (by omega)
  have l4 := D.low4 (by omega)
  have hpp : p = 0 ∨ p = 1 ∨ p = 2 ∨ p = 3 ∨ p = 4 := by omega
  rcases hpp with rfl | rfl | rfl | rfl | rfl
  · exact way_box D F.pos F.low (u := [(45/8 : Rat), (45/4 : Rat), (45/2 : Rat), (45 : Rat), (90 : Rat)]) (b := [37, 25, 19, 17, 19]) (by decide +kernel) fun j hj => by
      rcases j with _ | _ | _ | _ | _ | j
      · show (most : Rat) ≤ (45/8 : Rat) * N 5 (mat m) 0
        grind
      · show (most : Rat) ≤ (45/4 : Rat) * N 5 (mat m) 1
        grind
      · show (most : Rat) ≤ (45/2 : Rat) * N 5 (mat m) 2
        grind
      · show (most : Rat) ≤ (45 : Rat) * N 5 (mat m) 3
        grind
      · show (most : Rat) ≤ (90 : Rat) * N 5 (mat m) 4
        grind
      · omega
  · exact way_box D F.pos F.low (u := [(2025/8 : Rat), (45/8 : Rat), (45/4 : Rat), (45/2 : Rat), (45 : Rat)]) (b := [41, 18, 13, 12, 14]) (by decide +kernel) fun j hj => by
      rcases j with _ | _ | _ | _ | _ | j
      · show (most : Rat) ≤ (2025/8 : Rat) * N 5 (mat m) 0
        grind
      · show (most : Rat) ≤ (45/8 : Rat) * N 5 (mat m) 1
        grind
      · show (most : Rat) ≤ (45/4 : Rat) * N 5 (mat m) 2
        grind
      · show (most : Rat) ≤ (45/2 : Rat) * N 5 (mat m) 3
        grind
      · show (most : Rat) ≤ (45 : Rat) * N 5 (mat m) 4
        grind
      · omega
  · exact way_box D F.pos F.low (u := [(2025/8 : Rat), (10125/28 : Rat), (45/8 : Rat), (45/4 : Rat), (45/2 : Rat)]) (b := [42, 40, 10, 9, 10]) (by decide +kernel) fun j hj => by
      rcases j with _ | _ | _ | _ | _ | j
      · show (most : Rat) ≤ (2025/8 : Rat) * N 5 (mat m) 0
        grind
      · show (most : Rat) ≤ (10125/28 : Rat) * N 5 (mat m) 1
        grind
      · show (most : Rat) ≤ (45/8 : Rat) * N 5 (mat m) 2
        grind
      · show (most : Rat) ≤ (45/4 : Rat) * N 5 (mat m) 3
        grind
      · show (most : Rat) ≤ (45/2 : Rat) * N 5 (mat m) 4
        grind
      · omega
  · exact way_box D F.pos F.low (u := [(2025/8 : Rat), (10125/28 : Rat), (2025/4 : Rat), (45/8 : Rat), (45/4 : Rat)]) (b := [52, 45, 46, 6, 7]) (by decide +kernel) fun j hj => by
      rcases j with _ | _ | _ | _ | _ | j
      · show (most : Rat) ≤ (2025/8 : Rat) * N 5 (mat m) 0
        grind
      · show (most : Rat) ≤ (10125/28 : Rat) * N 5 (mat m) 1
        grind
      · show (most : Rat) ≤ (2025/4 : Rat) * N 5 (mat m) 2
        grind
      · show (most : Rat) ≤ (45/8 : Rat) * N 5 (mat m) 3
        grind
      · show (most : Rat) ≤ (45/4 : Rat) * N 5 (mat m) 4
        grind
      · omega
  · by_cases c : ∀ j, j < 4 → 4 * N 5 (mat m) j ≤ N 5 (mat m) 4
    · have hS := h.last rfl _ c Rat.le_refl
      exact way_box D F.pos F.low (u := [(72 : Rat), (720/7 : Rat), (144 : Rat), (1440/7 : Rat), (8/5 : Rat)]) (b := [43, 33, 29, 29, 3]) (by decide +kernel) fun j hj => by
        rcases j with _ | _ | _ | _ | _ | j
        · show (most : Rat) ≤ (72 : Rat) * N 5 (mat m) 0
          grind
        · show (most : Rat) ≤ (720/7 : Rat) * N 5 (mat m) 1
          grind
        · show (most : Rat) ≤ (144 : Rat) * N 5 (mat m) 2
          grind
        · show (most : Rat) ≤ (1440/7 : Rat) * N 5 (mat m) 3
          grind
        · show (most : Rat) ≤ (8/5 : Rat) * N 5 (mat m) 4
          grind
        · omega
    · obtain ⟨r, hr, top2⟩ := top_of (N 5 (mat m)) (n := 4) (by omega)
      have big : N 5 (mat m) 4 ≤ 4 * N 5 (mat m) r := by
        rcases Rat.le_total (a := N 5 (mat m) 4) (b := 4 * N 5 (mat m) r) with z | z
        · exact z
        · exfalso
          refine c fun j hj => ?_
          have := top2 j hj
          grind
      have hrr : r = 0 ∨ r = 1 ∨ r = 2 ∨ r = 3 := by omega
      rcases hrr with rfl | rfl | rfl | rfl
      · exact way_box D F.pos F.low (u := [(45/2 : Rat), (45 : Rat), (90 : Rat), (180 : Rat), (45/8 : Rat)]) (b := [37, 27, 24, 27, 5]) (by decide +kernel) fun j hj => by
          rcases j with _ | _ | _ | _ | _ | j
          · show (most : Rat) ≤ (45/2 : Rat) * N 5 (mat m) 0
            grind
          · show (most : Rat) ≤ (45 : Rat) * N 5 (mat m) 1
            grind
          · show (most : Rat) ≤ (90 : Rat) * N 5 (mat m) 2
            grind
          · show (most : Rat) ≤ (180 : Rat) * N 5 (mat m) 3
            grind
          · show (most : Rat) ≤ (45/8 : Rat) * N 5 (mat m) 4
            grind
          · omega
      · exact way_box D F.pos F.low (u := [(2025/8 : Rat), (45/2 : Rat), (45 : Rat), (90 : Rat), (45/8 : Rat)]) (b := [41, 20, 17, 20, 5]) (by decide +kernel) fun j hj => by
          rcases j with _ | _ | _ | _ | _ | j
          · show (most : Rat) ≤ (2025/8 : Rat) * N 5 (mat m) 0
            grind
          · show (most : Rat) ≤ (45/2 : Rat) * N 5 (mat m) 1
            grind
          · show (most : Rat) ≤ (45 : Rat) * N 5 (mat m) 2
            grind
          · show (most : Rat) ≤ (90 : Rat) * N 5 (mat m) 3
            grind
          · show (most : Rat) ≤ (45/8 : Rat) * N 5 (mat m) 4
            grind
          · omega
      · exact way_box D F.pos F.low (u := [(2025/8 : Rat), (10125/28 : Rat), (45/2 : Rat), (45 : Rat), (45/8 : Rat)]) (b := [42, 40, 13, 14, 5]) (by decide +kernel) fun j hj => by
          rcases j with _ | _ | _ | _ | _ | j
          · show (most : Rat) ≤ (2025/8 : Rat) * N 5 (mat m) 0
            grind
          · show (most : Rat) ≤ (10125/28 : Rat) * N 5 (mat m) 1
            grind
          · show (most : Rat) ≤ (45/2 : Rat) * N 5 (mat m) 2
            grind
          · show (most : Rat) ≤ (45 : Rat) * N 5 (mat m) 3
            grind
          · show (most : Rat) ≤ (45/8 : Rat) * N 5 (mat m) 4
            grind
          · omega
      · exact way_box D F.pos F.low (u := [(2025/8 : Rat), (10125/28 : Rat), (2025/4 : Rat), (45/2 : Rat), (45/8 : Rat)]) (b := [52, 46, 46, 10, 5]) (by decide +kernel) fun j hj => by
          rcases j with _ | _ | _ | _ | _ | j
          · show (most : Rat) ≤ (2025/8 : Rat) * N 5 (mat m) 0
            grind
          · show (most : Rat) ≤ (10125/28 : Rat) * N 5 (mat m) 1
            grind
          · show (most : Rat) ≤ (2025/4 : Rat) * N 5 (mat m) 2
            grind
          · show (most : Rat) ≤ (45/2 : Rat) * N 5 (mat m) 3
            grind
          · show (most : Rat) ≤ (45/8 : Rat) * N 5 (mat m) 4
            grind
          · omega

end
end Gst

/-! The nearest point of a grid: what is found is what is due. -/
namespace Gst
open Si18 (Row Rows)
/-! ### points of a grid -/
def csum (v : Row) (c : List Int) (m : Rows) : Int := ((List.zipWith Si18.times c m).map (Si18.dot v)).sum
theorem csum_add {v : Row} : ∀ {c d : List Int} {m : Rows}, c.length = d.length → (∀ y, y ∈ m → v.length = y.length) → csum v (List.zipWith (fun (a b : Int) => a + b) c d) m = csum v c m + csum v d m
  | [], [], m, _, _ => by simp [csum]
  | [], _ :: _, _, h, _ => by cases h
  | _ :: _, [], _, h, _ => by cases h
  | a :: c, b :: d, [], _, _ => by simp [csum]
  | a :: c, b :: d, x :: m, h, hw => by
    have ih := csum_add (v := v) (c := c) (d := d) (m := m) (by simpa using h) fun y hy => hw y (by simp [hy])
    have w := hw x (by simp)
    unfold csum at ih ⊢
    rw [List.zipWith_cons_cons, List.zipWith_cons_cons, List.zipWith_cons_cons, List.zipWith_cons_cons, List.map_cons, List.map_cons, List.map_cons, List.sum_cons, List.sum_cons, List.sum_cons, ih, dot_times w, dot_times w, dot_times w]
    grind
theorem csum_mul {v : Row} {t : Int} : ∀ {c : List Int} {m : Rows}, (∀ y, y ∈ m → v.length = y.length) → csum v (c.map fun z => t * z) m = t * csum v c m
  | [], m, _ => by simp [csum]
  | a :: c, [], _ => by simp [csum]
  | a :: c, x :: m, hw => by
    have ih := csum_mul (v := v) (t := t) (c := c) (m := m) fun y hy => hw y (by simp [hy])
    have w := hw x (by simp)
    unfold csum at ih ⊢
    rw [List.map_cons, List.zipWith_cons_cons, List.zipWith_cons_cons, List.map_cons, List.map_cons, List.sum_cons, List.sum_cons, ih, dot_times w, dot_times w]
    grind
theorem dot_combo {n : Nat} {m : Rows} (S : Sqr n m) {v : Row} (hv : v.length = n) (c : List Int) : Si18.dot v (Si18.combo n c m) = csum v c m := by
  unfold Si18.combo csum
  rw [dot_fold (by rw [hv]; exact (List.length_replicate ..).symm) (fun y hy => by
    obtain ⟨z, x, hx, rfl⟩ := zip_times_mem hy
    rw [times_len, hv, S.wide x hx]), dot_zero_r]
  omega
/-- x is a point of the rows' grid -/
def Grid (n : Nat) (m : Rows) (x : Row) : Prop := ∃ c : List Int, c.length = n ∧ x = Si18.combo n c m
section
variable {n : Nat} {m : Rows}
theorem Grid.len (S : Sqr n m) {x : Row} (g : Grid n m x) : x.length = n := by
  obtain ⟨c, _, rfl⟩ := g
  exact combo_len S c
theorem Grid.plus (S : Sqr n m) {x y : Row} (g : Grid n m x) (h : Grid n m y) : Grid n m (Si18.plus x y) := by
  obtain ⟨c, hc, rfl⟩ := g
  obtain ⟨d, hd, rfl⟩ := h
  refine ⟨List.zipWith (fun (a b : Int) => a + b) c d, by rw [List.length_zipWith]; omega, ?_⟩
  have w : ∀ v : Row, v.length = n → ∀ y, y ∈ m → v.length = y.length := fun v hv y hy => by rw [hv, S.wide y hy]
  refine row_ext (by rw [plus_len, combo_len S, combo_len S]; omega) (combo_len S _) fun v hv => ?_
  rw [dot_plus (by rw [hv, combo_len S]) (by rw [combo_len S, combo_len S]), dot_combo S hv, dot_combo S hv, dot_combo S hv, csum_add (hc.trans hd.symm) (w v hv)]
theorem Grid.times (S : Sqr n m) {x : Row} (g : Grid n m x) (t : Int) : Grid n m (Si18.times t x) := by
  obtain ⟨c, hc, rfl⟩ := g
  refine ⟨c.map fun z => t * z, by rw [List.length_map, hc], ?_⟩
  refine row_ext (by rw [times_len, combo_len S]) (combo_len S _) fun v hv => ?_
  rw [dot_times (by rw [hv, combo_len S]), dot_combo S hv, dot_combo S hv, csum_mul fun y hy => by rw [hv, S.wide y hy]]
theorem Grid.minus (S : Sqr n m) {x y : Row} (g : Grid n m x) (h : Grid n m y) : Grid n m (Si18.minus x y) := g.plus S (h.times S (-1))
theorem Grid.row (S : Sqr n m) {k : Nat} (hk : k < n) : Grid n m (Si18.row m k) := by
  refine ⟨unit_ n k 1, by unfold unit_; simp, ?_⟩
  rw [combo_unit S hk]
  unfold Si18.times
  simp
theorem Grid.zero (S : Sqr n m) (h : 1 ≤ n) : Grid n m (Si18.zeros n) := by
  have g := (Grid.row S (k := 0) (by omega)).times S 0
  have e : Si18.times 0 (Si18.row m 0) = Si18.zeros n := by
    refine row_ext (by rw [times_len, S.row (by omega)]) (List.length_replicate ..) fun v hv => ?_
    rw [dot_times (by rw [hv, S.row (by omega)]), dot_zero_r]
    omega
  rw [← e]
  exact g
/-- the points of a search -/
def found (n : Nat) (m : Rows) (place : Row) (most : Int) : List Row := (grows [Si18.zeros n] m (bnds n m place most)).filter fun x => decide (Si18.square (Si18.minus x place) ≤ most)
theorem inB_len : ∀ {l : List (Int × Int)} {c : List Int}, InB l c → c.length = l.length
  | [], [], _ => rfl
  | [], _ :: _, h => h.elim
  | _ :: _, [], h => h.elim
  | _ :: l, _ :: c, h => by rw [List.length_cons, List.length_cons, inB_len h.2.2]
theorem found_iff (S : Sqr n m) (hd : Si18.det n m ≠ 0) {place : Row} (hp : place.length = n) {most : Int} (F : Few n m most) {x : Row} : x ∈ found n m place most ↔ Grid n m x ∧ Si18.square (Si18.minus x place) ≤ most := by
  constructor
  · intro h
    obtain ⟨h1, h2⟩ := List.mem_filter.mp h
    refine ⟨?_, of_decide_eq_true h2⟩
    rw [grows_combo S] at h1
    obtain ⟨c, hc, rfl⟩ := List.mem_map.mp h1
    refine ⟨c, ?_, rfl⟩
    have := inB_len (mem_tup.mp hc)
    unfold bnds at this
    rw [List.length_map, List.length_range] at this
    exact this
  · rintro ⟨⟨c, hc, rfl⟩, h⟩
    exact complete S hd hp F hc h
end
/-! ### squares of differences -/
theorem dot_comm' {x y : Row} (h : x.length = y.length) : Si18.dot x y = Si18.dot y x := by
  have a := dot_cast (n := x.length) (x := x) (y := y) rfl h.symm
  have b := dot_cast (n := x.length) (x := y) (y := x) h.symm rfl
  rw [ip_comm] at a
  exact Rat.intCast_inj.mp (a.trans b.symm)
theorem square_pt {x y : Row} (h : x.length = y.length) (t : Int) : Si18.square (Si18.plus x (Si18.times t y)) = Si18.square x + 2 * t * Si18.dot x y + t * t * Si18.square y := by
  have l : (Si18.times t y).length = y.length := times_len
  have lp : (Si18.plus x (Si18.times t y)).length = x.length := by rw [plus_len, l]; omega
  show Si18.dot (Si18.plus x (Si18.times t y)) (Si18.plus x (Si18.times t y)) = _
  rw [dot_plus (by rw [lp]) (by rw [l, h]), dot_times (by rw [lp, h]), dot_comm' lp, dot_comm' (x := Si18.plus x (Si18.times t y)) (y := y) (by rw [lp, h]), dot_plus rfl (by rw [l, h]), dot_times h, dot_plus h.symm (by rw [l, h]), dot_times rfl, dot_comm' h.symm]
  show _ = Si18.dot x x + 2 * t * Si18.dot x y + t * t * Si18.dot y y
  grind
theorem square_minus {x y : Row} (h : x.length = y.length) : Si18.square (Si18.minus x y) = Si18.square x - 2 * Si18.dot x y + Si18.square y := by
  unfold Si18.minus
  rw [square_pt h]
  grind
/-- two that are near a place are near each other -/
theorem square_four {n : Nat} {x p t : Row} (hx : x.length = n) (hp : p.length = n) (ht : t.length = n) : Si18.square (Si18.minus x p) ≤ 2 * Si18.square (Si18.minus x t) + 2 * Si18.square (Si18.minus p t) := by
  have xp := hx.trans hp.symm
  have xt := hx.trans ht.symm
  have pt := hp.trans ht.symm
  have l : (Si18.plus x (Si18.times 1 p)).length = n := by rw [plus_len, times_len]; omega
  have z := square_nonneg (Si18.plus (Si18.plus x (Si18.times 1 p)) (Si18.times (-2) t))
  rw [square_pt (l.trans ht.symm), square_pt xp, dot_comm' (l.trans ht.symm), dot_plus (ht.trans hx.symm) (by rw [times_len]; omega), dot_times (ht.trans hp.symm), dot_comm' (ht.trans hx.symm), dot_comm' (ht.trans hp.symm)] at z
  rw [square_minus xp, square_minus xt, square_minus pt]
  omega
/-! ### the plane's point -/
section
variable {n : Nat} {be : Rat} {m : Rows}
theorem rest_step (m : Rows) (i : Nat) (t : Row) : Si18.rest m (i + 1) t = Si18.rest m i (Si18.plus t (Si18.times (-(Si18.nearest (Si18.lead m t i) (Si18.vol m (i + 1)))) (Si18.row m i))) := rfl
theorem rest_grid (S : Sqr n m) (n1 : 1 ≤ n) : ∀ {i : Nat} {t : Row}, i ≤ n → t.length = n → ∃ g, Grid n m g ∧ Si18.rest m i t = Si18.minus t g
  | 0, t, _, ht => ⟨Si18.zeros n, Grid.zero S n1, (minus_zeros ht).symm⟩
  | i + 1, t, hi, ht => by
    have r := S.row (k := i) (by omega)
    rw [rest_step]
    generalize Si18.nearest (Si18.lead m t i) (Si18.vol m (i + 1)) = q
    have tl : (Si18.plus t (Si18.times (-q) (Si18.row m i))).length = n := by rw [plus_len, times_len]; omega
    obtain ⟨g, hg, e⟩ := rest_grid S n1 (i := i) (by omega) tl
    refine ⟨Si18.plus g (Si18.times q (Si18.row m i)), hg.plus S ((Grid.row S (by omega)).times S q), ?_⟩
    rw [e]
    have gl := hg.len S
    have gl2 : (Si18.plus g (Si18.times q (Si18.row m i))).length = n := by rw [plus_len, times_len]; omega
    refine row_ext (by rw [minus_len (tl.trans gl.symm), tl]) (by rw [minus_len (ht.trans gl2.symm), ht]) fun v hv => ?_
    rw [dot_minus (hv.trans tl.symm) (tl.trans gl.symm), dot_minus (hv.trans ht.symm) (ht.trans gl2.symm), dot_plus (hv.trans ht.symm) (by rw [times_len]; omega), dot_plus (hv.trans gl.symm) (by rw [times_len]; omega), dot_times (hv.trans r.symm), dot_times (hv.trans r.symm)]
    grind
theorem plane_grid (S : Sqr n m) (n1 : 1 ≤ n) {t : Row} (ht : t.length = n) : Grid n m (Si18.plane n m t) ∧ Si18.square (Si18.minus (Si18.plane n m t) t) = Si18.square (Si18.rest m n t) := by
  obtain ⟨g, hg, e⟩ := rest_grid S n1 (Nat.le_refl n) ht
  have gl := hg.len S
  have p : Si18.plane n m t = g := by
    unfold Si18.plane
    rw [e]
    have ml := minus_len (ht.trans gl.symm)
    refine row_ext (by rw [minus_len (by rw [ml]), ht]) gl fun v hv => ?_
    rw [dot_minus (hv.trans ht.symm) (by rw [ml]), dot_minus (hv.trans ht.symm) (ht.trans gl.symm)]
    omega
  rw [p]
  refine ⟨hg, ?_⟩
  rw [e, square_minus (gl.trans ht.symm), square_minus (ht.trans gl.symm), dot_comm' (gl.trans ht.symm)]
  omega
/-- what is left has halves only -/
theorem rest_half (P : Pos n be m) : ∀ {i : Nat} {t : Row}, i ≤ n → t.length = n → (Si18.rest m i t).length = n ∧ (∀ j, i ≤ j → j < n → mu n (mat m) (vec (Si18.rest m i t)) j = mu n (mat m) (vec t) j) ∧ ∀ j, j < i → Half (mu n (mat m) (vec (Si18.rest m i t)) j)
  | 0, t, _, ht => ⟨ht, fun _ _ _ => rfl, fun j hj => by omega⟩
  | i + 1, t, hi, ht => by
    have r := P.sq.row (k := i) (by omega)
    have v := P.vol_pos (j := i + 1) (by omega)
    have q := nearest_le (x := Si18.lead m t i) v
    have e1 := lead_cast P.sq ht (j := i) (by omega)
    have e2 := vol_cast P.sq (j := i + 1) (by omega)
    rw [rest_step]
    generalize Si18.nearest (Si18.lead m t i) (Si18.vol m (i + 1)) = z at *
    have tl : (Si18.plus t (Si18.times (-z) (Si18.row m i))).length = n := by rw [plus_len, times_len]; omega
    obtain ⟨h1, h2, h3⟩ := rest_half P (i := i) (by omega) tl
    have mt : ∀ j, mu n (mat m) (vec (Si18.plus t (Si18.times (-z) (Si18.row m i)))) j = mu n (mat m) (vec t) j - (z : Rat) * mu n (mat m) (mat m i) j := fun j => by
      rw [← mu_lin]
      refine mu_arg fun a _ => ?_
      rw [vec_plus ht r, Rat.intCast_neg]
      show vec t a + -(z : Rat) * vec (Si18.row m i) a = vec t a - (z : Rat) * vec (Si18.row m i) a
      grind
    refine ⟨h1, fun j hj hjn => ?_, fun j hj => ?_⟩
    · rw [h2 j (by omega) hjn, mt, mu_past (by omega)]
      grind
    · by_cases c : j = i
      · subst c
        rw [h2 j (Nat.le_refl _) (by omega), mt, mu_own (Rat.ne_of_gt (P.pos j (by omega)))]
        have k1 := cast_le q.2
        have k2 := cast_le (Int.le_of_lt q.1)
        rw [← mu_eq] at e1
        rw [Rat.intCast_neg, Rat.intCast_mul, Rat.intCast_sub, Rat.intCast_mul, e1, e2] at k1
        rw [Rat.intCast_mul, Rat.intCast_sub, Rat.intCast_mul, e1, e2] at k2
        have pj := prod_pos (f := N n (mat m)) (n := j) fun i hi => P.pos i (by omega)
        have two : ((2 : Int) : Rat) = 2 := rfl
        rw [two] at k1 k2
        have s : prod (j + 1) (N n (mat m)) = prod j (N n (mat m)) * N n (mat m) j := rfl
        rw [s] at k1 k2
        refine half_of pj (P.pos j (by omega)) ?_ ?_
        · grind
        · grind
      · exact h3 j (by omega)
theorem plane_near (D : Redd n be m) (n1 : 1 ≤ n) (n5 : n ≤ 5) (b5 : be ≤ 5000000) {t : Row} (ht : t.length = n) : Si18.square (Si18.rest m n t) ≤ 6250000 := by
  obtain ⟨h1, _, h3⟩ := rest_half D.P (Nat.le_refl n) ht
  have e := square_cast (n := n) h1
  rw [sq_whole (det_ne D.P.sq D.det)] at e
  have d4 : be / 4 * 4 = be := Rat.div_mul_cancel (by decide)
  have s := sum_le_const (m := n) (f := fun j => mu n (mat m) (vec (Si18.rest m n t)) j * mu n (mat m) (vec (Si18.rest m n t)) j * N n (mat m) j) (c := be / 4) fun j hj => by
    have q := half_sq (h3 j hj)
    have lj := D.P.le j hj
    have pj := D.P.pos j hj
    have m := Rat.mul_le_mul_of_nonneg_right q (Rat.le_of_lt pj)
    grind
  have kc : (n : Rat) ≤ 5 := by
    have : ((n : Nat) : Rat) ≤ ((5 : Nat) : Rat) := Rat.natCast_le_natCast.mpr n5
    exact this
  have be0 : 0 ≤ be / 4 := by
    have a := D.P.pos 0 (by omega)
    have b := D.P.le 0 (by omega)
    grind
  have mm := Rat.mul_le_mul_of_nonneg_right kc be0
  have fin : ((Si18.square (Si18.rest m n t) : Int) : Rat) ≤ ((6250000 : Int) : Rat) := by
    rw [e]
    have c : ((6250000 : Int) : Rat) = 6250000 := rfl
    rw [c]
    grind
  exact Rat.intCast_le_intCast.mp fin
/-! ### the point beside -/
def qk (n : Nat) (m : Rows) (t : Row) (k : Nat) : Int := Si18.nearest (Si18.dot (Si18.row (upL n m) k) t) (upW n m)
theorem bes_near (D : Redd n be m) (n1 : 1 ≤ n) (n5 : n ≤ 5) {t : Row} (ht : t.length = n) : Near45 n m ((Si18.square (Si18.minus (Si18.combo n ((List.range n).map (qk n m t)) m) t) : Int) : Rat) := by
  have S := D.P.sq
  have cl := combo_len S ((List.range n).map (qk n m t))
  have ml : (Si18.minus (Si18.combo n ((List.range n).map (qk n m t)) m) t).length = n := (minus_len (cl.trans ht.symm)).trans cl
  rw [square_cast ml]
  refine near_45 D n1 n5 fun k hk => ?_
  have e : ip n (mat (upL n m) k) (vec (Si18.minus (Si18.combo n ((List.range n).map (qk n m t)) m) t)) = ((Si18.dot (Si18.row (upL n m) k) (Si18.minus (Si18.combo n ((List.range n).map (qk n m t)) m) t) : Int) : Rat) := (dot_cast (upL_wide hk) ml).symm
  have u := upL_wide (m := m) hk
  rw [dot_minus (u.trans cl.symm) (cl.trans ht.symm), up_combo S (by rw [List.length_map, List.length_range]) hk, getD_range _ _ hk] at e
  rw [e]
  have q := nearest_le (x := Si18.dot (Si18.row (upL n m) k) t) (upW_pos D.det)
  unfold qk
  generalize Si18.nearest (Si18.dot (Si18.row (upL n m) k) t) (upW n m) * upW n m = z at *
  have a := cast_le (a := -(upW n m)) (b := 2 * (z - Si18.dot (Si18.row (upL n m) k) t)) (by omega)
  have b := cast_le (a := 2 * (z - Si18.dot (Si18.row (upL n m) k) t)) (b := upW n m) (by omega)
  rw [Rat.intCast_neg, Rat.intCast_mul] at a
  rw [Rat.intCast_mul] at b
  exact ⟨a, b⟩
/-- the reach of a search is no great number -/
theorem Near45.most (D : Redd n be m) (b5 : be ≤ 5000000) {most : Int} (h : Near45 n m (most : Rat)) : most ≤ 28125000 := by
  have a := h.all be D.P.le
  have c : (most : Rat) ≤ ((28125000 : Int) : Rat) := by
    have e : ((28125000 : Int) : Rat) = 28125000 := rfl
    rw [e]
    grind
  exact Rat.intCast_le_intCast.mp c
/-! ### the ends of a search -/
theorem line_sq (D : Redd n be m) (n5 : n ≤ 5) {k : Nat} (hk : k < n) : Si18.square (Si18.row (upL n m) k) ≤ 64 * (upW n m * upW n m) := by
  have W := upW_pos D.det
  have two : ∀ j, j < 5 → ([1, 2, 4, 8, 16] : List Rat).getD j 0 = 2 ^ j := fun j hj => by
    rcases j with _ | _ | _ | _ | _ | j
    · decide +kernel
    · decide +kernel
    · decide +kernel
    · decide +kernel
    · decide +kernel
    · omega
  have dd := dual_sq (n := n) (b := mat m) (v := mat (upL n m) k) (W := ((upW n m : Int) : Rat)) (k := k) (det_ne D.P.sq D.det) D.P.pos (Rat.le_of_lt (Rat.intCast_pos.mpr W)) (fun i hi => up_ip D.P.sq hk hi) D.half
    (most := 1) (u := fun j => ([1, 2, 4, 8, 16] : List Rat).getD j 0) (fun j hj => by
      show (1 : Rat) ≤ ([1, 2, 4, 8, 16] : List Rat).getD j 0 * _
      rw [two j (by omega)]
      exact D.low hj) (fun j hj => by
      show (0 : Rat) ≤ ([1, 2, 4, 8, 16] : List Rat).getD j 0
      rw [two j (by omega)]
      exact Rat.pow_nonneg (by decide)) (by decide)
  have sc : ip n (mat (upL n m) k) (mat (upL n m) k) = ((Si18.square (Si18.row (upL n m) k) : Int) : Rat) := (square_cast (upL_wide hk)).symm
  rw [sc] at dd
  have small : (List.range 6).all (fun n => (List.range n).all fun k => decide (vk n (fun j => ([1, 2, 4, 8, 16] : List Rat).getD j 0) k ≤ 64)) = true := by decide +kernel
  have vb : vk n (fun j => ([1, 2, 4, 8, 16] : List Rat).getD j 0) k ≤ 64 := of_decide_eq_true (List.all_eq_true.mp (List.all_eq_true.mp small n (List.mem_range.mpr (by omega))) k (List.mem_range.mpr hk))
  have wp : (0 : Rat) ≤ ((upW n m : Int) : Rat) * ((upW n m : Int) : Rat) := sq_nonneg _
  have r := Rat.mul_le_mul_of_nonneg_left vb wp
  have fin : ((Si18.square (Si18.row (upL n m) k) : Int) : Rat) ≤ ((64 * (upW n m * upW n m) : Int) : Rat) := by
    rw [Rat.intCast_mul, Rat.intCast_mul]
    have e : ((64 : Int) : Rat) = 64 := rfl
    rw [e]
    grind
  exact Rat.intCast_le_intCast.mp fin
theorem ends_near (D : Redd n be m) (n5 : n ≤ 5) {t : Row} (ht : t.length = n) (hs : Si18.square t ≤ 8388608) {most : Int} (F : Few n m most) (hm : most ≤ 268435456) : ∀ k, k < n → -(2 ^ 61) ≤ loB n m t most k ∧ loB n m t most k < 2 ^ 61 ∧ -(2 ^ 61) ≤ hiB n m t most k ∧ hiB n m t most k < 2 ^ 61 := by
  intro k hk
  have W := upW_pos D.det
  have ls := line_sq D n5 hk
  have ff := far_sq (F.low k hk) (Int.mul_nonneg F.pos (square_nonneg _))
  have fn : 0 ≤ far n m most k := Int.natCast_nonneg _
  have c := cs (x := Si18.row (upL n m) k) (y := t) ((upL_wide hk).trans ht.symm)
  have lp := square_nonneg (Si18.row (upL n m) k)
  have tp := square_nonneg t
  have mp := F.pos
  unfold loB hiB
  generalize far n m most k = f at *
  generalize Si18.dot (Si18.row (upL n m) k) t = d at *
  generalize Si18.square (Si18.row (upL n m) k) = l at *
  generalize upW n m = w at *
  have ww : 0 ≤ w * w := Int.mul_nonneg (by omega) (by omega)
  have a1 : l * Si18.square t ≤ (64 * (w * w)) * 8388608 := Int.mul_le_mul ls hs tp (by omega)
  have a2 : most * l ≤ 268435456 * (64 * (w * w)) := Int.mul_le_mul hm ls lp (by decide)
  have b1 : d ≤ 131072 * w := le_of_sq (by omega) (by
    have e : 131072 * w * (131072 * w) = 17179869184 * (w * w) := by grind
    omega)
  have b2 : -d ≤ 131072 * w := le_of_sq (by omega) (by
    have e : 131072 * w * (131072 * w) = 17179869184 * (w * w) := by grind
    have e2 : (-d) * (-d) = d * d := by grind
    omega)
  have b3 : f ≤ 131072 * w := le_of_sq (by omega) (by
    have e : 131072 * w * (131072 * w) = 17179869184 * (w * w) := by grind
    omega)
  have u1 : (f - d) / w ≤ 262144 := Int.ediv_le_of_le_mul W (by omega)
  have u2 : (d + f) / w ≤ 262144 := Int.ediv_le_of_le_mul W (by omega)
  have v1 : -131072 ≤ (f - d) / w := Int.le_ediv_of_mul_le W (by omega)
  have v2 : -131072 ≤ (d + f) / w := Int.le_ediv_of_mul_le W (by omega)
  omega
/-! ### the law -/
theorem fold_min (f : Row → Int) : ∀ (l : List Row) (m : Int), (l.foldl (fun (m : Int) x => min m (f x)) m ≤ m) ∧ (∀ x ∈ l, l.foldl (fun (m : Int) x => min m (f x)) m ≤ f x) ∧
    (l.foldl (fun (m : Int) x => min m (f x)) m = m ∨ ∃ x ∈ l, l.foldl (fun (m : Int) x => min m (f x)) m = f x)
  | [], m => ⟨by simp, fun x hx => by simp at hx, .inl rfl⟩
  | a :: l, m => by
    rw [List.foldl_cons]
    obtain ⟨k1, k2, k3⟩ := fold_min f l (min m (f a))
    refine ⟨by omega, fun x hx => ?_, ?_⟩
    · rcases List.mem_cons.mp hx with rfl | hx
      · omega
      · exact k2 x hx
    · rcases k3 with k3 | ⟨x, hx, k3⟩
      · rw [k3]
        by_cases h : m ≤ f a
        · left; omega
        · right; exact ⟨a, by simp, by omega⟩
      · right; exact ⟨x, by simp [hx], k3⟩
theorem near_law (S : Sqr n m) (hd : Si18.det n m ≠ 0) {p t : Row} (gp : Grid n m p) (ht : t.length = n) {most d : Int} (hdist : d = Si18.square (Si18.minus p t)) (F : Few n m most) (F4 : Few n m (4 * d)) {pin : List Row} (hpin : ∀ v, v ∈ pin ↔ v ∈ found n m (Si18.zeros n) (4 * d))
    {x : Row} (hx : x ∈ found n m t most) (hb : ∀ y, y ∈ found n m t most → Si18.less (Si18.square (Si18.minus y t) :: y) (Si18.square (Si18.minus x t) :: x) = false) :
    Si18.firstOf ((pin.map fun v => Si18.plus p v).filter fun z => Si18.square (Si18.minus z t) == (pin.map fun v => Si18.plus p v).foldl (fun (m : Int) z => min m (Si18.square (Si18.minus z t))) d) = x := by
  have pl := gp.len S
  obtain ⟨gx, sx⟩ := (found_iff S hd ht F).mp hx
  have xl := gx.len S
  -- nothing in the grid is ahead of x
  have best : ∀ y, Grid n m y → Si18.less (Si18.square (Si18.minus y t) :: y) (Si18.square (Si18.minus x t) :: x) = false := fun y gy => by
    by_cases c : Si18.square (Si18.minus y t) ≤ most
    · exact hb y ((found_iff S hd ht F).mpr ⟨gy, c⟩)
    · rw [less_cons, decide_eq_false (by omega), show (Si18.square (Si18.minus y t) == Si18.square (Si18.minus x t)) = false by simpa using fun e => by omega]
      rfl
  have le : ∀ y, Grid n m y → Si18.square (Si18.minus x t) ≤ Si18.square (Si18.minus y t) := fun y gy => by
    have := best y gy
    rw [less_cons, Bool.or_eq_false_iff] at this
    have := of_decide_eq_false this.1
    omega
  have zl : (Si18.zeros n).length = n := List.length_replicate ..
  have inP : ∀ y, y ∈ (pin.map fun v => Si18.plus p v) → Grid n m y := fun y hy => by
    obtain ⟨v, hv, rfl⟩ := List.mem_map.mp hy
    exact gp.plus S ((found_iff S hd zl F4).mp ((hpin v).mp hv)).1
  have hx' : x ∈ pin.map fun v => Si18.plus p v := by
    refine List.mem_map.mpr ⟨Si18.minus x p, (hpin _).mpr ((found_iff S hd zl F4).mpr ⟨gx.minus S gp, ?_⟩), ?_⟩
    · have ml : (Si18.minus x p).length = n := (minus_len (xl.trans pl.symm)).trans xl
      rw [minus_zeros ml]
      have := square_four xl pl ht
      have := le p gp
      omega
    · have ml : (Si18.minus x p).length = n := (minus_len (xl.trans pl.symm)).trans xl
      refine row_ext (by rw [plus_len]; omega) xl fun v hv => ?_
      rw [dot_plus (hv.trans pl.symm) (pl.trans ml.symm), dot_minus (hv.trans xl.symm) (xl.trans pl.symm)]
      omega
  obtain ⟨k1, k2, k3⟩ := fold_min (fun z => Si18.square (Si18.minus z t)) (pin.map fun v => Si18.plus p v) d
  have fx : (pin.map fun v => Si18.plus p v).foldl (fun (m : Int) z => min m (Si18.square (Si18.minus z t))) d = Si18.square (Si18.minus x t) := by
    have a := k2 x hx'
    rcases k3 with k3 | ⟨y, hy, k3⟩
    · have := le p gp
      omega
    · have := le y (inP y hy)
      omega
  exact (first_uniq (N := n) (f := fun z => Si18.square (Si18.minus z t)) (fun y hy => (inP y hy).len S) hx' k2 ⟨x, hx', fx⟩ fun y hy => best y (inP y hy)).2
end
end Gst

/-! The greedy choice of rows free of one another: how many there are up to a square hangs on what they are chosen from alone. -/
namespace Gst
open Si18 (Row Rows)
section
variable {n : Nat} {a b b' : Nat → Vec}
/-! ### what comes behind counts for nothing -/
theorem R_pre : ∀ {k : Nat}, (∀ j, j < k → b' j = b j) → ∀ x, R n b' k x = R n b k x
  | 0, _, x => rfl
  | k + 1, h, x => by
    have ih := R_pre (k := k) fun j hj => h j (by omega)
    have e : E n b' k = E n b k := by
      unfold E
      rw [ih, h k (by omega)]
    have hN : N n b' k = N n b k := by
      unfold N
      rw [e]
    have hm : mu n b' x k = mu n b x k := by
      unfold mu
      rw [ih, e, hN]
    rw [R_succ, R_succ, ih, e, hm]
theorem N_pre {k : Nat} (h : ∀ j, j < k + 1 → b' j = b j) : N n b' k = N n b k := by
  unfold N E
  rw [R_pre (k := k) fun j hj => h j (by omega), h k (by omega)]
/-! ### how many -/
def Ind (n p : Nat) (b : Nat → Vec) : Prop := ∀ j, j < p → 0 < N n b j
def unitV (i : Nat) : Vec := fun j => if j = i then 1 else 0
theorem ip_unit {i : Nat} (hi : i < n) (y : Vec) : ip n (unitV i) y = y i := by
  have := sum_one (f := fun k => unitV i k * y k) (c := i) hi fun k _ hne => by
    show unitV i k * y k = 0
    unfold unitV
    rw [if_neg hne]
    grind
  refine Eq.trans this ?_
  show unitV i i * y i = y i
  unfold unitV
  rw [if_pos rfl]
  grind
theorem sum_const_one : ∀ p : Nat, sum p (fun _ => 1) = (p : Rat)
  | 0 => rfl
  | p + 1 => by
    show sum p (fun _ => 1) + 1 = _
    rw [sum_const_one p, Rat.natCast_add]
    rfl
theorem trace {p : Nat} (h : Ind n p b) : (sum n fun i => sum p fun j => mu n b (unitV i) j * mu n b (unitV i) j * N n b j) = (p : Rat) := by
  rw [sum_comm, ← sum_const_one p]
  refine sum_congr fun j hj => ?_
  have hN := h j hj
  have ne := Rat.ne_of_gt hN
  have e : (sum n fun i => mu n b (unitV i) j * mu n b (unitV i) j * N n b j) * N n b j = N n b j := by
    rw [Rat.mul_comm, ← sum_mul]
    show _ = ip n (E n b j) (E n b j)
    refine sum_congr fun i hi => ?_
    have m := mu_eq (n := n) (b := b) (unitV i) j
    rw [ip_unit hi] at m
    rw [← m]
    grind
  have := congrArg (fun z => z / N n b j) e
  simp only [Rat.mul_div_cancel ne] at this
  rw [this, Rat.div_def, Rat.mul_inv_cancel _ ne]
/-- what is left by a is left by b, where b leaves nothing of a's rows -/
theorem absorb {q : Nat} : ∀ {k : Nat}, (∀ j, j < k → ∀ i, i < n → R n b q (a j) i = 0) → ∀ x i, i < n → R n b q (R n a k x) i = R n b q x i
  | 0, _, x, i, _ => rfl
  | k + 1, h, x, i, hi => by
    have ih := absorb (k := k) fun j hj => h j (by omega)
    rw [R_succ, R_sub]
    have z : R n b q (E n a k) i = 0 := (ih (a k) i hi).trans (h k (by omega) i hi)
    show R n b q (R n a k x) i - mu n a x k * R n b q (E n a k) i = _
    rw [z, ih x i hi]
    grind
theorem count_le {p q : Nat} (ha : Ind n p a) (hb : Ind n q b) (h : ∀ j, j < p → ∀ i, i < n → R n b q (a j) i = 0) : p ≤ q := by
  have ta := trace ha
  have tb := trace hb
  have le : (sum n fun i => sum p fun j => mu n a (unitV i) j * mu n a (unitV i) j * N n a j) ≤ sum n fun i => sum q fun j => mu n b (unitV i) j * mu n b (unitV i) j * N n b j := sum_le fun i hi => by
    have sa := R_sq_all (n := n) (b := a) (unitV i) p
    have sb := R_sq_all (n := n) (b := b) (unitV i) q
    have ab := absorb (a := a) (b := b) (q := q) (k := p) h (unitV i)
    have e : ip n (R n b q (R n a p (unitV i))) (R n b q (R n a p (unitV i))) = ip n (R n b q (unitV i)) (R n b q (unitV i)) := ip_congr (fun k hk => ab k hk) fun k hk => ab k hk
    have l := R_sq_le (n := n) (b := b) (R n a p (unitV i)) q
    rw [e] at l
    grind
  rw [ta, tb] at le
  exact Rat.natCast_le_natCast.mp le
theorem count_n {p : Nat} (ha : Ind n p a) : p ≤ n := by
  have ta := trace ha
  have le : (sum n fun i => sum p fun j => mu n a (unitV i) j * mu n a (unitV i) j * N n a j) ≤ sum n fun _ => 1 := sum_le fun i hi => by
    have sa := R_sq_all (n := n) (b := a) (unitV i) p
    have r := ip_self n (R n a p (unitV i))
    have e : ip n (unitV i) (unitV i) = 1 := by
      rw [ip_unit hi]
      exact if_pos rfl
    grind
  rw [ta, sum_const_one] at le
  exact Rat.natCast_le_natCast.mp le
end
/-! ### rows -/
def gramI (m : Rows) : Rows := m.map fun a => m.map fun c => Si18.dot a c
theorem row_snoc_lt {st : Rows} {x : Row} {j : Nat} (h : j < st.length) : Si18.row (st ++ [x]) j = Si18.row st j := by
  unfold Si18.row
  rw [List.getD_eq_getElem?_getD, List.getD_eq_getElem?_getD, List.getElem?_append_left h]
theorem row_snoc_eq {st : Rows} {x : Row} : Si18.row (st ++ [x]) st.length = x := by
  unfold Si18.row
  rw [List.getD_eq_getElem?_getD, List.getElem?_append_right (Nat.le_refl _), Nat.sub_self]
  rfl
theorem mat_snoc {st : Rows} {x : Row} : ∀ j, j < st.length → mat (st ++ [x]) j = mat st j := fun j hj => by
  unfold mat
  rw [row_snoc_lt hj]
theorem gram_cast {n : Nat} {l : Rows} (hw : ∀ x, x ∈ l → x.length = n) : ((Si18.det l.length (gramI l) : Int) : Rat) = det l.length fun a c => ip n (mat l a) (mat l c) := by
  rw [det_cast (by unfold gramI; rw [List.length_map])]
  refine det_congr fun i j hi hj => ?_
  have ri : Si18.row l i ∈ l := row_mem hi
  have rj : Si18.row l j ∈ l := row_mem hj
  have e1 : Si18.row (gramI l) i = l.map fun c => Si18.dot (Si18.row l i) c := by
    unfold gramI Si18.row
    rw [List.getD_eq_getElem?_getD, List.getElem?_map, List.getElem?_eq_getElem hi, List.getD_eq_getElem?_getD, List.getElem?_eq_getElem hi]
    rfl
  show vec (Si18.row (gramI l) i) j = _
  rw [e1]
  have e2 : vec (l.map fun c => Si18.dot (Si18.row l i) c) j = ((Si18.dot (Si18.row l i) (Si18.row l j) : Int) : Rat) := by
    unfold vec
    rw [List.getD_eq_getElem?_getD, List.getElem?_map, List.getElem?_eq_getElem hj]
    have : Si18.row l j = l[j] := by
      unfold Si18.row
      rw [List.getD_eq_getElem?_getD, List.getElem?_eq_getElem hj]
      rfl
    rw [this]
    rfl
  rw [e2]
  exact dot_cast (hw _ ri) (hw _ rj)
/-- free: something is left -/
theorem free_iff {n : Nat} {st : Rows} {x : Row} (hw : ∀ y, y ∈ st → y.length = n) (hx : x.length = n) (h : Ind n st.length (mat st)) : Si18.freeOf st x = true ↔ 0 < ip n (R n (mat st) st.length (vec x)) (R n (mat st) st.length (vec x)) := by
  have ww : ∀ y, y ∈ st ++ [x] → y.length = n := fun y hy => by
    rcases List.mem_append.mp hy with hy | hy
    · exact hw y hy
    · rw [List.mem_singleton.mp hy]
      exact hx
  have g := gram_cast ww
  have ll : (st ++ [x]).length = st.length + 1 := by rw [List.length_append]; rfl
  have v : det (st ++ [x]).length (fun a c => ip n (mat (st ++ [x]) a) (mat (st ++ [x]) c)) = prod (st.length + 1) (N n (mat (st ++ [x]))) := by
    rw [ll]
    exact det_vol st.length
  rw [v] at g
  have s : prod (st.length + 1) (N n (mat (st ++ [x]))) = prod st.length (N n (mat st)) * ip n (R n (mat st) st.length (vec x)) (R n (mat st) st.length (vec x)) := by
    show prod st.length (N n (mat (st ++ [x]))) * N n (mat (st ++ [x])) st.length = _
    have e1 : prod st.length (N n (mat (st ++ [x]))) = prod st.length (N n (mat st)) := prod_congr fun j hj => N_pre fun i hi => mat_snoc i (by omega)
    have e2 : N n (mat (st ++ [x])) st.length = ip n (R n (mat st) st.length (vec x)) (R n (mat st) st.length (vec x)) := by
      have m : mat (st ++ [x]) st.length = vec x := by
        unfold mat
        rw [row_snoc_eq]
      unfold N E
      rw [m, R_pre (k := st.length) mat_snoc]
    rw [e1, e2]
  rw [s] at g
  have pp := prod_pos (f := N n (mat st)) (n := st.length) h
  have nn := ip_self n (R n (mat st) st.length (vec x))
  have f : Si18.freeOf st x = (Si18.det (st ++ [x]).length (gramI (st ++ [x])) != 0) := rfl
  rw [f, bne_iff_ne]
  constructor
  · intro hne
    rcases Rat.le_iff_lt_or_eq.mp nn with z | z
    · exact z
    · exfalso
      apply hne
      rw [← z, Rat.mul_zero] at g
      have : ((Si18.det (st ++ [x]).length (gramI (st ++ [x])) : Int) : Rat) = ((0 : Int) : Rat) := g
      exact Rat.intCast_inj.mp this
  · intro hp z
    rw [z] at g
    have : (0 : Rat) = _ := g
    have := Rat.mul_pos pp hp
    grind
end Gst

/-! The greedy choice, walked. -/
namespace Gst
open Si18 (Row Rows)
def pickG (n : Nat) (st : Rows) (x : Row) : Rows := if (decide (st.length < n) && Si18.freeOf st x) = true then st ++ [x] else st
def greedy (n : Nat) (l : List Row) : Rows := l.foldl (pickG n) []
/-- nothing is left of x -/
def Gone (n : Nat) (st : Rows) (x : Row) : Prop := ∀ i, i < n → R n (mat st) st.length (vec x) i = 0
/-- what is known of rows chosen -/
structure Chosen (n : Nat) (st : Rows) : Prop where
  wide : ∀ y, y ∈ st → y.length = n
  ind : Ind n st.length (mat st)
section
variable {n : Nat}
theorem Chosen.snoc {st : Rows} {x : Row} (C : Chosen n st) (hx : x.length = n) (h : 0 < ip n (R n (mat st) st.length (vec x)) (R n (mat st) st.length (vec x))) : Chosen n (st ++ [x]) := by
  refine ⟨fun y hy => ?_, fun j hj => ?_⟩
  · rcases List.mem_append.mp hy with hy | hy
    · exact C.wide y hy
    · rw [List.mem_singleton.mp hy]
      exact hx
  · have hj : j < st.length + 1 := by
      rw [List.length_append] at hj
      exact hj
    by_cases c : j < st.length
    · rw [N_pre fun i hi => mat_snoc i (by omega)]
      exact C.ind j c
    · have e : j = st.length := by omega
      subst e
      have m : mat (st ++ [x]) st.length = vec x := by
        unfold mat
        rw [row_snoc_eq]
      have e2 : N n (mat (st ++ [x])) st.length = ip n (R n (mat st) st.length (vec x)) (R n (mat st) st.length (vec x)) := by
        unfold N E
        rw [m, R_pre (k := st.length) mat_snoc]
      rw [e2]
      exact h
theorem Gone.snoc {st : Rows} {x y : Row} (h : Gone n st y) : Gone n (st ++ [x]) y := by
  intro i hi
  have ll : (st ++ [x]).length = st.length + 1 := by rw [List.length_append]; rfl
  rw [ll, R_succ, R_pre (k := st.length) mat_snoc]
  have m : mu n (mat (st ++ [x])) (vec y) st.length = 0 := by
    unfold mu
    rw [R_pre (k := st.length) mat_snoc, ip_zero_l (fun k hk => h k hk), Rat.div_def, Rat.zero_mul]
  show R n (mat st) st.length (vec y) i - mu n (mat (st ++ [x])) (vec y) st.length * E n (mat (st ++ [x])) st.length i = 0
  rw [m, h i hi]
  grind
theorem Gone.own {st : Rows} {x : Row} : Gone n (st ++ [x]) x := by
  intro i hi
  have ll : (st ++ [x]).length = st.length + 1 := by rw [List.length_append]; rfl
  have m : mat (st ++ [x]) st.length = vec x := by
    unfold mat
    rw [row_snoc_eq]
  rw [ll, ← m]
  exact R_own i hi
/-- one step: either nothing is left of x, or it's chosen -/
theorem pick_step {st : Rows} {x : Row} (C : Chosen n st) (hx : x.length = n) : Chosen n (pickG n st x) ∧ Gone n (pickG n st x) x ∧ ∀ y, Gone n st y → Gone n (pickG n st x) y := by
  have fi := free_iff C.wide hx C.ind
  unfold pickG
  by_cases c : (decide (st.length < n) && Si18.freeOf st x) = true
  · rw [if_pos c]
    rw [Bool.and_eq_true] at c
    exact ⟨C.snoc hx (fi.mp c.2), Gone.own, fun y hy => hy.snoc⟩
  · rw [if_neg c]
    refine ⟨C, ?_, fun y hy => hy⟩
    -- nothing is left
    have nn := ip_self n (R n (mat st) st.length (vec x))
    refine ip_zero ?_
    rcases Rat.le_iff_lt_or_eq.mp nn with z | z
    · exfalso
      have f := fi.mpr z
      rw [f, Bool.and_true] at c
      have ge : ¬ st.length < n := fun k => c (decide_eq_true k)
      have K := (C.snoc hx z).ind
      have b := count_n K
      have ll : (st ++ [x]).length = st.length + 1 := by rw [List.length_append]; rfl
      omega
    · exact z.symm
theorem fold_step : ∀ {l : List Row} {st : Rows}, Chosen n st → (∀ x, x ∈ l → x.length = n) → Chosen n (l.foldl (pickG n) st) ∧ (∀ x, x ∈ l → Gone n (l.foldl (pickG n) st) x) ∧ ∀ y, Gone n st y → Gone n (l.foldl (pickG n) st) y
  | [], st, C, _ => ⟨C, (fun x hx => by cases hx), fun y hy => hy⟩
  | a :: l, st, C, hl => by
    rw [List.foldl_cons]
    obtain ⟨s1, s2, s3⟩ := pick_step C (hl a (by simp))
    obtain ⟨f1, f2, f3⟩ := fold_step (l := l) s1 fun x hx => hl x (by simp [hx])
    refine ⟨f1, fun x hx => ?_, fun y hy => f3 y (s3 y hy)⟩
    rcases List.mem_cons.mp hx with rfl | hx
    · exact f3 _ s2
    · exact f2 x hx
theorem greedy_all {l : List Row} (hl : ∀ x, x ∈ l → x.length = n) : Chosen n (greedy n l) ∧ ∀ x, x ∈ l → Gone n (greedy n l) x := by
  have C0 : Chosen n [] := ⟨(fun y hy => by cases hy), fun j hj => absurd hj (Nat.not_lt_zero j)⟩
  obtain ⟨f1, f2, _⟩ := fold_step (l := l) C0 hl
  exact ⟨f1, f2⟩
/-! ### what is chosen stands in the list, in its order -/
theorem fold_sub : ∀ (l : List Row) (st : Rows), ∃ t, l.foldl (pickG n) st = st ++ t ∧ List.Sublist t l
  | [], st => ⟨[], by simp, List.Sublist.refl _⟩
  | a :: l, st => by
    rw [List.foldl_cons]
    unfold pickG
    split
    · obtain ⟨t, e, s⟩ := fold_sub l (st ++ [a])
      refine ⟨a :: t, ?_, s.cons_cons a⟩
      show l.foldl (pickG n) (st ++ [a]) = _
      rw [e]
      simp
    · obtain ⟨t, e, s⟩ := fold_sub l st
      exact ⟨t, e, s.cons a⟩
theorem greedy_sub (l : List Row) : List.Sublist (greedy n l) l := by
  obtain ⟨t, e, s⟩ := fold_sub (n := n) l []
  unfold greedy
  rw [e]
  simpa using s
/-- sorted: the low ones stand ahead -/
theorem split_low (s : Int) : ∀ {l : List Row}, l.Pairwise (fun x y => Si18.square x ≤ Si18.square y) → l = l.filter (fun x => decide (Si18.square x ≤ s)) ++ l.filter (fun x => !decide (Si18.square x ≤ s))
  | [], _ => rfl
  | a :: l, h => by
    obtain ⟨h1, h2⟩ := List.pairwise_cons.mp h
    have ih := split_low s h2
    by_cases c : Si18.square a ≤ s
    · rw [List.filter_cons_of_pos (by simpa using c), List.filter_cons_of_neg (by simpa using c), List.cons_append, ← ih]
    · have none_ : l.filter (fun x => decide (Si18.square x ≤ s)) = [] := List.filter_eq_nil_iff.mpr fun x hx => by
        have := h1 x hx
        simpa using (by omega : ¬ Si18.square x ≤ s)
      rw [none_] at ih
      rw [List.filter_cons_of_neg (by simpa using c), none_, List.filter_cons_of_pos (by simpa using c), List.nil_append, ← List.nil_append (l.filter _), ← ih]
theorem greedy_low (s : Int) {l : List Row} (h : l.Pairwise fun x y => Si18.square x ≤ Si18.square y) : (greedy n l).filter (fun x => decide (Si18.square x ≤ s)) = greedy n (l.filter fun x => decide (Si18.square x ≤ s)) := by
  have e := split_low s h
  have g : greedy n l = (l.filter fun x => !decide (Si18.square x ≤ s)).foldl (pickG n) (greedy n (l.filter fun x => decide (Si18.square x ≤ s))) := by
    unfold greedy
    rw [← List.foldl_append, ← e]
  obtain ⟨t, et, st⟩ := fold_sub (n := n) (l.filter fun x => !decide (Si18.square x ≤ s)) (greedy n (l.filter fun x => decide (Si18.square x ≤ s)))
  rw [g, et, List.filter_append]
  have h1 : (greedy n (l.filter fun x => decide (Si18.square x ≤ s))).filter (fun x => decide (Si18.square x ≤ s)) = greedy n (l.filter fun x => decide (Si18.square x ≤ s)) := List.filter_eq_self.mpr fun x hx => (List.mem_filter.mp ((greedy_sub _).subset hx)).2
  have h2 : t.filter (fun x => decide (Si18.square x ≤ s)) = [] := List.filter_eq_nil_iff.mpr fun x hx => by
    have := (List.mem_filter.mp (st.subset hx)).2
    simpa using this
  rw [h1, h2, List.append_nil]
/-! ### two choices -/
theorem gone_neg {st : Rows} {x : Row} (h : Gone n st (Si18.times (-1) x)) : Gone n st x := by
  intro i hi
  have e : R n (mat st) st.length (vec (Si18.times (-1) x)) = fun j => (-1 : Rat) * R n (mat st) st.length (vec x) j + R n (mat st) st.length (fun _ => 0) j := by
    rw [← R_lin]
    congr 1
    funext j
    unfold vec Si18.times
    rw [List.getD_eq_getElem?_getD, List.getD_eq_getElem?_getD, List.getElem?_map]
    cases x[j]? with
    | none =>
      show ((0 : Int) : Rat) = -1 * ((0 : Int) : Rat) + 0
      have z : ((0 : Int) : Rat) = 0 := rfl
      rw [z]
      grind
    | some z =>
      show ((-1 * z : Int) : Rat) = -1 * (z : Rat) + 0
      rw [Rat.intCast_mul]
      have m : ((-1 : Int) : Rat) = -1 := rfl
      rw [m]
      grind
  have q := h i hi
  rw [e, R_zero] at q
  have q : (-1 : Rat) * R n (mat st) st.length (vec x) i + 0 = 0 := q
  grind
theorem low_le {s : Int} {l1 l2 : List Row} (w1 : ∀ x, x ∈ l1 → x.length = n) (w2 : ∀ x, x ∈ l2 → x.length = n) (h : ∀ x, x ∈ l1 → x ∈ l2 ∨ Si18.times (-1) x ∈ l2) :
    (greedy n (l1.filter fun x => decide (Si18.square x ≤ s))).length ≤ (greedy n (l2.filter fun x => decide (Si18.square x ≤ s))).length := by
  obtain ⟨c1, _⟩ := greedy_all (n := n) (l := l1.filter fun x => decide (Si18.square x ≤ s)) fun x hx => w1 x (List.mem_filter.mp hx).1
  obtain ⟨c2, g2⟩ := greedy_all (n := n) (l := l2.filter fun x => decide (Si18.square x ≤ s)) fun x hx => w2 x (List.mem_filter.mp hx).1
  refine count_le c1.ind c2.ind fun j hj => ?_
  have rm : Si18.row (greedy n (l1.filter fun x => decide (Si18.square x ≤ s))) j ∈ greedy n (l1.filter fun x => decide (Si18.square x ≤ s)) := row_mem hj
  obtain ⟨m1, m2⟩ := List.mem_filter.mp ((greedy_sub _).subset rm)
  show Gone n _ (Si18.row (greedy n (l1.filter fun x => decide (Si18.square x ≤ s))) j)
  rcases h _ m1 with z | z
  · exact g2 _ (List.mem_filter.mpr ⟨z, m2⟩)
  · refine gone_neg (g2 _ (List.mem_filter.mpr ⟨z, ?_⟩))
    rw [square_times]
    have e : (-1 : Int) * -1 = 1 := by decide
    rw [e, Int.one_mul]
    exact m2
theorem sorted_eq : ∀ {l m : List Int}, l.Pairwise (· ≤ ·) → m.Pairwise (· ≤ ·) → (∀ s : Int, (l.filter fun x => decide (x ≤ s)).length = (m.filter fun x => decide (x ≤ s)).length) → l = m
  | [], [], _, _, _ => rfl
  | [], b :: m, _, _, h => by
    have := h b
    rw [List.filter_cons_of_pos (by simp)] at this
    simp at this
  | a :: l, [], _, _, h => by
    have := h a
    rw [List.filter_cons_of_pos (by simp)] at this
    simp at this
  | a :: l, b :: m, hl, hm, h => by
    obtain ⟨l1, l2⟩ := List.pairwise_cons.mp hl
    obtain ⟨m1, m2⟩ := List.pairwise_cons.mp hm
    have hab : a = b := by
      have ha := h a
      have hb := h b
      rcases Int.lt_trichotomy a b with c | c | c
      · rw [List.filter_cons_of_pos (by simp), List.filter_cons_of_neg (by simpa using c)] at ha
        have : m.filter (fun x => decide (x ≤ a)) = [] := List.filter_eq_nil_iff.mpr fun x hx => by
          have := m1 x hx
          simpa using (by omega : ¬ x ≤ a)
        rw [this] at ha
        simp at ha
      · exact c
      · rw [List.filter_cons_of_neg (by simpa using c), List.filter_cons_of_pos (by simp)] at hb
        have : l.filter (fun x => decide (x ≤ b)) = [] := List.filter_eq_nil_iff.mpr fun x hx => by
          have := l1 x hx
          simpa using (by omega : ¬ x ≤ b)
        rw [this] at hb
        simp at hb
    subst hab
    rw [sorted_eq l2 m2 fun s => ?_]
    have := h s
    by_cases c : a ≤ s
    · rw [List.filter_cons_of_pos (by simpa using c), List.filter_cons_of_pos (by simpa using c)] at this
      simpa using this
    · rw [List.filter_cons_of_neg (by simpa using c), List.filter_cons_of_neg (by simpa using c)] at this
      exact this
/-- **the plain law**: the squares of what is chosen -/
theorem greedy_squares {l1 l2 : List Row} (w1 : ∀ x, x ∈ l1 → x.length = n) (w2 : ∀ x, x ∈ l2 → x.length = n) (s1 : l1.Pairwise fun x y => Si18.square x ≤ Si18.square y) (s2 : l2.Pairwise fun x y => Si18.square x ≤ Si18.square y)
    (h12 : ∀ x, x ∈ l1 → x ∈ l2 ∨ Si18.times (-1) x ∈ l2) (h21 : ∀ x, x ∈ l2 → x ∈ l1) : (greedy n l1).map Si18.square = (greedy n l2).map Si18.square := by
  refine sorted_eq ?_ ?_ fun s => ?_
  · exact List.pairwise_map.mpr (s1.sublist (greedy_sub l1))
  · exact List.pairwise_map.mpr (s2.sublist (greedy_sub l2))
  · have e : ∀ l : List Row, ((l.map Si18.square).filter fun x => decide (x ≤ s)).length = (l.filter fun x => decide (Si18.square x ≤ s)).length := fun l => by
      rw [List.filter_map, List.length_map]
      rfl
    rw [e, e, greedy_low s s1, greedy_low s s2]
    exact Nat.le_antisymm (low_le w1 w2 h12) (low_le w2 w1 fun x hx => .inl (h21 x hx))
end
end Gst

/-! The greatest square of a reduced row: how far a search up to it goes. -/
namespace Gst
open Si18 (Row Rows)
variable {n : Nat} {be : Rat} {m : Rows}
theorem row_most (D : Redd n be m) (n5 : n ≤ 5) {k : Nat} (hk : k < n) {c : Rat} (hc : ∀ j, j < k → N n (mat m) j ≤ c) (c0 : 0 ≤ c) : ip n (mat m k) (mat m k) ≤ N n (mat m) k + c := by
  rw [R_sq_all (b := mat m) (mat m k) k]
  have a : ip n (R n (mat m) k (mat m k)) (R n (mat m) k (mat m k)) = N n (mat m) k := rfl
  rw [a]
  have d : c / 4 * 4 = c := Rat.div_mul_cancel (by decide)
  have s := sum_le_const (m := k) (f := fun j => mu n (mat m) (mat m k) j * mu n (mat m) (mat m k) j * N n (mat m) j) (c := c / 4) fun j hj => by
    have q := half_sq (D.half k j hk hj)
    have lj := hc j hj
    have pj := D.P.pos j (by omega)
    have mm := Rat.mul_le_mul_of_nonneg_right q (Rat.le_of_lt pj)
    grind
  have kc : (k : Rat) ≤ 4 := by
    have : ((k : Nat) : Rat) ≤ ((4 : Nat) : Rat) := Rat.natCast_le_natCast.mpr (by omega)
    exact this
  have mm := Rat.mul_le_mul_of_nonneg_right kc (show (0 : Rat) ≤ c / 4 by grind)
  grind
theorem rows_45 (D : Redd n be m) (n1 : 1 ≤ n) (n5 : n ≤ 5) {k : Nat} (hk : k < n) : Near45 n m ((Si18.square (Si18.row m k) : Int) : Rat) := by
  have e : ((Si18.square (Si18.row m k) : Int) : Rat) = ip n (mat m k) (mat m k) := square_cast (D.P.sq.row hk)
  rw [e]
  constructor
  · intro L hL
    have p0 := D.P.pos 0 (by omega)
    have l0 := hL 0 (by omega)
    have a := row_most D n5 hk (c := L) (fun j hj => hL j (by omega)) (by grind)
    have b := hL k hk
    grind
  · intro h5 L hL hl
    subst h5
    have p0 := D.P.pos 0 (by omega)
    have l0 := hL 0 (by omega)
    have a := row_most D n5 hk (c := L / 4) (fun j hj => by
      have := hL j (by omega)
      grind) (by grind)
    have b : N 5 (mat m) k ≤ L := by
      by_cases c : k < 4
      · have := hL k c
        have := D.P.pos k hk
        grind
      · have : k = 4 := by omega
        subst this
        exact hl
    grind
theorem top_row : ∀ {l : List Row}, l ≠ [] → ∃ x, x ∈ l ∧ ∀ y, y ∈ l → Si18.square y ≤ Si18.square x
  | [], h => absurd rfl h
  | [a], _ => ⟨a, by simp, fun y hy => by
    rw [List.mem_singleton.mp hy]
    exact Int.le_refl _⟩
  | a :: b :: l, _ => by
    obtain ⟨x, hx, h⟩ := top_row (l := b :: l) (by simp)
    rcases Int.le_total (Si18.square a) (Si18.square x) with c | c
    · refine ⟨x, List.mem_cons_of_mem _ hx, fun y hy => ?_⟩
      rcases List.mem_cons.mp hy with rfl | hy
      · exact c
      · exact h y hy
    · refine ⟨a, by simp, fun y hy => ?_⟩
      rcases List.mem_cons.mp hy with rfl | hy
      · exact Int.le_refl _
      · exact Int.le_trans (h y hy) c
theorem fold_max : ∀ (l : List Row) (m0 : Nat), (m0 ≤ l.foldl (fun (m : Nat) (x : Row) => max m (Si18.square x).toNat) m0) ∧ (∀ x ∈ l, (Si18.square x).toNat ≤ l.foldl (fun (m : Nat) (x : Row) => max m (Si18.square x).toNat) m0) ∧
    (l.foldl (fun (m : Nat) (x : Row) => max m (Si18.square x).toNat) m0 = m0 ∨ ∃ x ∈ l, l.foldl (fun (m : Nat) (x : Row) => max m (Si18.square x).toNat) m0 = (Si18.square x).toNat)
  | [], m0 => ⟨by simp, fun x hx => by simp at hx, .inl rfl⟩
  | a :: l, m0 => by
    rw [List.foldl_cons]
    obtain ⟨k1, k2, k3⟩ := fold_max l (max m0 (Si18.square a).toNat)
    refine ⟨by omega, fun x hx => ?_, ?_⟩
    · rcases List.mem_cons.mp hx with rfl | hx
      · omega
      · exact k2 x hx
    · rcases k3 with k3 | ⟨x, hx, k3⟩
      · rw [k3]
        by_cases h : (Si18.square a).toNat ≤ m0
        · left; omega
        · right; exact ⟨a, by simp, by omega⟩
      · right; exact ⟨x, by simp [hx], k3⟩
theorem fold_top {l : List Row} {x : Row} (hx : x ∈ l) (h : ∀ y, y ∈ l → Si18.square y ≤ Si18.square x) : l.foldl (fun (m : Nat) (x : Row) => max m (Si18.square x).toNat) 0 = (Si18.square x).toNat := by
  obtain ⟨_, k2, k3⟩ := fold_max l 0
  have a := k2 x hx
  rcases k3 with k3 | ⟨y, hy, k3⟩
  · omega
  · have := h y hy
    omega
end Gst

namespace Gw
open PySem PySem.Spec PyProof.Rows L2 LamX NdefX
/-! ### heaps -/
theorem same_upd {H : Hp} {p : Addr} {o : HO} (h : H p = none) : Same H (upd H p o) := fun b x e => by
  rw [upd_ne (ne_of_none e h)]
  exact e
abbrev iv (x : List Int) : List V := x.map V.int
/-- a list of rows: each a list of its own -/
def RowsV (H : Hp) (vs : List V) (m : List (List Int)) : Prop := vs.length = m.length ∧ ∀ (i : Nat) (x : List Int), m[i]? = some x → ∃ p : Addr, vs[i]? = some (.ref p) ∧ H p = some (.lst (iv x))
def RowsAt (H : Hp) (a : Addr) (m : List (List Int)) : Prop := ∃ vs, H a = some (.lst vs) ∧ RowsV H vs m
theorem RowsV.same {H H' : Hp} {vs : List V} {m : List (List Int)} (s : Same H H') (h : RowsV H vs m) : RowsV H' vs m := ⟨h.1, fun i x e => by
  obtain ⟨p, e1, e2⟩ := h.2 i x e
  exact ⟨p, e1, s _ _ e2⟩⟩
theorem RowsAt.same {H H' : Hp} {a : Addr} {m : List (List Int)} (s : Same H H') (h : RowsAt H a m) : RowsAt H' a m := by
  obtain ⟨vs, e, r⟩ := h
  exact ⟨vs, s _ _ e, r.same s⟩
theorem RowsV.nil {H : Hp} : RowsV H [] [] := ⟨rfl, fun i x e => by simp at e⟩
theorem RowsV.at {H : Hp} {vs : List V} {m : List (List Int)} (h : RowsV H vs m) {i : Nat} {v : V} (e : vs[i]? = some v) : ∃ p x, v = .ref p ∧ m[i]? = some x ∧ H p = some (.lst (iv x)) := by
  have hi : i < m.length := by rw [← h.1]; exact (List.getElem?_eq_some_iff.mp e).1
  obtain ⟨p, e1, e2⟩ := h.2 i _ (List.getElem?_eq_getElem hi)
  rw [e] at e1
  exact ⟨p, _, Option.some.inj e1, List.getElem?_eq_getElem hi, e2⟩
theorem RowsV.concat {H : Hp} {vs : List V} {m : List (List Int)} {p : Addr} {x : List Int} (h : RowsV H vs m) (e : H p = some (.lst (iv x))) : RowsV H (vs ++ [.ref p]) (m ++ [x]) := by
  refine ⟨by rw [List.length_append, List.length_append, h.1]; rfl, fun i y hy => ?_⟩
  by_cases hi : i < m.length
  · rw [List.getElem?_append_left hi] at hy
    rw [List.getElem?_append_left (by rw [h.1]; exact hi)]
    exact h.2 i y hy
  · rw [List.getElem?_append_right (by omega)] at hy
    rw [List.getElem?_append_right (by rw [h.1]; omega), h.1]
    have z : i - m.length = 0 := by
      have := (List.getElem?_eq_some_iff.mp hy).1
      simp at this
      omega
    rw [z] at hy ⊢
    have ey : x = y := Option.some.inj hy
    subst ey
    exact ⟨p, rfl, e⟩
theorem RowsV.append {H : Hp} {vs ws : List V} {m l : List (List Int)} (h : RowsV H vs m) (k : RowsV H ws l) : RowsV H (vs ++ ws) (m ++ l) := by
  refine ⟨by rw [List.length_append, List.length_append, h.1, k.1], fun i y hy => ?_⟩
  by_cases hi : i < m.length
  · rw [List.getElem?_append_left hi] at hy
    rw [List.getElem?_append_left (by rw [h.1]; exact hi)]
    exact h.2 i y hy
  · rw [List.getElem?_append_right (by omega)] at hy
    rw [List.getElem?_append_right (by rw [h.1]; omega), h.1]
    exact k.2 _ y hy
theorem RowsV.take {H : Hp} {vs : List V} {m : List (List Int)} (h : RowsV H vs m) (n : Nat) : RowsV H (vs.take n) (m.take n) := by
  refine ⟨by rw [List.length_take, List.length_take, h.1], fun i y hy => ?_⟩
  have hi : i < n := by
    have := (List.getElem?_eq_some_iff.mp hy).1
    rw [List.length_take] at this
    omega
  rw [List.getElem?_take_of_lt hi] at hy ⊢
  exact h.2 i y hy
theorem RowsV.drop {H : Hp} {vs : List V} {m : List (List Int)} (h : RowsV H vs m) (n : Nat) : RowsV H (vs.drop n) (m.drop n) := by
  refine ⟨by rw [List.length_drop, List.length_drop, h.1], fun i y hy => ?_⟩
  rw [List.getElem?_drop] at hy ⊢
  exact h.2 _ y hy
theorem RowsV.set {H : Hp} {vs : List V} {m : List (List Int)} (h : RowsV H vs m) {k : Nat} {p : Addr} {x : List Int} (e : H p = some (.lst (iv x))) : RowsV H (vs.set k (.ref p)) (m.set k x) := by
  refine ⟨by rw [List.length_set, List.length_set, h.1], fun i y hy => ?_⟩
  rw [List.getElem?_set] at hy ⊢
  rw [h.1]
  by_cases hk : k = i
  · rw [if_pos hk] at hy ⊢
    by_cases hl : k < m.length
    · rw [if_pos hl] at hy ⊢
      have ey := Option.some.inj hy
      subst ey
      exact ⟨p, rfl, e⟩
    · rw [if_neg hl] at hy
      cases hy
  · rw [if_neg hk] at hy ⊢
    exact h.2 i y hy
theorem iv_at {x : List Int} {i : Nat} (h : i < x.length) : (iv x)[i]? = some (.int (x.getD i 0)) := by
  unfold iv
  rw [List.getElem?_map, List.getD_eq_getElem?_getD, List.getElem?_eq_getElem h]
  rfl
theorem iv_get {x : List Int} {i : Nat} {v : V} (h : (iv x)[i]? = some v) : i < x.length ∧ v = .int (x.getD i 0) := by
  have hi : i < x.length := by
    have := (List.getElem?_eq_some_iff.mp h).1
    unfold iv at this
    rw [List.length_map] at this
    exact this
  rw [iv_at hi] at h
  exact ⟨hi, (Option.some.inj h).symm⟩
theorem iv_len {x : List Int} : (iv x).length = x.length := List.length_map _
/-! ### slices -/
theorem cut_to (xs : List V) (j : Nat) : cutV xs none (some (j : Int)) = xs.take j := by
  unfold cutV
  rw [HT.sIx_none, HT.sIx_nat]
  show (xs.drop 0).take (min j xs.length - 0) = xs.take j
  rw [List.drop_zero, Nat.sub_zero, List.take_eq_take_iff]
  omega
theorem cut_from (xs : List V) (i : Nat) : cutV xs (some (i : Int)) none = xs.drop i := by
  unfold cutV
  rw [HT.sIx_none, HT.sIx_nat]
  by_cases h : i ≤ xs.length
  · rw [Nat.min_eq_left h, List.take_of_length_le (by rw [List.length_drop]; omega)]
  · rw [Nat.min_eq_right (by omega), List.drop_of_length_le (Nat.le_refl _), List.drop_of_length_le (by omega)]
    simp
theorem cut_mid (xs : List V) (i j : Nat) (h : i ≤ j) : cutV xs (some (i : Int)) (some (j : Int)) = (xs.drop i).take (j - i) := by
  unfold cutV
  rw [HT.sIx_nat, HT.sIx_nat]
  by_cases hi : i ≤ xs.length
  · rw [Nat.min_eq_left hi, List.take_eq_take_iff, List.length_drop]
    omega
  · rw [Nat.min_eq_right (show xs.length ≤ i by omega), List.drop_of_length_le (Nat.le_refl _), List.drop_of_length_le (show xs.length ≤ i by omega)]
    simp
theorem small_line {n : Nat} (h : n ≤ 2000) : n < sizeLine := Nat.lt_of_le_of_lt h (by decide)
theorem line_lt {n : Nat} (h : n ≤ 1000) : n < sizeLine := small1000 h
/-! ### how great -/
def Small (e : Nat) (x : List Int) : Prop := ∀ z, z ∈ x → z.natAbs ≤ 2 ^ e
def Smalls (e : Nat) (m : List (List Int)) : Prop := ∀ x, x ∈ m → Small e x
theorem Small.getD {e : Nat} {x : List Int} (h : Small e x) (i : Nat) : (x.getD i 0).natAbs ≤ 2 ^ e := by
  rw [List.getD_eq_getElem?_getD]
  cases q : x[i]? with
  | none =>
    show (0 : Int).natAbs ≤ _
    exact Nat.zero_le _
  | some z => exact h z (List.mem_of_getElem? q)
theorem Small.erase {e : Nat} {x : List Int} (h : Small e x) (i : Nat) : Small e (x.eraseIdx i) := fun z hz => h z (List.mem_of_mem_eraseIdx hz)
theorem Smalls.erase {e : Nat} {m : List (List Int)} (h : Smalls e m) (i : Nat) : Smalls e (m.map fun (x : List Int) => x.eraseIdx i) := fun x hx => by
  obtain ⟨y, hy, rfl⟩ := List.mem_map.mp hx
  exact (h y hy).erase i
theorem abs_add_le (a b : Int) : (a + b).natAbs ≤ a.natAbs + b.natAbs := Int.natAbs_add_le a b
theorem sum_abs {f : Nat → Int} {B : Nat} : ∀ {n : Nat}, (∀ j, j < n → (f j).natAbs ≤ B) → (((List.range n).map f).sum).natAbs ≤ n * B
  | 0, _ => by simp
  | n + 1, h => by
    rw [List.range_succ, List.map_append, List.sum_append]
    have a := sum_abs (f := f) (n := n) fun j hj => h j (by omega)
    have b := h n (by omega)
    simp only [List.map_cons, List.map_nil, List.sum_cons, List.sum_nil, Int.add_zero]
    have c := abs_add_le ((List.map f (List.range n)).sum) (f n)
    rw [Nat.add_mul, Nat.one_mul]
    omega
theorem det_small {e : Nat} : ∀ {n : Nat} {m : List (List Int)}, n ≤ 8 → Smalls e m → (Si18.det n m).natAbs ≤ 2 ^ ((e + 3) * n)
  | 0, m, _, _ => by
    show (1 : Int).natAbs ≤ 2 ^ ((e + 3) * 0)
    simp
  | n + 1, [], _, _ => by
    show (0 : Int).natAbs ≤ _
    exact Nat.zero_le _
  | n + 1, r :: l, hn, h => by
    show ((((List.range (n + 1)).map fun j => (if j % 2 = 0 then (1 : Int) else -1) * r.getD j 0 * Si18.det n (l.map fun (x : Si18.Row) => x.eraseIdx j)).sum : Int)).natAbs ≤ _
    have b := sum_abs (n := n + 1) (f := fun j => (if j % 2 = 0 then (1 : Int) else -1) * r.getD j 0 * Si18.det n (l.map fun (x : Si18.Row) => x.eraseIdx j)) (B := 2 ^ e * 2 ^ ((e + 3) * n)) fun j _ => by
      rw [Int.natAbs_mul, Int.natAbs_mul]
      have h1 := (h r List.mem_cons_self).getD j
      have h2 := det_small (e := e) (n := n) (m := l.map fun (x : Si18.Row) => x.eraseIdx j) (by omega) (Smalls.erase (fun x hx => h x (List.mem_cons_of_mem _ hx)) j)
      have s : (if j % 2 = 0 then (1 : Int) else -1).natAbs = 1 := by split <;> rfl
      rw [s, Nat.one_mul]
      exact Nat.mul_le_mul h1 h2
    refine Nat.le_trans b ?_
    have e1 : (e + 3) * (n + 1) = 3 + (e + (e + 3) * n) := by
      rw [Nat.mul_add, Nat.mul_one]
      omega
    rw [e1, Nat.pow_add, Nat.pow_add]
    exact Nat.mul_le_mul_right _ (by omega)
theorem lt_pow {a e : Nat} (h : a ≤ 2 ^ e) : a < 2 ^ (e + 1) := Nat.lt_of_le_of_lt h (Nat.pow_lt_pow_right (by decide) (by omega))
theorem mul_ok {i j : Int} {a b : Nat} (ha : i.natAbs ≤ 2 ^ a) (hb : j.natAbs ≤ 2 ^ b) (h : a + b + 2 ≤ 1000000) : CMulW i j := wide_mul (lt_pow ha) (lt_pow hb) (by omega) (by omega) (by omega)
/-! ### comprehensions -/
section
variable {K : PySem.W.Frag} {te : TE} {σ : L2.St} {H1 : Hp} {D : Addr} {Qd : Hp → Prop} {s : Nat} {vs : List Nat}
/-- what the new list at D and the rows made so far are -/
def Lcd (H1 : Hp) (D : Addr) (m : List (List Int)) (H : Hp) : Prop := Same H1 H ∧ ∃ ws, H D = some (.lst ws) ∧ RowsV (fun b => if b = D then none else H b) ws m
theorem Lcd.zero (hD : H1 D = none) : Lcd H1 D [] (upd H1 D (.lst [])) := ⟨same_upd hD, [], upd_same, RowsV.nil⟩
theorem Lcd.step {m : List (List Int)} {H H4 : Hp} {p : Addr} {x : List Int} (hD : H1 D = none) (L : Lcd H1 D m H) (s : Same H H4) (np : H p = none) (e : H4 p = some (.lst (iv x))) :
    ∃ acc, H4 D = some (.lst acc) ∧ acc.length = m.length ∧ Lcd H1 D (m ++ [x]) (upd H4 D (.lst (acc ++ [.ref p]))) := by
  obtain ⟨s1, ws, e1, r⟩ := L
  have hp : p ≠ D := fun z => by
    rw [z, e1] at np
    cases np
  refine ⟨ws, s _ _ e1, r.1, fun b o q => ?_, _, upd_same, ?_⟩
  · rw [upd_ne (ne_of_none q hD)]
    exact s _ _ (s1 _ _ q)
  · refine RowsV.concat (RowsV.same (fun b o q => ?_) r) ?_
    · by_cases hb : b = D
      · rw [if_pos hb] at q
        cases q
      · rw [if_neg hb] at q ⊢
        rw [upd_ne hb]
        exact s _ _ q
    · rw [if_neg hp, upd_ne hp]
      exact e
theorem Lcd.at {m : List (List Int)} {H : Hp} (L : Lcd H1 D m H) : Same H1 H ∧ RowsAt H D m := by
  obtain ⟨s1, ws, e1, r⟩ := L
  refine ⟨s1, ws, e1, r.same fun b o q => ?_⟩
  have q : (if b = D then none else H b) = some o := q
  by_cases hb : b = D
  · rw [if_pos hb] at q
    cases q
  · rw [if_neg hb] at q
    exact q
/-- [a row for each item of a list] -/
theorem lc_rows {a : Addr} {xs : List V} (F : Nat → List Int) (hD : H1 D = none) (hxs : SqL K H1 a xs) (hlen : xs.length ≤ 1000) (hw : ∀ x, wipe ((wipe σ vs).set s (some x)) vs = wipe σ vs)
    (step : ∀ i x H Q, xs[i]? = some x → Same H1 H → (∀ H' p, Same H H' → H p = none → H' p = some (.lst (iv (F i))) → Q (.ref p) H') → te ((wipe σ vs).set s (some x)) H Q)
    (hd : ∀ H, Same H1 H → RowsAt H D ((List.range xs.length).map F) → Qd H) :
    ∃ W : Nat → Nat → Hp → Prop, (∃ m, W 0 m (upd H1 D (.lst []))) ∧ ∀ i m H, W i m H →
      ((Itl K a).stop i H ∧ Qd H) ∨ ((Itl K a).go i H ∧ ∃ Nx : Hp → Prop, (∀ H', Nx H' → ∃ m', m' < m ∧ W (i + 1) m' H') ∧ ∀ x H', (Itl K a).yld i H x H' → gName s x (wipe σ vs) H' fun σ2 H2 => wipe σ2 vs = wipe σ vs ∧ tYes σ2 H2 fun b H3 =>
        if b = true then te σ2 H3 fun y H4 => ∃ acc, H4 D = some (.lst acc) ∧ acc.length < sizeLine ∧ Nx (upd H4 D (.lst (acc ++ [y]))) else Nx H3) := by
  refine lc_list (K := K) (a := a) (xs := xs) (g := gName s) (tt := tYes) (te := te) (vs := vs) (σ := σ) (Qd := Qd) (fun i H => Lcd H1 D ((List.range i).map F) H) (Lcd.zero hD) (fun i H _ L => L.1.seq hxs) (fun i x H hx L => ?_) (fun H L => hd H L.at.1 L.at.2)
  refine ⟨hw x, ?_⟩
  show te ((wipe σ vs).set s (some x)) H _
  refine step i x H _ hx L.1 fun H' p s' np e => ?_
  obtain ⟨acc, e1, e2, e3⟩ := L.step hD s' np e
  refine ⟨acc, e1, ?_, ?_⟩
  · have hi := (List.getElem?_eq_some_iff.mp hx).1
    rw [e2, List.length_map, List.length_range]
    exact line_lt (by omega)
  · rw [List.range_succ, List.map_append]
    exact e3
/-- [a row for each number of a range] -/
theorem lc_rowsR {n : Nat} (F : Nat → List Int) (hD : H1 D = none) (hlen : n ≤ 1000) (hw : ∀ x, wipe ((wipe σ vs).set s (some x)) vs = wipe σ vs)
    (step : ∀ i H Q, i < n → Same H1 H → (∀ H' p, Same H H' → H p = none → H' p = some (.lst (iv (F i))) → Q (.ref p) H') → te ((wipe σ vs).set s (some (.int (i : Int)))) H Q)
    (hd : ∀ H, Same H1 H → RowsAt H D ((List.range n).map F) → Qd H) :
    ∃ W : Nat → Nat → Hp → Prop, (∃ m, W 0 m (upd H1 D (.lst []))) ∧ ∀ i m H, W i m H →
      ((Itr 0 n).stop i H ∧ Qd H) ∨ ((Itr 0 n).go i H ∧ ∃ Nx : Hp → Prop, (∀ H', Nx H' → ∃ m', m' < m ∧ W (i + 1) m' H') ∧ ∀ x H', (Itr 0 n).yld i H x H' → gName s x (wipe σ vs) H' fun σ2 H2 => wipe σ2 vs = wipe σ vs ∧ tYes σ2 H2 fun b H3 =>
        if b = true then te σ2 H3 fun y H4 => ∃ acc, H4 D = some (.lst acc) ∧ acc.length < sizeLine ∧ Nx (upd H4 D (.lst (acc ++ [y]))) else Nx H3) := by
  refine lc_range (lo := 0) (n := n) (g := gName s) (tt := tYes) (te := te) (vs := vs) (σ := σ) (Qd := Qd) (fun i H => Lcd H1 D ((List.range i).map F) H) (Lcd.zero hD) (fun i H hi L => ?_) (fun H L => hd H L.at.1 L.at.2)
  have z : (0 : Int) + (i : Int) = (i : Int) := Int.zero_add _
  rw [z]
  refine ⟨hw _, ?_⟩
  show te ((wipe σ vs).set s (some (.int (i : Int)))) H _
  refine step i H _ hi L.1 fun H' p s' np e => ?_
  obtain ⟨acc, e1, e2, e3⟩ := L.step hD s' np e
  refine ⟨acc, e1, ?_, ?_⟩
  · rw [e2, List.length_map, List.length_range]
    exact line_lt (by omega)
  · rw [List.range_succ, List.map_append]
    exact e3
end
section
variable {K : PySem.W.Frag} {te : TE} {σ : L2.St} {H1 : Hp} {D : Addr} {Qd : Hp → Prop} {s : Nat} {vs : List Nat}
/-- [a whole number for each number of a range] -/
theorem lc_intsR {n : Nat} (F : Nat → Int) (hD : H1 D = none) (hlen : n ≤ 1000) (hw : ∀ x, wipe ((wipe σ vs).set s (some x)) vs = wipe σ vs)
    (step : ∀ i H Q, i < n → Same H1 H → (∀ H', Same H H' → Q (.int (F i)) H') → te ((wipe σ vs).set s (some (.int (i : Int)))) H Q)
    (hd : ∀ H, Same H1 H → H D = some (.lst (iv ((List.range n).map F))) → Qd H) :
    ∃ W : Nat → Nat → Hp → Prop, (∃ m, W 0 m (upd H1 D (.lst []))) ∧ ∀ i m H, W i m H →
      ((Itr 0 n).stop i H ∧ Qd H) ∨ ((Itr 0 n).go i H ∧ ∃ Nx : Hp → Prop, (∀ H', Nx H' → ∃ m', m' < m ∧ W (i + 1) m' H') ∧ ∀ x H', (Itr 0 n).yld i H x H' → gName s x (wipe σ vs) H' fun σ2 H2 => wipe σ2 vs = wipe σ vs ∧ tYes σ2 H2 fun b H3 =>
        if b = true then te σ2 H3 fun y H4 => ∃ acc, H4 D = some (.lst acc) ∧ acc.length < sizeLine ∧ Nx (upd H4 D (.lst (acc ++ [y]))) else Nx H3) := by
  refine lc_range (lo := 0) (n := n) (g := gName s) (tt := tYes) (te := te) (vs := vs) (σ := σ) (Qd := Qd) (fun i H => Same H1 H ∧ H D = some (.lst (iv ((List.range i).map F)))) ⟨same_upd hD, upd_same⟩ (fun i H hi L => ?_) (fun H L => hd H L.1 L.2)
  have z : (0 : Int) + (i : Int) = (i : Int) := Int.zero_add _
  rw [z]
  refine ⟨hw _, ?_⟩
  show te ((wipe σ vs).set s (some (.int (i : Int)))) H _
  refine step i H _ hi L.1 fun H' s' => ⟨_, s' _ _ L.2, ?_, fun b o q => ?_, ?_⟩
  · rw [iv_len, List.length_map, List.length_range]
    exact line_lt (by omega)
  · rw [upd_ne (ne_of_none q hD)]
    exact s' _ _ (L.1 _ _ q)
  · rw [upd_same, List.range_succ, List.map_append]
    unfold iv
    rw [List.map_append]
    rfl
/-- [a whole number for each item of a list] -/
theorem lc_intsL {a : Addr} {xs : List V} (F : Nat → Int) (hD : H1 D = none) (hxs : SqL K H1 a xs) (hlen : xs.length ≤ 1000) (hw : ∀ x, wipe ((wipe σ vs).set s (some x)) vs = wipe σ vs)
    (step : ∀ i x H Q, xs[i]? = some x → Same H1 H → (∀ H', Same H H' → Q (.int (F i)) H') → te ((wipe σ vs).set s (some x)) H Q)
    (hd : ∀ H, Same H1 H → H D = some (.lst (iv ((List.range xs.length).map F))) → Qd H) :
    ∃ W : Nat → Nat → Hp → Prop, (∃ m, W 0 m (upd H1 D (.lst []))) ∧ ∀ i m H, W i m H →
      ((Itl K a).stop i H ∧ Qd H) ∨ ((Itl K a).go i H ∧ ∃ Nx : Hp → Prop, (∀ H', Nx H' → ∃ m', m' < m ∧ W (i + 1) m' H') ∧ ∀ x H', (Itl K a).yld i H x H' → gName s x (wipe σ vs) H' fun σ2 H2 => wipe σ2 vs = wipe σ vs ∧ tYes σ2 H2 fun b H3 =>
        if b = true then te σ2 H3 fun y H4 => ∃ acc, H4 D = some (.lst acc) ∧ acc.length < sizeLine ∧ Nx (upd H4 D (.lst (acc ++ [y]))) else Nx H3) := by
  refine lc_list (K := K) (a := a) (xs := xs) (g := gName s) (tt := tYes) (te := te) (vs := vs) (σ := σ) (Qd := Qd) (fun i H => Same H1 H ∧ H D = some (.lst (iv ((List.range i).map F)))) ⟨same_upd hD, upd_same⟩ (fun i H _ L => L.1.seq hxs) (fun i x H hx L => ?_) (fun H L => hd H L.1 L.2)
  refine ⟨hw x, ?_⟩
  show te ((wipe σ vs).set s (some x)) H _
  refine step i x H _ hx L.1 fun H' s' => ⟨_, s' _ _ L.2, ?_, fun b o q => ?_, ?_⟩
  · have hi := (List.getElem?_eq_some_iff.mp hx).1
    rw [iv_len, List.length_map, List.length_range]
    exact line_lt (by omega)
  · rw [upd_ne (ne_of_none q hD)]
    exact s' _ _ (L.1 _ _ q)
  · rw [upd_same, List.range_succ, List.map_append]
    unfold iv
    rw [List.map_append]
    rfl
end
theorem sum_range_succ {f : Nat → Int} {n : Nat} : ((List.range (n + 1)).map f).sum = ((List.range n).map f).sum + f n := by
  rw [List.range_succ, List.map_append, List.sum_append]
  simp
theorem map_range_getD {f : List Int → List Int} (l : List (List Int)) : (List.range l.length).map (fun i => f (l.getD i [])) = l.map f := by
  apply List.ext_getElem
  · simp
  · intro i h1 h2
    simp at h1 h2
    simp [h1]
/-- at most five rows of as many numbers, none too great -/
structure Rw (H : Hp) (a : Addr) (n e : Nat) (m : List (List Int)) : Prop where
  rat : RowsAt H a m
  len : m.length = n
  wide : ∀ x, x ∈ m → x.length = n
  n5 : n ≤ 5
  sm : Smalls e m
  he : e ≤ 40000
theorem Rw.same {H H' : Hp} {a : Addr} {n e : Nat} {m : List (List Int)} (s : Same H H') (h : Rw H a n e m) : Rw H' a n e m := ⟨h.rat.same s, h.len, h.wide, h.n5, h.sm, h.he⟩
/-- the k-th row: where it stands -/
theorem Rw.row {H : Hp} {a : Addr} {n e : Nat} {m : List (List Int)} (h : Rw H a n e m) {k : Nat} (hk : k < n) : ∃ ws p, H a = some (.lst ws) ∧ ws[k]? = some (.ref p) ∧ H p = some (.lst (iv (Si18.row m k))) ∧ (Si18.row m k).length = n ∧ Small e (Si18.row m k) := by
  obtain ⟨ws, e1, r⟩ := h.rat
  have hl := h.len
  have hk' : k < m.length := by omega
  obtain ⟨p, e2, e3⟩ := r.2 k _ (List.getElem?_eq_getElem hk')
  have g : Si18.row m k = m[k] := by
    unfold Si18.row
    rw [List.getD_eq_getElem?_getD, List.getElem?_eq_getElem hk']
    rfl
  rw [g]
  exact ⟨ws, p, e1, e2, e3, h.wide _ (List.getElem_mem hk'), h.sm _ (List.getElem_mem hk')⟩
theorem sum_small {B : Nat} : ∀ {l : List Int}, (∀ z, z ∈ l → z.natAbs ≤ B) → l.sum.natAbs ≤ l.length * B
  | [], _ => by simp
  | a :: l, h => by
    have ih := sum_small (l := l) fun z hz => h z (List.mem_cons_of_mem _ hz)
    have ha := h a List.mem_cons_self
    have c := abs_add_le a l.sum
    rw [List.sum_cons, List.length_cons, Nat.add_mul, Nat.one_mul]
    omega
theorem zipWith_mem {f : Int → Int → Int} : ∀ {x y : List Int} {z : Int}, z ∈ List.zipWith f x y → ∃ a b, a ∈ x ∧ b ∈ y ∧ z = f a b
  | [], _, z, h => by simp at h
  | _ :: _, [], z, h => by simp at h
  | a :: x, b :: y, z, h => by
    rw [List.zipWith_cons_cons] at h
    rcases List.mem_cons.mp h with e | h
    · exact ⟨a, b, List.mem_cons_self, List.mem_cons_self, e⟩
    · obtain ⟨a', b', h1, h2, h3⟩ := zipWith_mem h
      exact ⟨a', b', List.mem_cons_of_mem _ h1, List.mem_cons_of_mem _ h2, h3⟩
theorem dot_small {e f : Nat} {x y : List Int} (hx : Small e x) (hy : Small f y) (hl : x.length ≤ 8) : (Si18.dot x y).natAbs ≤ 2 ^ (e + f + 3) := by
  unfold Si18.dot
  have b := sum_small (B := 2 ^ e * 2 ^ f) (l := List.zipWith (fun (a b : Int) => a * b) x y) fun z hz => by
    obtain ⟨a, c, h1, h2, rfl⟩ := zipWith_mem hz
    rw [Int.natAbs_mul]
    exact Nat.mul_le_mul (hx a h1) (hy c h2)
  refine Nat.le_trans b ?_
  rw [Nat.pow_add, Nat.pow_add, Nat.mul_comm (2 ^ e * 2 ^ f)]
  refine Nat.mul_le_mul_right _ ?_
  rw [List.length_zipWith]
  omega
theorem range_map_mem {f : Nat → List Int} {n : Nat} {x : List Int} (h : x ∈ (List.range n).map f) : ∃ i, i < n ∧ x = f i := by
  obtain ⟨i, hi, rfl⟩ := List.mem_map.mp h
  exact ⟨i, List.mem_range.mp hi, rfl⟩
theorem range_map_memZ {f : Nat → Int} {n : Nat} {x : Int} (h : x ∈ (List.range n).map f) : ∃ i, i < n ∧ x = f i := by
  obtain ⟨i, hi, rfl⟩ := List.mem_map.mp h
  exact ⟨i, List.mem_range.mp hi, rfl⟩
/-- a def as it stands behind the top -/
structure Dn (K : PySem.W.Frag) (mg : Str → Option Value) (x : Str) (st : Stmt) (ps : List Str) (f : Addr) (fd : FuncData) : Prop where
  F : Fun K x x st f fd
  b : Binds K fd ps []
  g : mg x = some (.ref f)
def Dx (K : PySem.W.Frag) (mg : Str → Option Value) (x : Str) (st : Stmt) (ps : List Str) : Prop := ∃ (f : Addr) (fd : FuncData), Dn K mg x st ps f fd
/-- a number of the module's own -/
def Cn (mg : Str → Option Value) (x : Str) (i : Int) : Prop := ∃ t : Tok, mg x = some (.int i t)
def topS (i : Nat) : Stmt := PySem.Challenge.pw_gridsteps_s04_minima.main.body.getD i (.Pass ⟨0, 0, 0, 0⟩)
abbrev s_product : Stmt := topS 1
abbrev s_square : Stmt := topS 2
abbrev s_with_times : Stmt := topS 3
abbrev s_less : Stmt := topS 4
abbrev s_without : Stmt := topS 5
abbrev s_determinant : Stmt := topS 6
abbrev s_cofactors : Stmt := topS 7
abbrev s_are_free : Stmt := topS 8
abbrev s_mixed : Stmt := topS 10
abbrev s_corner : Stmt := topS 11
abbrev s_nearest : Stmt := topS 12
abbrev s_is_in_turn : Stmt := topS 13
abbrev s_lowered : Stmt := topS 14
abbrev s_changed : Stmt := topS 15
abbrev s_reduced : Stmt := topS 16
abbrev s_root : Stmt := topS 18
abbrev s_upright : Stmt := topS 19
abbrev s_multiples_within : Stmt := topS 20
abbrev s_points_within : Stmt := topS 21
abbrev s_nought : Stmt := topS 23
abbrev s_is_forward : Stmt := topS 24
abbrev s_forward_points : Stmt := topS 25
abbrev s_least_squares : Stmt := topS 26
abbrev s_rows_of : Stmt := topS 32
abbrev s_are_small : Stmt := topS 33
abbrev s_refusal : Stmt := topS 34
abbrev s_minima : Stmt := topS 35
/-- what the top has written -/
structure Txt (K : PySem.W.Frag) (mg : Str → Option Value) : Prop where
  d_product : Dx K mg "product" s_product ["one", "other"]
  d_square : Dx K mg "square" s_square ["row"]
  d_with_times : Dx K mg "with_times" s_with_times ["row", "many", "other"]
  d_less : Dx K mg "less" s_less ["row", "other"]
  d_without : Dx K mg "without" s_without ["row", "column"]
  d_determinant : Dx K mg "determinant" s_determinant ["rows"]
  d_cofactors : Dx K mg "cofactors" s_cofactors ["rows", "k"]
  d_are_free : Dx K mg "are_free" s_are_free ["rows"]
  d_mixed : Dx K mg "mixed" s_mixed ["rows", "k", "j"]
  d_corner : Dx K mg "corner" s_corner ["rows", "j"]
  d_nearest : Dx K mg "nearest" s_nearest ["top", "bottom"]
  d_is_in_turn : Dx K mg "is_in_turn" s_is_in_turn ["rows", "k"]
  d_lowered : Dx K mg "lowered" s_lowered ["rows", "k"]
  d_changed : Dx K mg "changed" s_changed ["rows", "k"]
  d_reduced : Dx K mg "reduced" s_reduced ["rows"]
  d_root : Dx K mg "root" s_root ["number"]
  d_upright : Dx K mg "upright" s_upright ["rows"]
  d_multiples_within : Dx K mg "multiples_within" s_multiples_within ["line", "whole", "place", "most"]
  d_points_within : Dx K mg "points_within" s_points_within ["rows", "place", "most"]
  d_nought : Dx K mg "nought" s_nought ["rows"]
  d_is_forward : Dx K mg "is_forward" s_is_forward ["point"]
  d_forward_points : Dx K mg "forward_points" s_forward_points ["rows", "most"]
  d_least_squares : Dx K mg "least_squares" s_least_squares ["rows"]
  d_rows_of : Dx K mg "rows_of" s_rows_of ["n", "numbers"]
  d_are_small : Dx K mg "are_small" s_are_small ["numbers"]
  d_refusal : Dx K mg "refusal" s_refusal ["n", "numbers"]
  d_minima : Dx K mg "minima" s_minima ["n", "b"]
  c_BEYOND : Cn mg "BEYOND" (-2)
  c_WRONG : Cn mg "WRONG" (-3)
  c_MOST_ROWS : Cn mg "MOST_ROWS" (5)
  c_MOST : Cn mg "MOST" (1000)
  b_len : mg "len" = none
  b_range : mg "range" = none
  b_zip : mg "zip" = none
  b_reversed : mg "reversed" = none
  b_list : mg "list" = none
  b_max : mg "max" = none
  b_sorted : mg "sorted" = none
section
variable {P : Program} {w : World} {K : PySem.W.Frag} {mg : Str → Option Value} {base : Heap}
/-! ### a lambda, called -/
abbrev lamF (qual : Str) (params : Arguments) (scope : Scope) (cl : List (Str × Addr)) (c : Addr) : NF := ⟨"<lambda>", qual, params, [], scope, cl, c⟩
abbrev lamO (F : NF) (body : Expr) (pm ctv : Value) : Obj := PySem.W.kla_obj "<lambda>" F.qual F.params body F.scope F.cl pm F.c ctv
theorem lam_call {CX : CXT} {N ps fr : List Str} {F : NF} {f : Addr} {k : Nat} {body : Expr} {pm ctv : Value} {A : Around} {outer : List Env} {s : Shared} {H : Hp} {us : List Value} {vs : List V} {ws : List (Option V)} {Q : VK} {E : XK} {t : TE}
    (S : NScope N ps fr F.scope) (hb : bindArgs (PySem.W.kla_fn "<lambda>" F.qual F.params body F.scope F.cl pm (.ref F.c) ctv) ⟨us, []⟩ = pure (ps.zip us)) (hr : Room (k + 1) A) (e0 : Env0 P w K mg base A outer s H)
    (ho : s.heap.get? f = some (lamO F body pm ctv)) (hc : H F.c = some (CodeO F.c F.qual)) (C : CellsAt F.cl fr ws s.heap H) (r : Vals vs us) (hl : vs.length = ps.length)
    (hbody : Room k (A.deeper (envF F f s.heap.objs.size)) → PE (ncx CX P w K mg base N F f A outer s H E) body t) (q : t (startF N vs ws) H Q) :
    codeAny (model P w) A (.call (.ref f) ⟨us, []⟩) (CR CX outer P w H s Q E) s := by
  have noL : s.heap.NoLimit := e0.mod.nolimit.keeps fun b o e => (e0.bs b o e).1
  refine PySem.W.kla_callFunE (fd := PySem.W.kla_fn "<lambda>" F.qual F.params body F.scope F.cl pm (.ref F.c) ctv) hr.depth ho rfl S.co S.gen rfl (codeO_at e0.hok hc) ?_
  rw [hb]
  refine wpAny_pure (wpAny_newFunctionEnv S.nocell (fun y hy => S.par y.1 (List.of_mem_zip hy).1) (fun h₁ new same => ⟨noL.fresh _ same, ?_⟩) S.kind)
  have stay : ∀ b o, s.heap.get? b = some o → h₁.get? b = some o := fun b o e => same.extBut b o (Nat.ne_of_lt (Heap.lt_size e)) (Heap.get?_push_of_some _ e)
  have J : Inv (ncx CX P w K mg base N F f A outer s H E) [] (startF N vs ws) H { s with heap := h₁, toks := s.toks + (ps.zip us).length } := inv_startN S hr.hd e0 hl r C new stay
  refine PySem.W.kla_codeExpr (wpAny_mono ((hbody (hr.deeper _)).run [] _ _ H Q J q) (fun v s' z => ?_) fun _ _ z => z)
  obtain ⟨x, H', J', rv, z⟩ := z
  exact ⟨x, H', J'.os, J'.bare, J'.base, J'.hok, rv, z⟩
/-! ### lists of numbers compared -/
theorem less_first : ∀ {x y : List Int} {b : Bool}, x.length = y.length → SeqAt.firstLt (fun j => decide (x.getD j 0 = y.getD j 0)) (fun j => decide (x.getD j 0 < y.getD j 0)) b (List.range x.length) = (Si18.less x y || (decide (x = y) && b))
  | [], [], b, _ => by simp [SeqAt.firstLt, Si18.less]
  | [], _ :: _, _, e => by cases e
  | _ :: _, [], _, e => by cases e
  | a :: x, c :: y, b, e => by
    have e' : x.length = y.length := by simpa using e
    rw [List.length_cons, List.range_succ_eq_map]
    by_cases h : a = c
    · subst h
      rw [SeqAt.firstLt_yes (by simp), PySem.W.firstLt_map]
      have q := less_first (b := b) e'
      simp only [Nat.succ_eq_add_one, List.getD_cons_succ]
      rw [q, Gst.less_cons]
      simp
    · rw [SeqAt.firstLt_no (by simpa using h)]
      rw [Gst.less_cons]
      simp [h]
theorem lists_less {A : Around} {s : Shared} {l b : Addr} {us vs : List Value} {x y : List Int} (hl : s.heap.IsList l us.toArray) (hb : s.heap.IsList b vs.toArray) (hx : IntsAre us x) (hy : IntsAre vs y) (e : x.length = y.length) (hu : A.units < cLine) :
    SeqAt.RcLt A s (.ref l) (.ref b) (Si18.less x y) := by
  have e1 : us.length = x.length := hx.length
  have e2 : vs.length = y.length := hy.length
  have g : ∀ {zs : List Value} {z : List Int}, IntsAre zs z → ∀ j (h : j < zs.toArray.size), ∃ t, zs.toArray[j] = .int (z.getD j 0) t := fun {zs z} hz j h => by
    have hj : j < z.length := by rw [← hz.length]; simpa using h
    obtain ⟨t, q⟩ := hz.get j (z.getD j 0) (by rw [List.getD_eq_getElem?_getD, List.getElem?_eq_getElem hj]; rfl)
    refine ⟨t, ?_⟩
    rw [List.getElem_toArray]
    exact Option.some.inj ((List.getElem?_eq_getElem _).symm.trans q)
  have q := SeqAt.RcLt.lists (A := A) (s := s) (e := fun j => decide (x.getD j 0 = y.getD j 0)) (r := fun j => decide (x.getD j 0 < y.getD j 0)) hl hb hu (fun j h1 h2 => ?_) (fun j h1 h2 _ => ?_)
  · rw [show min us.toArray.size vs.toArray.size = x.length by simp; omega, show decide (us.toArray.size < vs.toArray.size) = false by simp; omega, less_first e] at q
    simpa using q
  · obtain ⟨t, p1⟩ := g hx j h1
    obtain ⟨t2, p2⟩ := g hy j h2
    rw [p1, p2]
    exact SeqAt.EqAt.int_int _ _ _ _
  · obtain ⟨t, p1⟩ := g hx j h1
    obtain ⟨t2, p2⟩ := g hy j h2
    rw [p1, p2]
    exact fun prog w E Q h => HT.rcLt_int _ _ _ _ _ _ prog w E Q h
/-! ### the least by a key: min(xs, key=f) -/
section
variable {X : Cx} {pf : List (Addr × Obj)} {σ : L2.St} {f a I S : Addr} {xs : List V} {ky : Nat → List Int} {len : Nat} {H0 : Hp} {R : Result → Shared → Prop}
/-- what f gives of each item: a list of numbers that is new -/
def KeyAt (X : Cx) (pf : List (Addr × Obj)) (σ : L2.St) (f : Addr) (xs : List V) (ky : Nat → List Int) (H0 : Hp) : Prop :=
  ∀ (i : Nat) (x : V) (v : Value) (pp : List (Addr × Obj)) (s' : Shared) (H' : Hp) (E : Value → Shared → Prop), xs[i]? = some x → RelV x v → Same H0 H' → Inv X (pf ++ pp) σ H' s' →
    wpAny (model X.prog X.w) X.A.in1 (call (.ref f) [v]) (fun u s'' => ∃ p H'', u = .ref p ∧ Inv X (pf ++ pp) σ H'' s'' ∧ Same H' H'' ∧ H'' p = some (.lst (iv (ky i)))) E s'
/-- an address of ours that nothing else has -/
def Free0 (X : Cx) (pf : List (Addr × Obj)) (b : Addr) : Prop := b ≠ X.env.locals ∧ b ∉ X.fs ∧ (b ∈ X.ex ∨ X.s_0.heap.objs.size ≤ b) ∧ (∀ x c, X.env.cells.lookup x = some c → c ≠ b) ∧ ∀ p ∈ X.pn ++ pf, p.1 ≠ b
theorem pin2 {H : Hp} {s : Shared} {b c : Addr} {o u : Obj} (J : Inv X pf σ H s) (e : s.heap.get? b = some o) (n : H b = none) (fb : Free0 X pf b) (d : ∀ v, o.data ≠ .cell v) (e2 : s.heap.get? c = some u) (n2 : H c = none) (fc : Free0 X pf c) (d2 : ∀ v, u.data ≠ .cell v) :
    Inv X (pf ++ [(b, o), (c, u)]) σ H s := J.pins_of fun p hp => by
  rcases List.mem_append.mp hp with hp | hp
  · exact J.pin p (List.mem_append_right _ hp)
  · rcases List.mem_cons.mp hp with rfl | hp
    · exact ⟨e, n, fb.1, fb.2.1, d⟩
    · rw [List.mem_singleton.mp hp]
      exact ⟨e2, n2, fc.1, fc.2.1, d2⟩
theorem turn0 {H : Hp} {s : Shared} {b : Addr} {h' : Heap} {t' : Nat} (J : Inv X pf σ H s) (n : H b = none) (fb : Free0 X pf b) (k : ∀ x o, x ≠ b → s.heap.get? x = some o → h'.get? x = some o) : Inv X pf σ H { s with heap := h', toks := t' } :=
  J.turned k n fb.1 fb.2.2.1 fb.2.2.2.1 fb.2.2.2.2
abbrev bestO (vb : Value) (pb : Addr) (c : Nat) : Obj := seqObj "list" #[vb, .ref pb] c
theorem ints_at {X : Cx} {pf : List (Addr × Obj)} {σ : L2.St} {H : Hp} {s : Shared} {p : Addr} {x : List Int} (J : Inv X pf σ H s) (e : H p = some (.lst (iv x))) : ∃ us : List Value, IntsAre us x ∧ s.heap.IsList p us.toArray := by
  obtain ⟨us, r, pl, _⟩ := J.list (.of e)
  exact ⟨us, r.ints, pl.isList⟩
theorem min_loop (hcalm : X.calm = true) (hu : X.A.in1.units < cLine) (hq : SqL X.K H0 a xs) (hk : KeyAt X pf σ f xs ky H0) (hn : ∀ i, i < xs.length → (ky i).length = len) (fS : Free0 X pf S) (fI : Free0 X pf I) (ne : S ≠ I)
    (hR : ∀ i x v H' s', xs[i]? = some x → RelV x v → (∀ j, j < xs.length → Si18.less (ky j) (ky i) = false) → Same H0 H' → Inv X pf σ H' s' → R (.ok (.ret v)) s') :
    ∀ (r j i : Nat) (s : Shared) (H : Hp) (x : V) (vb : Value) (pb : Addr) (c : Nat), xs.length - (j + 1) = r → j + 1 ≤ xs.length → i < xs.length → Inv X pf σ H s → Same H0 H → s.heap.get? S = some (bestO vb pb c) → H S = none → H I = none →
      s.heap.IsListIter I a (j + 1) → xs[i]? = some x → RelV x vb → H pb = some (.lst (iv (ky i))) → (∀ j', j' ≤ j → Si18.less (ky j') (ky i) = false) →
      codeAny (model X.prog X.w) X.A (.builtin "min.loop" ⟨[.ref I, .ref f, .ref S], []⟩) R s := by
  have again_ : toString "min" ++ toString ".loop" = ("min.loop" : String) := by decide
  intro r
  induction r with
  | zero =>
    intro j i s H x vb pb c hr hj hi J sm gS nS nI hit hx rx kb best
    obtain ⟨its, rv, pl, _⟩ := J.list (sm.seq hq)
    have hlen := rv.length
    refine codeAny_builtin PySem.F.entry_min_loop ?_
    rw [Around.under_plainId (id := "min.loop") PySem.F.plain_min_loop]
    refine wpAny_bind (m := seqItems? (.ref S)) (wpAny_seqItems gS rfl ?_)
    refine wpAny_bind (wpAny_tryCatch (m := pyNext (.ref I)) (wpAny_pyNext_list_end (A := X.A.in1) (J.ok.hd hcalm) hit pl.isList (Array.getElem?_eq_none (by rw [List.size_toArray]; omega)) fun h' kp => ?_))
    have J1 : Inv X pf σ H { s with heap := h' } := turn0 (t' := s.toks) J nI fI fun b o hb e => kp b o hb e
    have gS1 := kp S _ ne gS
    refine wpAny_bind (m := updateSeq S fun _ => #[]) (wpAny_updateSeq gS1 rfl (wpAny_bind (wpAny_letGo (wpAny_pure ?_))))
    refine hR i x vb H _ hx rx (fun j' hj' => best j' (by omega)) sm (turn0 (t' := s.toks) J1 nS fS fun b o hb e => ?_)
    exact ((Heap.SameBut.update h' S _).2 b hb).trans e
  | succ r ih =>
    intro j i s H x vb pb c hr hj hi J sm gS nS nI hit hx rx kb best
    have lt : j + 1 < xs.length := by omega
    obtain ⟨its, rv, pl, _⟩ := J.list (sm.seq hq)
    obtain ⟨v, hv, rvv⟩ := rv.get (i := j + 1) (List.getElem?_eq_getElem lt)
    refine codeAny_builtin PySem.F.entry_min_loop ?_
    rw [Around.under_plainId (id := "min.loop") PySem.F.plain_min_loop]
    refine wpAny_bind (m := seqItems? (.ref S)) (wpAny_seqItems gS rfl ?_)
    refine wpAny_bind (wpAny_tryCatch (m := pyNext (.ref I)) (wpAny_pyNext_list_item hit pl.isList (x := v) (by simpa using hv) fun h' st' sb => ?_))
    have J1 : Inv X pf σ H { s with heap := h' } := turn0 (t' := s.toks) J nI fI fun b o hb e => (sb.2 b hb).trans e
    have gS1 : h'.get? S = some (bestO vb pb c) := (sb.2 S ne).trans gS
    obtain ⟨oI, eI, cI, dI⟩ := id st'
    have J2 := pin2 J1 gS1 nS fS (fun v z => nomatch z) eI nI fI (fun v z => by rw [dI] at z; cases z)
    refine wpAny_bind (wpAny_tryCatch (wpAny_holding (m := call (.ref f) [v]) (wpAny_mono (hk (j + 1) _ v _ _ H _ (List.getElem?_eq_getElem lt) rvv sm J2) (fun u s2 z => ?_) fun _ _ z => z)))
    obtain ⟨p, H2, rfl, J3, s3, kp⟩ := z
    have sm2 := sm.trans s3
    have pS := J3.pin (S, bestO vb pb c) (by simp)
    have pI := J3.pin (I, oI) (by simp)
    have J4 : Inv X pf σ H2 s2 := J3.unpinned
    have hit2 : s2.heap.IsListIter I a (j + 1 + 1) := ⟨oI, pI.1, cI, dI⟩
    obtain ⟨us, iu, lu⟩ := ints_at J4 kp
    obtain ⟨vs, iv', lv⟩ := ints_at J4 (s3 _ _ kb)
    refine wpAny_bind (wpAny_tryCatch (wpAny_holding (wpAny_bind (m := richCompare .Lt (.ref p) (.ref pb)) (lists_less lu lv iu iv' ((hn _ lt).trans (hn _ hi).symm) hu X.prog X.w _ _ ?_))))
    refine wpAny_bind (wpAny_holding (wpAny_truthy_bool (wpAny_bind (wpAny_letGo (wpAny_pure ?_)))))
    by_cases hb : Si18.less (ky (j + 1)) (ky i) = true
    · rw [if_pos hb]
      refine wpAny_bind (m := updateSeq S fun _ => #[v, .ref p]) (wpAny_updateSeq pS.1 rfl (wpAny_bind (wpAny_letGo ?_)))
      rw [again_]
      have J5 : Inv X pf σ H2 { s2 with heap := s2.heap.update S (Obj.mapSeq fun _ => #[v, .ref p]) } := turn0 (t' := s2.toks) J4 pS.2.1 fS fun b o hb e => ((Heap.SameBut.update s2.heap S _).2 b hb).trans e
      refine wpAny_pure ⟨plainId_quiet PySem.F.plain_min_loop _, ih (j + 1) (j + 1) _ H2 _ v p _ (by omega) lt lt J5 sm2 (get?_update_seq pS.1 fun _ => #[v, .ref p]) pS.2.1 pI.2.1 ⟨oI, ((Heap.SameBut.update s2.heap S _).2 I ne.symm).trans pI.1, cI, dI⟩ (List.getElem?_eq_getElem lt) rvv kp fun j' hj' => ?_⟩
      by_cases e : j' = j + 1
      · rw [e]
        exact Gst.less_irrefl _
      · exact Gst.less_keep ((hn _ (by omega)).trans (hn _ hi).symm) ((hn _ hi).trans (hn _ lt).symm) (best j' (by omega)) hb
    · rw [if_neg hb]
      refine wpAny_bind (wpAny_letGo ?_)
      rw [again_]
      refine wpAny_pure ⟨plainId_quiet PySem.F.plain_min_loop _, ih (j + 1) i _ H2 x vb pb c (by omega) lt hi J4 sm2 pS.1 pS.2.1 pI.2.1 hit2 hx rx (s3 _ _ kb) fun j' hj' => ?_⟩
      by_cases e : j' = j + 1
      · rw [e]
        simpa using hb
      · exact best j' (by omega)
/-- min(xs, key=f) -/
theorem min_call (hcalm : X.calm = true) (hu : X.A.in1.units < cLine) {H : Hp} {s : Shared} {Q : Value → Shared → Prop} {E : Value → Shared → Prop} (J : Inv X pf σ H s) (hq : SqL X.K H a xs) (h0 : 0 < xs.length) (hk : KeyAt X pf σ f xs ky H) (hn : ∀ i, i < xs.length → (ky i).length = len)
    (hR : ∀ i x v H' s', xs[i]? = some x → RelV x v → (∀ j, j < xs.length → Si18.less (ky j) (ky i) = false) → Same H H' → Inv X pf σ H' s' → Q v s') :
    wpAny (model X.prog X.w) X.A (call (.builtin "min") [.ref a] [(Str.ofString "key", .ref f)]) Q E s := by
  have again_ : toString "min" ++ toString ".loop" = ("min.loop" : String) := by decide
  obtain ⟨its, rv, pl, _⟩ := J.list hq
  obtain ⟨v, hv, rvv⟩ := rv.get (i := 0) (List.getElem?_eq_getElem h0)
  refine kmk_tree PySem.F.kind_min PySem.F.plain_min PySem.F.entry_min (kmk_min_key _ _) ?_
  refine wpAny_bind (m := Builtin.Builtins.bindParams "min" ["key", "default"] 0 ⟨[], [(Str.ofString "key", .ref f)]⟩) (wpAny_of_eq (a := [some (Value.ref f), none]) rfl (wpAny_bind (wpAny_pure ?_)))
  refine wpAny_bind (wpAny_pyIter_list pl.isList (wpAny_bind (wpAny_newList ?_ (Nat.zero_le _))))
  rw [again_]
  have sz : (s.heap.push { cls := .type "list_iterator", data := .fields #[.ref a, .int 0 0] }).objs.size = s.heap.objs.size + 1 := size_push' ..
  have fr : ∀ b, s.heap.objs.size ≤ b → H b = none ∧ Free0 X pf b := fun b hb => by
    have q := J.fpOk (H' := H) hb (J.hok.fresh hb)
    exact ⟨q.1, q.2⟩
  obtain ⟨nI, fI⟩ := fr _ (Nat.le_refl _)
  obtain ⟨nS, fS⟩ := fr (s.heap.push { cls := .type "list_iterator", data := .fields #[.ref a, .int 0 0] }).objs.size (by rw [sz]; omega)
  have ne : (s.heap.push { cls := .type "list_iterator", data := .fields #[.ref a, .int 0 0] }).objs.size ≠ s.heap.objs.size := by rw [sz]; omega
  have gI : ((s.heap.push { cls := .type "list_iterator", data := .fields #[.ref a, .int 0 0] }).push (seqObj "list" #[] 0)).get? s.heap.objs.size = some { cls := .type "list_iterator", data := .fields #[.ref a, .int 0 0] } := Heap.get?_push_of_some _ (Heap.get?_push_size _ rfl)
  have gS : ((s.heap.push { cls := .type "list_iterator", data := .fields #[.ref a, .int 0 0] }).push (seqObj "list" #[] 0)).get? (s.heap.push { cls := .type "list_iterator", data := .fields #[.ref a, .int 0 0] }).objs.size = some (seqObj "list" #[] 0) := Heap.get?_push_size _ rfl
  have J0 : Inv X pf σ H { s with heap := (s.heap.push { cls := .type "list_iterator", data := .fields #[.ref a, .int 0 0] }).push (seqObj "list" #[] 0) } := J.kept (t' := s.toks) fun b o e => Heap.get?_push_of_some _ (Heap.get?_push_of_some _ e)
  generalize (s.heap.push { cls := .type "list_iterator", data := .fields #[.ref a, .int 0 0] }).objs.size = S at *
  generalize s.heap.objs.size = I at *
  generalize hp2 : (s.heap.push { cls := .type "list_iterator", data := .fields #[.ref a, .int 0 0] }).push (seqObj "list" #[] 0) = h2 at *
  refine wpAny_pure ⟨plainId_quiet PySem.F.plain_min_loop _, codeAny_builtin PySem.F.entry_min_loop ?_⟩
  rw [Around.under_plainId (id := "min.loop") PySem.F.plain_min_loop]
  refine wpAny_bind (m := seqItems? (.ref S)) (wpAny_seqItems gS rfl ?_)
  obtain ⟨its, rv, pl, _⟩ := J0.list hq
  obtain ⟨v, hv, rvv⟩ := rv.get (i := 0) (List.getElem?_eq_getElem h0)
  refine wpAny_bind (wpAny_tryCatch (m := pyNext (.ref I)) (wpAny_pyNext_list_item (i := 0) ⟨_, gI, rfl, rfl⟩ pl.isList (x := v) (by simpa using hv) fun h' st' sb => ?_))
  have J1 : Inv X pf σ H { s with heap := h' } := turn0 (s := { s with heap := h2 }) (t' := s.toks) J0 nI fI fun b o hb e => (sb.2 b hb).trans e
  have gS1 : h'.get? S = some (seqObj "list" #[] 0) := (sb.2 S ne).trans gS
  obtain ⟨oI, eI, cI, dI⟩ := id st'
  have J2 := pin2 J1 gS1 nS fS (fun v z => nomatch z) eI nI fI (fun v z => by rw [dI] at z; cases z)
  refine wpAny_bind (wpAny_tryCatch (wpAny_holding (m := call (.ref f) [v]) (wpAny_mono (hk 0 _ v _ _ H _ (List.getElem?_eq_getElem h0) rvv (fun _ _ e => e) J2) (fun u s2 z => ?_) fun _ _ z => z)))
  obtain ⟨p, H2, rfl, J3, s3, kp⟩ := z
  have pS := J3.pin (S, seqObj "list" #[] 0) (by simp)
  have pI := J3.pin (I, oI) (by simp)
  have J4 : Inv X pf σ H2 s2 := J3.unpinned
  refine wpAny_bind (m := updateSeq S fun _ => #[v, .ref p]) (wpAny_updateSeq pS.1 rfl ?_)
  rw [again_]
  have J5 : Inv X pf σ H2 { s2 with heap := s2.heap.update S (Obj.mapSeq fun _ => #[v, .ref p]) } := turn0 (t' := s2.toks) J4 pS.2.1 fS fun b o hb e => ((Heap.SameBut.update s2.heap S _).2 b hb).trans e
  refine wpAny_pure ⟨plainId_quiet PySem.F.plain_min_loop _, min_loop hcalm hu hq hk hn fS fI ne ?_ _ 0 0 _ H2 _ v p _ rfl h0 h0 J5 s3 (get?_update_seq pS.1 fun _ => #[v, .ref p]) pS.2.1 pI.2.1 ⟨oI, ((Heap.SameBut.update s2.heap S _).2 I ne.symm).trans pI.1, cI, dI⟩ (List.getElem?_eq_getElem h0) rvv kp fun j' hj' => ?_⟩
  · intro i x v H' s' h1 h2 h3 h4 h5
    exact hR i x v H' s' h1 h2 h3 h4 h5
  · rw [show j' = 0 by omega]
    exact Gst.less_irrefl _
end
/-! ### min(e, key=lambda point: ..) -/
section
variable {X : Cx}
theorem same_ref {H : Hp} : Same H H := fun _ _ e => e
theorem lst_extN {H H' : Hp} {a : Addr} {xs : List V} (e : ExtN H H') (h : H a = some (.lst xs)) : H' a = some (.lst xs) := e a _ h fun ps z => by cases z
/-- the made function as a pin -/
theorem pin_fn {pins : List (Addr × Obj)} {σ : L2.St} {H : Hp} {s : Shared} {f : Addr} {o : Obj} {fd : FuncData} (J : Inv X pins σ H s) (e : s.heap.get? f = some o) (ho : o.data = .func fd) (n : H f = none) (nf : f ∉ frs X.stack) : Inv X (pins ++ [(f, o)]) σ H s := J.pins_of fun p hp => by
  rcases List.mem_append.mp hp with hp | hp
  · exact J.pin p (List.mem_append_right _ hp)
  · rw [List.mem_singleton.mp hp]
    refine ⟨e, n, fun z => ?_, fun z => nf ?_, fun v z => ?_⟩
    · obtain ⟨m, ⟨o', es, ep, e', d', _⟩, _⟩ := J.loc
      have z : f = X.env.locals := z
      rw [← z, e] at e'
      cases e'
      rw [ho] at d'
      cases d'
    · rcases J.ok.stk with q | ⟨q, hf⟩
      · rw [q]
        exact z
      · rw [q]
        unfold frs
        rw [List.filterMap_cons, hf]
        exact List.mem_cons_of_mem _ z
    · have z : o.data = .cell v := z
      rw [ho] at z
      cases z
/-- what is wanted of the key's reading t -/
def KeyT (t : TE) (N : List Str) (js : List Nat) (σ : L2.St) (xs : List V) (ky : Nat → List Int) (H : Hp) : Prop :=
  ∀ i x H', xs[i]? = some x → Same H H' → t (startF N [x] (js.map (slotAt σ))) H' fun v H'' => ∃ p, v = .ref p ∧ Same H' H'' ∧ H'' p = some (.lst (iv (ky i)))
def tMinKey (T : List (Addr × Str)) (ta : TA) (t : TE) (N : List Str) (js : List Nat) : TE := fun σ H Q => ta σ H fun vs H1 => ∃ (a : Addr) (xs : List V) (ky : Nat → List Int) (len : Nat), vs = [.ref a] ∧ H1 a = some (.lst xs) ∧ 0 < xs.length ∧ Tabs T H1 ∧ (∀ i, i < xs.length → (ky i).length = len) ∧
  ∀ H2, ExtN H1 H2 → KeyT t N js σ xs ky H2 ∧ ∀ i x H', xs[i]? = some x → (∀ j, j < xs.length → Si18.less (ky j) (ky i) = false) → Same H2 H' → Q x H'
theorem key_at {pins : List (Addr × Obj)} {σ : L2.St} {H1 : Hp} {f c' : Addr} {pm ctv : Value} {params : Arguments} {body : Expr} {scope : Scope} {N fr : List Str} {x0 : Str} {js : List Nat} {k : Nat} {t : TE} {xs : List V} {ky : Nat → List Int}
    (S : NScope N [x0] fr scope) (hfree : ∀ y ∈ scope.names, y.2 = .free → X.env.scope.names.lookup y.1 = some .cell ∨ X.env.scope.names.lookup y.1 = some .free) (hfr : ∀ y ∈ fr, (y, NameKind.free) ∈ scope.names) (hjs : js.map (fun j => X.N[j]?) = fr.map some)
    (hb : ∀ (q : Str) (cl : List (Str × Addr)) (pm cv ctv u : Value), bindArgs (PySem.W.kla_fn "<lambda>" q params body scope cl pm cv ctv) ⟨[u], []⟩ = pure [(x0, u)]) (hr : Room (k + 2) X.A)
    (hbody : ∀ (ql : Str) (cl : List (Str × Addr)) (c' f : Addr) (A : Around) (outer : List Env) (s : Shared) (H : Hp), Room k (A.deeper (envF (lamF ql params scope cl c') f s.heap.objs.size)) → PE (ncx CX0 X.prog X.w X.K X.mg X.base N (lamF ql params scope cl c') f A outer s H E0) body t)
    (hc : H1 c' = some (CodeO c' (X.env.qual ++ "<lambda>"))) (ht : KeyT t N js σ xs ky H1) :
    KeyAt X (pins ++ [(f, lamO (lamF (X.env.qual ++ "<lambda>") params scope (cloFrom X.env.cells scope.names []) c') body pm ctv)]) σ f xs ky H1 := by
  intro i x v pp s' H' E hx rx sm J
  have pf := J.pin (f, lamO (lamF (X.env.qual ++ "<lambda>") params scope (cloFrom X.env.cells scope.names []) c') body pm ctv) (by simp)
  refine wpAny_call (codeAny_mono (lam_call (F := lamF (X.env.qual ++ "<lambda>") params scope (cloFrom X.env.cells scope.names []) c') (ps := [x0]) (us := [v]) (vs := [x]) (E := E0) (k := k) S (hb _ _ _ _ _ v) (hr.in1) J.env0.in1 pf.1 (sm _ _ hc)
    (cells_of J (Caps.made J.ok hfree hfr hjs)) (.cons rx .nil) rfl (fun r' => hbody _ _ _ f _ _ _ _ r') (ht i x H' hx sm)) fun r s'' hq => ?_)
  cases r with
  | error e => exact hq.elim
  | ok fl =>
    cases fl with
    | next => exact False.elim hq
    | brk => exact False.elim hq
    | cont => exact False.elim hq
    | ret u =>
      obtain ⟨y, H'', J', ry, p, ey, s2, kp⟩ := J.after hq
      subst ey
      cases ry
      exact ⟨p, H'', rfl, J', s2, kp⟩
theorem pe_minkey {T : List (Addr × Str)} {c P : Addr} {e : Expr} {ta : TA} {p pos kp lp : Pos} {params : Arguments} {body : Expr} {scope : Scope} {N fr : List Str} {x0 : Str} {js : List Nat} {k : Nat} {t : TE}
    (hg : Gl X "min") (hm : X.mg "min" = none) (ha : PA X [e] ta) (hcalm : X.calm = true) (hr : Room (k + 2) X.A)
    (TB : TabB X.base X.mg c P) (hcode : X.env.code = .ref c) (hmT : (P, X.env.qual ++ "<lambda>") ∈ T) (hu : ∀ p ∈ T, p.1 = P → p.2 = X.env.qual ++ "<lambda>") (hdef : defaultsOf params X.env = ([], []))
    (S : NScope N [x0] fr scope) (hfree : ∀ y ∈ scope.names, y.2 = .free → X.env.scope.names.lookup y.1 = some .cell ∨ X.env.scope.names.lookup y.1 = some .free) (hfr : ∀ y ∈ fr, (y, NameKind.free) ∈ scope.names) (hjs : js.map (fun j => X.N[j]?) = fr.map some)
    (hb : ∀ (q : Str) (cl : List (Str × Addr)) (pm cv ctv u : Value), bindArgs (PySem.W.kla_fn "<lambda>" q params body scope cl pm cv ctv) ⟨[u], []⟩ = pure [(x0, u)])
    (hbody : ∀ (ql : Str) (cl : List (Str × Addr)) (c' f : Addr) (A : Around) (outer : List Env) (s : Shared) (H : Hp), Room k (A.deeper (envF (lamF ql params scope cl c') f s.heap.objs.size)) → PE (ncx CX0 X.prog X.w X.K X.mg X.base N (lamF ql params scope cl c') f A outer s H E0) body t)
    (h1 : backTo pos (starEach [e] X.env) = (false, eval e X.env) :: backTo pos (starEach [] X.env) := by rfl) (h2 : (backTo pos (starEach [e] X.env)).any (·.1) = false := by rfl) :
    PE X (.Call (.Name "min" p) [e] [⟨some "key", .Lambda params body scope lp, kp⟩] pos) (tMinKey T ta t N js) := by
  refine ⟨fun pins s σ H Q I h => ?_⟩
  refine wpAny_Call_Name_kw (ld_blt I hg hm boot_min ?_)
  refine PyProof.Rows.callWith_kw (thn (ha.run pos pins s σ H _ I h) fun us s1 ⟨vs, H1, I1, r1, q1⟩ => ?_) h1 h2
  obtain ⟨a, xs, ky, len, rfl, hl, h0, hT, hn, q⟩ := q1
  obtain rfl := Vals.ref1 r1
  refine kws_cons ?_
  refine lam_make2 I1 TB hcode hmT hu hT hdef (fun y hy e => (hfree y hy e).elim (fun z => I1.ok.has _ (.inl z)) fun z => I1.ok.has _ (.inr z)) fun f c' pm ctv H2 s2 I2 eN T2 hf nf nfr hc => ?_
  refine kws_nil ?_
  obtain ⟨ht, hQ⟩ := q H2 eN
  have J := pin_fn I2 hf rfl nf nfr
  refine min_call (ky := ky) (len := len) hcalm (by have := hr.un; show X.A.units + 1 < cLine; omega) J (.of (lst_extN eN hl)) h0 (key_at S hfree hfr hjs hb hr hbody hc ht) hn fun i x v H' s' hx rx best sm J' => ?_
  exact ⟨x, H', J'.unpinned, rx, hQ i x H' hx best sm⟩
end
/-! ### sorted by a key: sorted(xs, key=f) -/
open PySem.W (EachIs AllAlike Sortable SortsAt KeyedOut KeepsBut dataKind keyToks keyToksAll alike alikeAll dataLe sortLe hideAll)
theorem toks_less : ∀ {x y : List Int}, x.length = y.length → PyProof.Rows.lexLt itemOrd (keyToksAll (x.map PyData.int)) (keyToksAll (y.map PyData.int)) = Si18.less x y
  | [], [], _ => by
    show PyProof.Rows.lexLt itemOrd [.inl 0] [.inl 0] = false
    exact lex_irrefl _
  | [], _ :: _, h => by cases h
  | _ :: _, [], h => by cases h
  | a :: x, c :: y, h => by
    have ih := toks_less (x := x) (y := y) (by simpa using h)
    have e : ∀ (z : Int) (r : List Int), keyToksAll ((z :: r).map PyData.int) = .inl 1 :: .inl z :: keyToksAll (r.map PyData.int) := fun z r => by
      rw [List.map_cons, PySem.W.toks_all_cons]
      rfl
    rw [e, e, lex_cons, lex_cons, ih, Gst.less_cons]
    show (decide ((1 : Int) < 1) || (!decide ((1 : Int) < 1) && (decide (a < c) || (!decide (c < a) && Si18.less x y)))) = _
    by_cases h1 : a < c
    · simp [h1]
    · by_cases h2 : c < a
      · have : ¬ a = c := by omega
        simp [h1, h2, this]
      · have : a = c := by omega
        simp [this]
theorem alike_ints : ∀ (x y : List Int), alikeAll (x.map PyData.int) (y.map PyData.int) = true
  | [], _ => by
    cases ‹List Int› <;> (unfold alikeAll; rfl)
  | _ :: _, [] => by
    unfold alikeAll
    rfl
  | a :: x, c :: y => by
    rw [List.map_cons, List.map_cons]
    unfold alikeAll
    rw [alike_ints x y]
    unfold alike
    rfl
/-- the datum of a key -/
def keyD (x : List Int) : PyData := .list (x.map PyData.int)
theorem keyD_alike (x y : List Int) : alike (keyD x) (keyD y) = true := by
  unfold keyD alike
  exact alike_ints x y
theorem reads_ints {h : Heap} : ∀ {us : List Value} {x : List Int}, IntsAre us x → ∃ as, ReadsAll h us (x.map PyData.int) as
  | _, _, .nil => ⟨[], .nil⟩
  | _, _, .cons n t r => by
    obtain ⟨as, q⟩ := reads_ints (h := h) r
    exact ⟨_, .cons (.int n t) q⟩
theorem reads_key {X : Cx} {pf : List (Addr × Obj)} {σ : L2.St} {H : Hp} {s : Shared} {p : Addr} {x : List Int} (J : Inv X pf σ H s) (e : H p = some (.lst (iv x))) : ∃ as, Reads s.heap (.ref p) (keyD x) as := by
  obtain ⟨us, iu, ⟨o, ho, hc, n, hd⟩⟩ := ints_at J e
  obtain ⟨as, q⟩ := reads_ints (h := s.heap) iu
  exact ⟨_, .list ho hc hd (by simpa using q)⟩
theorem depth_ints : ∀ x : List Int, PyData.depthAll (x.map PyData.int) ≤ 1
  | [] => by
    rw [List.map_nil]
    show 0 ≤ 1
    omega
  | a :: x => by
    have ih := depth_ints x
    rw [List.map_cons]
    unfold PyData.depthAll
    unfold PyData.depth
    omega
theorem depth_key (x : List Int) : (keyD x).depth ≤ 2 := by
  have := depth_ints x
  unfold keyD PyData.depth
  omega
section
variable {X : Cx} {pf : List (Addr × Obj)} {σ : L2.St} {f a : Addr} {xs : List V} {fw : List (List Int)} {g : List Int → List Int} {len : Nat}
/-- .. at the depth at which sorted calls it -/
def KeyAt2 (X : Cx) (pf : List (Addr × Obj)) (σ : L2.St) (f : Addr) (xs : List V) (ky : Nat → List Int) (H0 : Hp) : Prop :=
  ∀ (i : Nat) (x : V) (v : Value) (pp : List (Addr × Obj)) (s' : Shared) (H' : Hp) (E : Value → Shared → Prop), xs[i]? = some x → RelV x v → Same H0 H' → Inv X (pf ++ pp) σ H' s' →
    wpAny (model X.prog X.w) X.A.in1.in1 (call (.ref f) [v]) (fun u s'' => ∃ p H'', u = .ref p ∧ Inv X (pf ++ pp) σ H'' s'' ∧ Same H' H'' ∧ H'' p = some (.lst (iv (ky i)))) E s'
/-- values of rows -/
def RowIs (H : Hp) (v : Value) (x : List Int) : Prop := ∃ p : Addr, v = .ref p ∧ H p = some (.lst (iv x))
theorem each_rows {H : Hp} : ∀ {xs : List V} {its : List Value} {fw : List (List Int)}, RowsV H xs fw → Vals xs its → EachIs (RowIs H) its fw
  | [], _, [], _, r => by
    cases r
    exact .nil
  | [], _, _ :: _, h, _ => by cases h.1
  | _ :: _, _, [], h, _ => by cases h.1
  | x :: xs, _, y :: fw, h, r => by
    cases r with
    | cons r1 r2 =>
      obtain ⟨p, e1, e2⟩ := h.2 0 y rfl
      obtain rfl : x = .ref p := Option.some.inj e1
      cases r1
      exact .cons ⟨p, rfl, e2⟩ (each_rows ⟨by simpa using h.1, fun i z hz => h.2 (i + 1) z hz⟩ r2)
theorem rows_each {H : Hp} : ∀ {its : List Value} {fw : List (List Int)}, EachIs (RowIs H) its fw → ∃ ys, Vals ys its ∧ RowsV H ys fw
  | _, _, .nil => ⟨[], .nil, .nil⟩
  | _, _, .cons ⟨p, e, h⟩ r => by
    obtain ⟨ys, r1, r2⟩ := rows_each r
    subst e
    refine ⟨.ref p :: ys, .cons rfl r1, by simpa using r2.1, fun i z hz => ?_⟩
    cases i with
    | zero =>
      have e : _ = z := Option.some.inj hz
      subst e
      exact ⟨p, rfl, h⟩
    | succ i => exact r2.2 i z hz
theorem each_key {H : Hp} {s : Shared} (J : Inv X pf σ H s) : ∀ {ks : List Value} {zs : List (List Int)}, ks.length = zs.length → (∀ (i : Nat) (z : List Int), zs[i]? = some z → ∃ p : Addr, ks[i]? = some (Value.ref p) ∧ H p = some (.lst (iv z))) → EachIs (fun v d => ∃ as, Reads s.heap v d as) ks (zs.map keyD)
  | [], [], _, _ => .nil
  | [], _ :: _, h, _ => by cases h
  | _ :: _, [], h, _ => by cases h
  | v :: ks, z :: zs, h, k => by
    obtain ⟨p, e1, e2⟩ := k 0 z rfl
    obtain rfl : v = .ref p := Option.some.inj e1
    exact .cons (reads_key J e2) (each_key J (by simpa using h) fun i y hy => k (i + 1) y hy)
/-- two addresses of ours are written: one is a list from now on, the other stays unknown -/
theorem wrote {H : Hp} {s : Shared} {b c : Addr} {h' : Heap} {t' : Nat} {ys : List V} (J : Inv X pf σ H s) (nb : H b = none) (nc : H c = none) (fb : Free0 X pf b) (fc : Free0 X pf c) (k : ∀ x o, x ≠ b → x ≠ c → s.heap.get? x = some o → h'.get? x = some o)
    (new : ObjOk X.prog X.w (upd H b (.lst ys)) h' b (.lst ys)) : Inv X pf σ (upd H b (.lst ys)) { s with heap := h', toks := t' } := by
  have at_ : ∀ x u, H x = some u → upd H b (.lst ys) x = some u := fun x u e => (upd_ne (ne_of_none e nb)).trans e
  have nec : ∀ x u, H x = some u → x ≠ c := fun x u e => ne_of_none e nc
  refine J.step (g' := s.gens) (d' := s.drawn) (ch := [b, c]) (fun x hx => ?_) (fun x o _ _ hc e _ => k x o (fun z => hc (by simp [z])) (fun z => hc (by simp [z])) e) (fun x o _ _ hc e _ => ⟨o.slots, k x o (fun z => hc (by simp [z])) (fun z => hc (by simp [z])) e⟩)
    (fun x o hc e n => (upd_ne fun z => hc (by simp [z])).trans n) (fun x o hc e => ⟨o, k x o (fun z => hc (by simp [z])) (fun z => hc (by simp [z])) e⟩) (fun x ts e => at_ x _ e) (fun x o u e => at_ x _ e) (fun x ps e => ⟨#[], by rw [at_ x _ e]; simp⟩) (fun m hm => ?_) (fun x u e => ?_) J.bare
  · rcases List.mem_cons.mp hx with rfl | hx
    · exact ⟨fb.2.2.1, fb.1, fb.2.2.2.1, fb.2.2.2.2⟩
    · rw [List.mem_singleton.mp hx]
      exact ⟨fc.2.2.1, fc.1, fc.2.2.2.1, fc.2.2.2.2⟩
  · obtain ⟨o, es, ep, ho, r⟩ := hm
    exact ⟨o, es, ep, k _ o (Ne.symm fb.1) (Ne.symm fc.1) ho, r⟩
  · by_cases hb : x = b
    · rw [hb, upd_same] at e
      cases e
      rw [hb]
      exact new
    · rw [upd_ne hb] at e
      refine (J.hok x u e).stay (fun d v hd q => k d v ?_ ?_ q) (fun d q => at_ d _ q) fun d ts q => at_ d _ q
      · rcases hd with z | z
        · rw [z]
          exact hb
        · exact ne_of_none z nb
      · rcases hd with z | z
        · rw [z]
          exact nec x u e
        · exact nec d _ z
/-- the order of the keys -/
abbrev keyLe (g : List Int → List Int) : List Int → List Int → Bool := dataLe false fun x => keyD (g x)
theorem keyLe_less {x y : List Int} (e : (g x).length = (g y).length) (h : keyLe g x y = true) : Si18.less (g y) (g x) = false := by
  have h : (!PyProof.Rows.lexLt itemOrd (keyToks (keyD (g y))) (keyToks (keyD (g x)))) = true := h
  rw [Bool.not_eq_true'] at h
  rw [← toks_less e.symm]
  exact h
theorem keyLe_sorted (l : List (List Int)) : (l.mergeSort (keyLe g)).Pairwise fun x y => keyLe g x y = true := by
  have T := PySem.W.sortLe_total (listOrd itemOrd) false fun x => keyToks (keyD (g x))
  exact List.pairwise_mergeSort (fun a b c => T.trans a b c) (fun a b => by
    rw [Bool.or_eq_true]
    exact T.total a b) l
/-- sorted(xs, key=f) -/
theorem sort_call (hu : X.A.units + 8 < cLine) {H : Hp} {s : Shared} {Q : Value → Shared → Prop} {E : Value → Shared → Prop} (J : Inv X pf σ H s) (hq : H a = some (.lst xs)) (hr : RowsV H xs fw) (hz : xs.length ≤ sizeLine) (hk : KeyAt2 X pf σ f xs (fun i => g (Si18.row fw i)) H)
    (hR : ∀ p H' s', H p = none → Same H H' → Inv X pf σ H' s' → RowsAt H' p (fw.mergeSort (keyLe g)) → Q (.ref p) s') :
    wpAny (model X.prog X.w) X.A (call (.builtin "sorted") [.ref a] [(Str.ofString "key", .ref f)]) Q E s := by
  obtain ⟨its, rv, pl, _⟩ := J.list (.of hq)
  have lenI := rv.length
  refine PySem.W.sorted_of_sort pl.isList (by rw [← lenI]; exact hz) (ksk_s1 _ _) (fun _ => ksk_l1 _ _) fun E' => ?_
  rw [ksk_t1]
  unfold ksk_tree
  have cp := PySem.W.copyHeap_at s.heap its
  have old0 : ∀ b o, s.heap.get? b = some o → (PySem.W.copyHeap s.heap its).get? b = some o := fun b o e => PySem.W.copyHeap_old e
  have ge0 : s.heap.objs.size + 1 < (PySem.W.copyHeap s.heap its).objs.size := Heap.lt_size cp
  have fr : ∀ b, s.heap.objs.size ≤ b → H b = none ∧ Free0 X pf b := fun b hb => by
    have q := J.fpOk (H' := H) hb (J.hok.fresh hb)
    exact ⟨q.1, q.2⟩
  obtain ⟨nA, fA⟩ := fr (s.heap.objs.size + 1) (Nat.le_succ _)
  refine wpAny_bind (listItems_at cp rfl ?_)
  refine wpAny_bind (listUpdate_at cp rfl ?_ (by rw [List.size_toArray, ← lenI]; exact hz) (Nat.zero_le _))
  obtain ⟨e1, ho1⟩ : ∃ e1, ((PySem.W.copyHeap s.heap its).update (s.heap.objs.size + 1) (Obj.mapSeq fun _ => (#[] : Array Value))).get? (s.heap.objs.size + 1) = some (seqObj "list" #[] e1) := ⟨_, get?_update_seq cp fun _ => #[]⟩
  refine wpAny_bind (seqEpoch_at ho1 rfl ?_)
  refine wpAny_bind (wpAny_newTuple ?_ (by show its.length ≤ _; rw [← lenI]; exact hz))
  refine wpAny_bind (wpAny_newList ?_ (Nat.zero_le _))
  refine wpAny_holding ?_
  have oldS : ∀ b o, s.heap.get? b = some o → (PySem.W.sortingHeap (PySem.W.copyHeap s.heap its) (s.heap.objs.size + 1) its).get? b = some o := fun b o e =>
    PySem.W.sortingHeap_old (Nat.ne_of_lt (Nat.lt_succ_of_lt (Heap.lt_size e))) (old0 b o e)
  have J0 : Inv X pf σ H { s with heap := PySem.W.sortingHeap (PySem.W.copyHeap s.heap its) (s.heap.objs.size + 1) its } := J.kept (t' := s.toks) oldS
  have szS : (((PySem.W.copyHeap s.heap its).update (s.heap.objs.size + 1) (Obj.mapSeq fun _ => (#[] : Array Value))).push (seqObj "tuple" its.toArray 0)).objs.size = (PySem.W.copyHeap s.heap its).objs.size + 1 := by
    rw [size_push', Heap.size_update]
  obtain ⟨nS, fS⟩ := fr (((PySem.W.copyHeap s.heap its).update (s.heap.objs.size + 1) (Obj.mapSeq fun _ => (#[] : Array Value))).push (seqObj "tuple" its.toArray 0)).objs.size (by rw [szS]; omega)
  have ne : (((PySem.W.copyHeap s.heap its).update (s.heap.objs.size + 1) (Obj.mapSeq fun _ => (#[] : Array Value))).push (seqObj "tuple" its.toArray 0)).objs.size ≠ s.heap.objs.size + 1 := by
    rw [szS]
    omega
  have gS : (PySem.W.sortingHeap (PySem.W.copyHeap s.heap its) (s.heap.objs.size + 1) its).get? (((PySem.W.copyHeap s.heap its).update (s.heap.objs.size + 1) (Obj.mapSeq fun _ => (#[] : Array Value))).push (seqObj "tuple" its.toArray 0)).objs.size = some (seqObj "list" #[] 0) := Heap.get?_push_size _ rfl
  have gA : (PySem.W.sortingHeap (PySem.W.copyHeap s.heap its) (s.heap.objs.size + 1) its).get? (s.heap.objs.size + 1) = some (seqObj "list" #[] e1) := Heap.get?_push_of_some _ (Heap.get?_push_of_some _ ho1)
  show wpAny (model X.prog X.w) X.A.in1.in1 (ksk_rest (s.heap.objs.size + 1) (.ref f) false its.toArray e1 (.ref (((PySem.W.copyHeap s.heap its).update (s.heap.objs.size + 1) (Obj.mapSeq fun _ => (#[] : Array Value))).push (seqObj "tuple" its.toArray 0)).objs.size)) _ _ { s with heap := PySem.W.sortingHeap (PySem.W.copyHeap s.heap its) (s.heap.objs.size + 1) its }
  generalize (((PySem.W.copyHeap s.heap its).update (s.heap.objs.size + 1) (Obj.mapSeq fun _ => (#[] : Array Value))).push (seqObj "tuple" its.toArray 0)).objs.size = kS at *
  generalize PySem.W.sortingHeap (PySem.W.copyHeap s.heap its) (s.heap.objs.size + 1) its = h0 at *
  generalize s.heap.objs.size + 1 = aS at *
  unfold ksk_rest
  refine wpAny_bind (wpAny_rule ?_)
  rw [List.forIn_toArray]
  refine wpAny_bind (ksk_fold (fun j s' => ∃ H' kA e, Inv X pf σ H' s' ∧ Same H H' ∧ H' kS = none ∧ H' aS = none ∧ s'.heap.get? kS = some (seqObj "list" kA e) ∧ s'.heap.get? aS = some (seqObj "list" #[] e1) ∧ kA.size = j ∧
    ∀ i x, i < j → fw[i]? = some x → ∃ p : Addr, kA[i]? = some (Value.ref p) ∧ H' p = some (.lst (iv (g x)))) its 0 _ ⟨H, #[], 0, J0, same_ref, nS, nA, gS, gA, rfl, fun i x hi => absurd hi (Nat.not_lt_zero i)⟩ ?step ?done)
  case step =>
    rintro j v s' hv ⟨H', kA, e, J', sm, nS', nA', gS', gA', hsz, hkeys⟩
    rw [Nat.zero_add] at hsz hkeys ⊢
    have hj : j < xs.length := by
      rw [lenI]
      exact (List.getElem?_eq_some_iff.mp hv).1
    obtain ⟨v', hv', rx⟩ := rv.get (i := j) (List.getElem?_eq_getElem hj)
    obtain rfl : v = v' := Option.some.inj (hv.symm.trans hv')
    have J2 := pin2 J' gS' nS' fS (fun v z => nomatch z) gA' nA' fA (fun v z => nomatch z)
    refine wpAny_bind (wpAny_attempt (wpAny_mono (hk j _ v _ s' H' _ (List.getElem?_eq_getElem hj) rx sm J2) (fun u s2 z => ?_) fun _ _ z => z))
    obtain ⟨p, H2, rfl, J3, s3, kp⟩ := z
    have pS := J3.pin (kS, seqObj "list" kA e) (by simp)
    have pA := J3.pin (aS, seqObj "list" #[] e1) (by simp)
    have J4 : Inv X pf σ H2 s2 := J3.unpinned
    have hle : kA.size ≤ sizeLine := by omega
    refine wpAny_bind (listUpdate_at pS.1 rfl ?_ hle (by rw [Array.size_push]; omega))
    have J5 : Inv X pf σ H2 { s2 with heap := s2.heap.update kS (Obj.mapSeq (·.push (Value.ref p))) } := turn0 (t' := s2.toks) J4 pS.2.1 fS fun b o hb e => ((Heap.SameBut.update s2.heap kS _).2 b hb).trans e
    refine wpAny_pure ⟨rfl, H2, kA.push (.ref p), _, J5, sm.trans s3, pS.2.1, pA.2.1, get?_update_seq pS.1 (·.push (Value.ref p)), ((Heap.SameBut.update s2.heap kS _).2 aS ne.symm).trans pA.1, by rw [Array.size_push, hsz], fun i x hi hx => ?_⟩
    by_cases c : i = j
    · subst c
      refine ⟨p, ?_, ?_⟩
      · rw [← hsz, Array.getElem?_push_size]
      · have ex : Si18.row fw i = x := by
          unfold Si18.row
          rw [List.getD_eq_getElem?_getD, hx]
          rfl
        have kp' : H2 p = some (.lst (iv (g (Si18.row fw i)))) := kp
        rw [ex] at kp'
        exact kp'
    · obtain ⟨p', e1', e2'⟩ := hkeys i x (by omega) hx
      refine ⟨p', ?_, s3 _ _ e2'⟩
      rw [Array.getElem?_push_lt (by omega)]
      have := Array.getElem?_eq_getElem (xs := kA) (i := i) (by omega)
      rw [← this]
      exact e1'
  case done =>
    rintro s' ⟨H', kA, e, J', sm, nS', nA', gS', gA', hsz, hkeys⟩
    rw [Nat.zero_add] at hsz hkeys
    have lenF : its.length = fw.length := by rw [← lenI, hr.1]
    have hkl : EachIs (fun v d => ∃ as, Reads s'.heap v d as) kA.toList ((fw.map g).map keyD) := each_key J' (by rw [Array.length_toList, List.length_map]; omega) fun i z hz => by
      rw [List.getElem?_map] at hz
      cases ex : fw[i]? with
      | none =>
        rw [ex] at hz
        cases hz
      | some x =>
        rw [ex] at hz
        obtain rfl : g x = z := Option.some.inj hz
        have hi : i < fw.length := (List.getElem?_eq_some_iff.mp ex).1
        obtain ⟨p, e1', e2'⟩ := hkeys i x (by omega) ex
        exact ⟨p, by simpa using e1', e2'⟩
    have hal : AllAlike ((fw.map g).map keyD) := fun d hd d' hd' => by
      obtain ⟨x, _, rfl⟩ := List.mem_map.mp hd
      obtain ⟨y, _, rfl⟩ := List.mem_map.mp hd'
      exact keyD_alike x y
    have hso : Sortable ((fw.map g).map keyD) := .inr fun d hd => by
      obtain ⟨x, _, rfl⟩ := List.mem_map.mp hd
      exact ⟨(fun z => by unfold keyD at z; cases z), (fun ts z => by unfold keyD at z; cases z)⟩
    have S : SortsAt X.prog X.w X.A.in1.in1 s' (dataKind s'.heap ((fw.map g).map keyD)) kA.toList := SortsAt.data hkl hal hso fun d hd => by
      obtain ⟨x, _, rfl⟩ := List.mem_map.mp hd
      have := depth_key x
      show X.A.units + 1 + 1 + (keyD x).depth < cLine
      omega
    refine wpAny_bind (listItems_at gS' rfl ?_)
    have kp0 : KeepsBut aS (hideAll s'.heap [kS]) s'.heap := fun b o _ q => PySem.W.of_hideAll [kS] q
    refine PySem.W.keyH_end (vs := its) (h₁ := hideAll s'.heap [kS]) kp0 (PySem.W.hideAll_none [kS] (by simp)) gS' gA' ne S hsz (by rw [← lenI]; exact hz) fun h' tk c kp' gA2 => ⟨rfl, ?_⟩
    have ko : KeyedOut false (fw.map fun x => keyD (g x)) its (PySem.W.sortVals (dataKind s'.heap ((fw.map g).map keyD)) false kA.toList its) := by
      have em : (fw.map fun x => keyD (g x)) = (fw.map g).map keyD := by
        rw [List.map_map]
        rfl
      rw [em]
      exact ⟨s'.heap, kA.toList, hal, rfl, hkl⟩
    have out := PySem.W.keyedOut_each (fun x => keyD (g x)) ko (each_rows (hr.same sm) rv)
    generalize PySem.W.sortVals (dataKind s'.heap ((fw.map g).map keyD)) false kA.toList its = os at *
    obtain ⟨ys, r1, r2⟩ := rows_each out
    have lenO : ys.length = xs.length := by
      rw [r2.1, (List.mergeSort_perm _ _).length_eq, hr.1]
    have J2 : Inv X pf σ (upd H' aS (.lst ys)) { s' with heap := h', toks := tk } := wrote J' nA' nS' fA fS (fun x o h1 h2 q => kp' x o h1 (PySem.W.hideAll_get [kS] q (by simpa using h2))) ⟨by rw [lenO]; exact hz, os, c, r1, gA2⟩
    exact hR aS _ _ nA (sm.trans (same_upd nA')) J2 ⟨ys, upd_same, r2.same (same_upd nA')⟩
end
/-! ### sorted(e, key=lambda point: ..) -/
section
variable {X : Cx}
theorem rows_extN {H H' : Hp} {vs : List V} {m : List (List Int)} (e : ExtN H H') (h : RowsV H vs m) : RowsV H' vs m := ⟨h.1, fun i x hx => by
  obtain ⟨p, e1, e2⟩ := h.2 i x hx
  exact ⟨p, e1, lst_extN e e2⟩⟩
def tSortKey (T : List (Addr × Str)) (ta : TA) (t : TE) (N : List Str) (js : List Nat) : TE := fun σ H Q => ta σ H fun vs H1 => ∃ (a : Addr) (xs : List V) (fw : List (List Int)) (g : List Int → List Int), vs = [.ref a] ∧ H1 a = some (.lst xs) ∧ RowsV H1 xs fw ∧ xs.length ≤ sizeLine ∧ Tabs T H1 ∧
  ∀ H2, ExtN H1 H2 → KeyT t N js σ xs (fun i => g (Si18.row fw i)) H2 ∧ ∀ H' p, H2 p = none → Same H2 H' → RowsAt H' p (fw.mergeSort (keyLe g)) → Q (.ref p) H'
theorem key_at2 {pins : List (Addr × Obj)} {σ : L2.St} {H1 : Hp} {f c' : Addr} {pm ctv : Value} {params : Arguments} {body : Expr} {scope : Scope} {N fr : List Str} {x0 : Str} {js : List Nat} {k : Nat} {t : TE} {xs : List V} {ky : Nat → List Int}
    (S : NScope N [x0] fr scope) (hfree : ∀ y ∈ scope.names, y.2 = .free → X.env.scope.names.lookup y.1 = some .cell ∨ X.env.scope.names.lookup y.1 = some .free) (hfr : ∀ y ∈ fr, (y, NameKind.free) ∈ scope.names) (hjs : js.map (fun j => X.N[j]?) = fr.map some)
    (hb : ∀ (q : Str) (cl : List (Str × Addr)) (pm cv ctv u : Value), bindArgs (PySem.W.kla_fn "<lambda>" q params body scope cl pm cv ctv) ⟨[u], []⟩ = pure [(x0, u)]) (hr : Room (k + 3) X.A)
    (hbody : ∀ (ql : Str) (cl : List (Str × Addr)) (c' f : Addr) (A : Around) (outer : List Env) (s : Shared) (H : Hp), Room k (A.deeper (envF (lamF ql params scope cl c') f s.heap.objs.size)) → PE (ncx CX0 X.prog X.w X.K X.mg X.base N (lamF ql params scope cl c') f A outer s H E0) body t)
    (hc : H1 c' = some (CodeO c' (X.env.qual ++ "<lambda>"))) (ht : KeyT t N js σ xs ky H1) :
    KeyAt2 X (pins ++ [(f, lamO (lamF (X.env.qual ++ "<lambda>") params scope (cloFrom X.env.cells scope.names []) c') body pm ctv)]) σ f xs ky H1 := by
  intro i x v pp s' H' E hx rx sm J
  have pf := J.pin (f, lamO (lamF (X.env.qual ++ "<lambda>") params scope (cloFrom X.env.cells scope.names []) c') body pm ctv) (by simp)
  refine wpAny_call (codeAny_mono (lam_call (F := lamF (X.env.qual ++ "<lambda>") params scope (cloFrom X.env.cells scope.names []) c') (ps := [x0]) (us := [v]) (vs := [x]) (E := E0) (k := k) S (hb _ _ _ _ _ v) (hr.in1.in1) J.env0.in1.in1 pf.1 (sm _ _ hc)
    (cells_of J (Caps.made J.ok hfree hfr hjs)) (.cons rx .nil) rfl (fun r' => hbody _ _ _ f _ _ _ _ r') (ht i x H' hx sm)) fun r s'' hq => ?_)
  cases r with
  | error e => exact hq.elim
  | ok fl =>
    cases fl with
    | next => exact False.elim hq
    | brk => exact False.elim hq
    | cont => exact False.elim hq
    | ret u =>
      obtain ⟨y, H'', J', ry, p, ey, s2, kp⟩ := J.after hq
      subst ey
      cases ry
      exact ⟨p, H'', rfl, J', s2, kp⟩
theorem pe_sortkey {T : List (Addr × Str)} {c P : Addr} {e : Expr} {ta : TA} {p pos kp lp : Pos} {params : Arguments} {body : Expr} {scope : Scope} {N fr : List Str} {x0 : Str} {js : List Nat} {k : Nat} {t : TE}
    (hg : Gl X "sorted") (hm : X.mg "sorted" = none) (ha : PA X [e] ta) (hr : Room (k + 3) X.A)
    (TB : TabB X.base X.mg c P) (hcode : X.env.code = .ref c) (hmT : (P, X.env.qual ++ "<lambda>") ∈ T) (hu : ∀ p ∈ T, p.1 = P → p.2 = X.env.qual ++ "<lambda>") (hdef : defaultsOf params X.env = ([], []))
    (S : NScope N [x0] fr scope) (hfree : ∀ y ∈ scope.names, y.2 = .free → X.env.scope.names.lookup y.1 = some .cell ∨ X.env.scope.names.lookup y.1 = some .free) (hfr : ∀ y ∈ fr, (y, NameKind.free) ∈ scope.names) (hjs : js.map (fun j => X.N[j]?) = fr.map some)
    (hb : ∀ (q : Str) (cl : List (Str × Addr)) (pm cv ctv u : Value), bindArgs (PySem.W.kla_fn "<lambda>" q params body scope cl pm cv ctv) ⟨[u], []⟩ = pure [(x0, u)])
    (hbody : ∀ (ql : Str) (cl : List (Str × Addr)) (c' f : Addr) (A : Around) (outer : List Env) (s : Shared) (H : Hp), Room k (A.deeper (envF (lamF ql params scope cl c') f s.heap.objs.size)) → PE (ncx CX0 X.prog X.w X.K X.mg X.base N (lamF ql params scope cl c') f A outer s H E0) body t)
    (h1 : backTo pos (starEach [e] X.env) = (false, eval e X.env) :: backTo pos (starEach [] X.env) := by rfl) (h2 : (backTo pos (starEach [e] X.env)).any (·.1) = false := by rfl) :
    PE X (.Call (.Name "sorted" p) [e] [⟨some "key", .Lambda params body scope lp, kp⟩] pos) (tSortKey T ta t N js) := by
  refine ⟨fun pins s σ H Q I h => ?_⟩
  refine wpAny_Call_Name_kw (ld_blt I hg hm boot_sorted ?_)
  refine PyProof.Rows.callWith_kw (thn (ha.run pos pins s σ H _ I h) fun us s1 ⟨vs, H1, I1, r1, q1⟩ => ?_) h1 h2
  obtain ⟨a, xs, fw, g, rfl, hl, hR, hz, hT, q⟩ := q1
  obtain rfl := Vals.ref1 r1
  refine kws_cons ?_
  refine lam_make2 I1 TB hcode hmT hu hT hdef (fun y hy e => (hfree y hy e).elim (fun z => I1.ok.has _ (.inl z)) fun z => I1.ok.has _ (.inr z)) fun f c' pm ctv H2 s2 I2 eN T2 hf nf nfr hc => ?_
  refine kws_nil ?_
  obtain ⟨ht, hQ⟩ := q H2 eN
  have J := pin_fn I2 hf rfl nf nfr
  refine sort_call (g := g) (fw := fw) (by have := hr.un; omega) J (lst_extN eN hl) (rows_extN eN hR) hz (key_at2 S hfree hfr hjs hb hr hbody hc ht) fun p H' s' np sm J' r' => ?_
  exact ⟨.ref p, H', J'.unpinned, rfl, hQ H' p np sm r'⟩
end
/-! ### the end of a row whose def makes a lambda -/
open PySem.W (WData Codec OpenSpec WellAll ReadsW) in
section
mutual
theorem dw_same {K : PySem.W.Frag} {H H' : Hp} (s : Same H H') : ∀ (d : WData) (v : V), Dw K H v d → Dw K H' v d
  | .none, _, x => by cases x; exact .non
  | .bool b, _, x => by cases x; exact .bl b
  | .int i, _, x => by cases x; exact .int i
  | .str t, _, x => by cases x; exact .str t
  | .bytes l, _, x => by
    cases x with
    | byt b => exact .byt b
  | .list ds, _, x => by
    cases x with
    | lst h1 h2 => exact .lst (s.seq h1) (dw_sameAll s ds _ h2)
  | .tuple ds, _, x => by
    cases x with
    | tup h1 h2 =>
      refine .tup ?_ (dw_sameAll s ds _ h2)
      rcases h1 with (h1 | ⟨o, h1⟩) | h1
      · exact .inl (.inl (s _ _ h1))
      · exact .inl (.inr ⟨o, s _ _ h1⟩)
      · exact .inr h1
  | .float _, _, x => by cases x
  | .dict _, _, x => by cases x
  | .bytearray _, _, x => by cases x
  | .set _, _, x => by cases x
  | .frozenset _, _, x => by cases x
  | .obj _ _, _, x => by cases x
theorem dw_sameAll {K : PySem.W.Frag} {H H' : Hp} (s : Same H H') : ∀ (ds : List WData) (vs : List V), DwAll K H vs ds → DwAll K H' vs ds
  | [], _, x => by cases x; exact .nil
  | d :: ds, _, x => by
    cases x with
    | cons h1 h2 => exact .cons (dw_same s d _ h1) (dw_sameAll s ds _ h2)
end
/-- the table tracked ahead of all else -/
def withTab (Pt : Addr) (H : Hp) : Hp := fun b => if b = Pt then some (.tbl #[]) else H b
theorem withTab_at {Pt : Addr} {H : Hp} : withTab Pt H Pt = some (.tbl #[]) := if_pos rfl
theorem withTab_ne {Pt b : Addr} {H : Hp} (h : b ≠ Pt) : withTab Pt H b = H b := if_neg h
theorem tab_call {K : PySem.W.Frag} {mg mb : Str → Option Value} {k : Nat} {fa c Pt : Addr} {fd : FuncData} {ps : List Str} {sp : Sp} {s₁ : Shared} {vals : List Value} {ds : List WData} {d0 : WData} {R : PySem.W.WRecords} {cl : Str → Option Addr}
    (KX : K.In s₁.heap) (hns : s₁.heap.Ns mainGlobals mg) (hb : s₁.heap.Ns builtinsNs mb) (hbb : ∀ x : Str, x ≠ "__name__" → mb x = bootBuiltins x) (hlim : s₁.heap.NoLimit) (hg : s₁.gens = #[])
    (C : PySem.W.CodeHd s₁.heap c Pt) (hT : s₁.heap.get? Pt = some { cls := .none, data := .fields #[] }) (nT : PySem.W.noTabs K = true)
    (hbm : ∃ (bm : Addr) (ob : Obj), mg "__builtins__" = some (.ref bm) ∧ bm ≠ builtinsNs ∧ s₁.heap.get? bm = some ob ∧ ob.cls = .type "module" ∧ ob.dict = some builtinsNs ∧ ob.data = .plain)
    (hwl : WellAll w.params s₁.heap vals ds) (hpl : plWs ds = true) (hwt : ∀ d ∈ ds, d.weight ≤ 1048576) (hr : Room k callerA)
    (F : ∀ base : Heap, K.In base → base.Ns mainGlobals mg → TabB base mg c Pt → FnOk P w K mg base CX0 k fa fd ps sp) (hbind : ∀ (s : Shared) (us : List Value), us.length = ps.length → BindsTo s fd ⟨us, []⟩ (ps.zip us)) (hlen : ds.length = ps.length)
    (hsp : ∀ (H : Hp) (xs : List V), H Pt = some (.tbl #[]) → DwAll K H xs ds → sp xs H (fun v H' => Dw K H' v d0) fun _ _ _ => False) :
    codeAny (model P w) callerA (.call (.ref fa) ⟨vals, []⟩) (fun r s' => ∃ u as, r = .ok (.ret u) ∧ ReadsW R cl s'.heap u d0 as ∧ OldK s₁.heap s'.heap ∧ s'.os = s₁.os ∧ AllBare s'.gens) s₁ := by
  obtain ⟨A, ho, ar⟩ := area_all ds vals hwl hpl hwt
  have what : ∀ b u, argH K s₁.heap A b = some u → K.lookup b = none ∧ (∃ o t, u = .frz o t) ∧ ∃ (cv : Value) (vs : List Value), s₁.heap.get? b = some { cls := cv, data := .seq vs.toArray } := fun b u q => by
    obtain ⟨h1, vs, _, _, ⟨h2, h3⟩ | ⟨h2, h3⟩⟩ := argH_is ar q
    · exact ⟨h1, ⟨_, _, h3⟩, _, vs, h2⟩
    · exact ⟨h1, ⟨_, _, h3⟩, _, vs, h2⟩
  have noP : argH K s₁.heap A Pt = none := by
    cases q : argH K s₁.heap A Pt with
    | none => rfl
    | some u =>
      obtain ⟨_, _, cv, vs, e⟩ := what _ _ q
      rw [hT] at e
      cases e
  have hok0 : HOk P w (argH K s₁.heap A) s₁.heap := argH_ok ar
  have hS := dw_all KX ar ds vals hwl hpl ho
  generalize argH K s₁.heap A = H0 at what noP hok0 hS
  have sm : Same H0 (withTab Pt H0) := fun b o e => (withTab_ne (ne_of_none e noP)).trans e
  have hok : HOk P w (withTab Pt H0) s₁.heap := fun b u q => by
    by_cases hb' : b = Pt
    · rw [hb', withTab_at] at q
      cases q
      rw [hb']
      exact hT
    · rw [withTab_ne hb'] at q
      exact (hok0 b u q).stay (fun _ _ _ e => e) (fun d e => sm _ _ e) fun d xs e => sm _ _ e
  have kP : K.lookup Pt = none := by
    cases q : K.lookup Pt with
    | none => rfl
    | some o =>
      have e := KX Pt o q
      rw [hT] at e
      cases e
      have z := List.all_eq_true.mp nT _ (PySem.W.mem_of_lookupK q)
      cases z
  -- what is not tracked stands in the base
  have free : ∀ {b : Addr} {o : Obj}, s₁.heap.get? b = some o → (∀ vs n, o.data ≠ .seq vs n) → o.data ≠ .fields #[] → withTab Pt H0 b = none := fun {b o} e h1 h2 => by
    by_cases hb' : b = Pt
    · rw [hb', hT] at e
      cases e
      exact absurd rfl h2
    · rw [withTab_ne hb']
      cases q : H0 b with
      | none => rfl
      | some u =>
        obtain ⟨_, _, cv, vs, e2⟩ := what _ _ q
        rw [e] at e2
        cases e2
        exact absurd rfl (h1 _ _)
  have dict : ∀ {b : Addr} {m : Str → Option Value}, s₁.heap.Ns b m → (hidT s₁.heap (withTab Pt H0)).Ns b m := fun {b m} ⟨o, es, ep, e, d, r⟩ =>
    ⟨o, es, ep, hidT_get e (free e (fun vs n z => by rw [d] at z; cases z) fun z => by rw [d] at z; cases z), d, r⟩
  have Kb : K.In (hidT s₁.heap (withTab Pt H0)) := fun b o e => hidT_get (KX b o e) (by
    by_cases hb' : b = Pt
    · rw [hb', kP] at e
      cases e
    · rw [withTab_ne hb']
      cases q : H0 b with
      | none => rfl
      | some u =>
        rw [(what _ _ q).1] at e
        cases e)
  have TB : TabB (hidT s₁.heap (withTab Pt H0)) mg c Pt := by
    refine ⟨?_, ?_, fun z => ?_⟩
    · obtain ⟨o, us, file, tf, flags, tg, inF, text, tt, e1, r1, r2, r3, rest⟩ := C
      exact ⟨o, us, file, tf, flags, tg, inF, text, tt, hidT_get e1 (free e1 (fun vs n z => by rw [r2] at z; cases z) fun z => by
        rw [r2] at z
        cases z
        simp at r3), r1, r2, r3, rest⟩
    · obtain ⟨bm, ob, b1, b2, b3, b4, b5, b6⟩ := hbm
      refine ⟨bm, ob, b1, b2, fun q => ?_, fun q => ?_, hidT_get b3 (free b3 (fun vs n z => by rw [b6] at z; cases z) fun z => by rw [b6] at z; cases z), b4, b5, b6⟩
      · obtain ⟨o, es, ep, e, hd, _⟩ := hns
        rw [q, e] at b3
        cases b3
        rw [hd] at b6
        cases b6
      · rw [q, hT] at b3
        cases b3
        cases b6
    · obtain ⟨o, es, ep, e, hd, _⟩ := hns
      rw [z, hT] at e
      cases e
      cases hd
  have M : Mod K mg (hidT s₁.heap (withTab Pt H0)) := ⟨Kb, dict hns, ⟨mb, dict hb, hbb⟩, let ⟨mc, h1, h2⟩ := hlim; ⟨mc, dict h1, h2⟩⟩
  have e0 : Env0 P w K mg (hidT s₁.heap (withTab Pt H0)) callerA [] s₁ (withTab Pt H0) := ⟨rfl, M, fun b o e => of_hidT e, Nat.le_of_eq (hidT_size _ _), trivial, fun b hb => (List.not_mem_nil (show b ∈ ([] : List Addr) from hb)).elim, hok, .of_eq hg⟩
  have hl : vals.length = ps.length := (wellAll_len hwl).trans hlen
  refine codeAny_mono ((F _ Kb (dict hns) TB).run callerA [] s₁ (withTab Pt H0) ⟨vals, []⟩ vals (vals.map toV) _ _ hr e0 (hbind s₁ vals hl) (vals_toV ho) (hsp _ _ withTab_at (dw_sameAll sm _ _ hS))) fun r s' x => ?_
  cases r with
  | error e => exact (show False from x).elim
  | ok fl =>
    cases fl with
    | next => exact False.elim x
    | brk => exact False.elim x
    | cont => exact False.elim x
    | ret u =>
      obtain ⟨v, H', os, bare, un, hok', r', q⟩ := x
      have kept : ∀ b o, b ≠ Pt → s₁.heap.get? b = some o → s'.heap.get? b = some o := fun b o nb e => by
        cases q2 : withTab Pt H0 b with
        | none => exact un.keep b o e q2 (fun z => (List.not_mem_nil (show b ∈ ([] : List Addr) from z)).elim) (by simp)
        | some u2 =>
          have q3 := q2
          rw [withTab_ne nb] at q3
          obtain ⟨_, ⟨ob, t, rfl⟩, _⟩ := what _ _ q3
          have z2 := un.frzs b ob _ q2
          obtain ⟨e1, _⟩ := hok b _ q2
          obtain ⟨e2, _⟩ := hok' b _ z2
          rw [e] at e1
          cases e1
          exact e2
      obtain ⟨more, grown⟩ := un.tbls Pt #[] withTab_at
      have gP : s'.heap.get? Pt = some { cls := .none, data := .fields more } := by
        have := hok' Pt _ grown
        rw [Array.empty_append] at this
        exact this
      have KX' : K.In s'.heap := fun b o e => kept b o (fun z => by rw [z, kP] at e; cases e) (KX b o e)
      obtain ⟨as, hrd⟩ := Dw.reads (R := R) (cl := cl) hok' KX' d0 v u q r'
      refine ⟨u, as, rfl, hrd, ⟨fun b o e => ?_, fun b o e => ?_⟩, os, bare⟩
      · by_cases hb' : b = Pt
        · subst hb'
          rw [hT] at e
          cases e
          exact .inr (.inl ⟨(C.tab hT).isCodeTable, rfl, #[], more, rfl, by rw [Array.empty_append]; exact gP⟩)
        · exact .inl (kept b o hb' e)
      · by_cases hb' : b = Pt
        · rw [hb']
          exact ⟨_, gP⟩
        · exact ⟨o, kept b o hb' e⟩
theorem tab_walk {r : OpenSpec} {k : Nat} {q : Program} {loose : List Str} {XP : (Str → Option Value) → Heap → Prop} {YP : World → Heap → Prop} {d : DefRec} {K : Params → PySem.W.Frag} {ps : List Str} {sp : Addr → PySem.W.Frag → Sp} {x : Str}
    (hwell : r.wellSaid = true) (hdf : d.params.defaults = []) (hlen : r.args.length = ps.length) (hr : Room k callerA) (hY : ∀ (w : World) (h : Heap), YP w h → (K w.params).In h) (hx : ((recsOf q).find? (fun e => e.name == x)).isSome = true)
    (F : ∀ (w : World) (mg : Str → Option Value) (fa : Addr) (h : Heap), YP w h → (K w.params).In h → h.Ns mainGlobals mg → mg d.name = some (.ref fa) →
      ∃ (fd : FuncData) (c Pt : Addr), PySem.W.noTabs (K w.params) = true ∧ PySem.W.tabIn (K w.params) x = some (c, Pt) ∧ (∀ (s : Shared) (us : List Value), us.length = ps.length → BindsTo s fd ⟨us, []⟩ (ps.zip us)) ∧
        ∀ base : Heap, (K w.params).In base → base.Ns mainGlobals mg → TabB base mg c Pt → FnOk r.prog w (K w.params) mg base CX0 k fa fd ps (sp Pt (K w.params)))
    (hsp : ∀ (Pt : Addr) (K : PySem.W.Frag) (H : Hp) (xs : List V) (a : Codec.denoteAll r.args), H Pt = some (.tbl #[]) → Codec.withinAll r.args a = true → Codec.app r.args r.asked a = true → DwAll K H xs (Codec.encAll r.args a) →
      sp Pt K xs H (fun v H' => Dw K H' v (r.ret.enc (Codec.app r.args r.f a))) fun _ _ _ => False) :
    PySem.W.WalkOS q loose XP YP r d [] (fun f vs => PySem.call f vs) := by
  intro w s₀ s₁ mg mb G Y fa o pm cd doc dV kV ho hd hcd hD hmg hg args vals as hpre hlay hrd hwl hlo
  obtain ⟨a, e1, e2⟩ := PySem.W.os_pre_some hpre
  obtain ⟨rfl, hwi⟩ := Codec.encAll_of_decAll r.args args a e1
  have KX := hY w _ Y
  obtain ⟨fd, c, Pt, nT, ht, hb, hF⟩ := F w mg fa _ Y KX G.T.g hmg
  obtain ⟨dr, hdr⟩ := Option.isSome_iff_exists.mp hx
  obtain ⟨C, hT⟩ := PySem.W.tab_of G.T KX hdr ht
  refine PySem.W.enter_call (codeAny_mono (tab_call (R := []) (cl := classAt s₀.heap) (d0 := r.ret.enc (Codec.app r.args r.f a)) KX G.T.g G.T.b G.T.builtins G.T.nolimit hg C hT nT G.T.bmain hwl (pl_encAll _ _) (layable_weight hlay) hr hF hb ((encAll_len _ _).trans hlen)
    (fun H xs h1 h2 => hsp Pt _ H xs a h1 hwi e2 h2)) fun r' s' z => ?_)
  obtain ⟨u, as', rfl, h1, h2, h3, h4⟩ := z
  exact ⟨.inl ⟨u, _, as', rfl, fun _ => rfl, h1, (OpenSpec.post_iff hwell hwi _ _).mpr rfl, fun z => Bool.noConfusion (show false = true from z)⟩, h2, h3, h4⟩
/-- a def whose code object is known -/
theorem fun_okC {x qual : Str} {st : Stmt} {f c : Addr} {fd : FuncData} {N ps : List Str} {k : Nat} {sp : Sp} (F : Fun K x qual st f fd) (hc : fd.code = .ref c) (S : FnScope N ps (defScope st)) (len : ∀ vs H Q E, sp vs H Q E → vs.length = ps.length)
    (hbody : ∀ (A : Around) (outer : List Env) (s : Shared) (H : Hp) (vs : List V) (Q : VK) (E : XK), Room k (A.deeper (envOfC qual (defScope st) s.heap.objs.size f (.ref c))) → sp vs H Q E →
      ∃ t, PSs (cxOf CX0 P w K mg base N qual (defScope st) f (.ref c) A outer s H E).nox (defBody st) t ∧ t { nx := fun _ H' => Q .non H', rt := Q } (start N vs) H) : FnOk P w K mg base CX0 (k + 1) f fd ps sp := by
  obtain ⟨oc, od, kV, doc, pm, an, cdv, ct, osl, rfl, lk, hcd⟩ := F.ex
  obtain rfl : cdv = .ref c := hc
  refine fn_of lk hcd S len fun A outer s H vs Q E hr hs => ?_
  obtain ⟨t, h, q⟩ := hbody A outer s H vs Q E hr hs
  exact ⟨t, h.nox, q⟩
end
/-! ### product -/
theorem sc_product : FnScope ["one", "other", "told", "a", "b"] ["one", "other"] (defScope s_product) := ⟨rfl, rfl, rfl, by decide +kernel, rfl, by decide +kernel, by decide +kernel⟩
def sp_product (K : PySem.W.Frag) : Sp := fun vs H Q _ => ∃ (a b : Addr) (x y : List Int) (e f : Nat), vs = [.ref a, .ref b] ∧ SqL K H a (iv x) ∧ SqL K H b (iv y) ∧ x.length = y.length ∧ Small e x ∧ Small f y ∧ e + f ≤ 900000 ∧ ∀ H', Same H H' → Q (.int (Si18.dot x y)) H'
theorem ok_product (T : Txt K mg) {f : Addr} {fd : FuncData} (F : Dn K mg "product" s_product ["one", "other"] f fd) : FnOk P w K mg base CX0 1 f fd ["one", "other"] (sp_product K) := by
  refine F.F.ok sc_product (fun vs H Q E h => ?_) (fun cdv A outer s H vs Q E hr h => ?_)
  · obtain ⟨a, b, x, y, e, f, rfl, _⟩ := h
    rfl
  · obtain ⟨a, b, x, y, e, f, rfl, ha, hb, hl, hx, hy, he, q⟩ := h
    refine ⟨_, pss_cons (ps_set (i := 2) sc_product.nd rfl (.inl rfl) pe_int)
      (pss_cons (ps_for PassesOwn.never rfl (pi_zip (by rfl) T.b_zip (pa_cons (pv 0) (pa_cons (pv 1) pa_nil)))
          (pg_tup rfl (pgs_cons (pg_name (i := 3) sc_product.nd rfl (.inl rfl)) (pgs_cons (pg_name (i := 4) sc_product.nd rfl (.inl rfl)) pgs_nil)))
        (pss_one (ps_aug (i := 2) sc_product.nd rfl (.inl rfl) (pe_op op_mulW (pv 3) (pv 4)) ip_add)))
      (pss_one (ps_ret (pv 2)))), ?_⟩
    refine ⟨_, rfl, _, rfl, a, b, iv x, iv y, rfl, ha, hb, ?_⟩
    have hz : ∀ i, i < x.length → (List.zipWith (fun (a b : Int) => a * b) x y)[i]? = some (x.getD i 0 * y.getD i 0) := fun i hi => by
      rw [List.getElem?_zipWith, List.getD_eq_getElem?_getD, List.getD_eq_getElem?_getD, List.getElem?_eq_getElem hi, List.getElem?_eq_getElem (by omega)]
      rfl
    refine RZ.for_zipL (xs := iv x) (ys := iv y) (by rw [iv_len, iv_len, hl]) (fun i σ H' => ∃ y3 y4, σ = [some (.ref a), some (.ref b), some (.int ((List.zipWith (fun (a b : Int) => a * b) x y).take i).sum), y3, y4] ∧ Same H H')
      ⟨none, none, rfl, Same.refl H⟩ ?_ ?_ ?_
    · rintro i σ H2 ⟨y3, y4, rfl, s2⟩
      exact ⟨s2.seq ha, s2.seq hb⟩
    · rintro i u v t σ H2 hu hv ⟨y3, y4, rfl, s2⟩ nt
      obtain ⟨hi, rfl⟩ := iv_get hu
      obtain ⟨hj, rfl⟩ := iv_get hv
      refine ⟨t, _, rfl, SqT.of upd_same, rfl, _, _, rfl, _, _, rfl, rfl, ?_⟩
      refine ⟨_, rfl, _, rfl, _, rfl, _, _, rfl, rfl, ?_, _, _, rfl, rfl, some (.int (x.getD i 0)), some (.int (y.getD i 0)), ?_, s2.trans (same_upd nt)⟩
      · exact mul_ok (hx.getD i) (hy.getD i) (by omega)
      · rw [L2.sum_take (hz i hi)]
        rfl
    · rintro σ H2 ⟨y3, y4, rfl, s2⟩
      refine ⟨_, rfl, ?_⟩
      have e1 : (List.zipWith (fun (a b : Int) => a * b) x y).take (iv x).length = List.zipWith (fun (a b : Int) => a * b) x y := List.take_of_length_le (by rw [List.length_zipWith, iv_len]; omega)
      rw [e1]
      exact q H2 s2
/-! ### square -/
theorem sc_square : FnScope ["row"] ["row"] (defScope s_square) := ⟨rfl, rfl, rfl, by decide +kernel, rfl, by decide +kernel, by decide +kernel⟩
def sp_square (K : PySem.W.Frag) : Sp := fun vs H Q _ => ∃ (a : Addr) (x : List Int) (e : Nat), vs = [.ref a] ∧ SqL K H a (iv x) ∧ Small e x ∧ e ≤ 400000 ∧ ∀ H', Same H H' → Q (.int (Si18.square x)) H'
theorem ok_square (T : Txt K mg) {f : Addr} {fd : FuncData} (F : Dn K mg "square" s_square ["row"] f fd) : FnOk P w K mg base CX0 2 f fd ["row"] (sp_square K) := by
  refine F.F.ok sc_square (fun vs H Q E h => ?_) (fun cdv A outer s H vs Q E hr h => ?_)
  · obtain ⟨a, x, e, rfl, _⟩ := h
    rfl
  · obtain ⟨a, x, e, rfl, ha, hs, he, q⟩ := h
    obtain ⟨f1, fd1, F1⟩ := T.d_product
    have G1 : FnOk P w K mg base CX0 1 f1 fd1 ["one", "other"] (sp_product K) := ok_product T F1
    refine ⟨_, pss_one (ps_ret (pe_call G1 hr (by rfl) F1.g F1.F.kp F1.b .nil pass0 (pa_cons (pv 0) (pa_cons (pv 0) pa_nil)))), ?_⟩
    exact ⟨_, rfl, _, rfl, a, a, x, x, e, e, rfl, ha, ha, rfl, hs, hs, by omega, fun H' s' => q H' s'⟩
/-! ### with_times -/
theorem sc_with_times : FnScope ["row", "many", "other", "a", "b"] ["row", "many", "other"] (defScope s_with_times) := ⟨rfl, rfl, rfl, by decide +kernel, rfl, by decide +kernel, by decide +kernel⟩
section
variable {te : TE} {σ : L2.St} {H1 : Hp} {D : Addr} {Qd : Hp → Prop} {s t : Nat} {vs : List Nat}
/-- [a whole number for each two items of two lists] -/
theorem lc_zipI {a b : Addr} {xs ys : List V} (F : Nat → Int) (hD : H1 D = none) (hxs : SqL K H1 a xs) (hys : SqL K H1 b ys) (hl : xs.length = ys.length) (hlen : xs.length ≤ 1000)
    (hw : ∀ x y, wipe (((wipe σ vs).set s (some x)).set t (some y)) vs = wipe σ vs)
    (step : ∀ i x y H Q, xs[i]? = some x → ys[i]? = some y → Same H1 H → (∀ H', Same H H' → Q (.int (F i)) H') → te (((wipe σ vs).set s (some x)).set t (some y)) H Q)
    (hd : ∀ H, Same H1 H → H D = some (.lst (iv ((List.range xs.length).map F))) → Qd H) :
    ∃ W : Nat → Nat → Hp → Prop, (∃ m, W 0 m (upd H1 D (.lst []))) ∧ ∀ i m H, W i m H →
      ((Itz K a b).stop i H ∧ Qd H) ∨ ((Itz K a b).go i H ∧ ∃ Nx : Hp → Prop, (∀ H', Nx H' → ∃ m', m' < m ∧ W (i + 1) m' H') ∧ ∀ x H', (Itz K a b).yld i H x H' → gTup K 2 (gCons (gName s) (gCons (gName t) gNil)) x (wipe σ vs) H' fun σ2 H2 => wipe σ2 vs = wipe σ vs ∧ tYes σ2 H2 fun b H3 =>
        if b = true then te σ2 H3 fun y H4 => ∃ acc, H4 D = some (.lst acc) ∧ acc.length < sizeLine ∧ Nx (upd H4 D (.lst (acc ++ [y]))) else Nx H3) := by
  refine ⟨fun i m H => m = xs.length - i ∧ i ≤ xs.length ∧ Same H1 H ∧ H D = some (.lst (iv ((List.range i).map F))), ⟨xs.length, rfl, Nat.zero_le _, same_upd hD, upd_same⟩, ?_⟩
  rintro i m H ⟨rfl, hi, s1, eD⟩
  have qx := s1.seq hxs
  have qy := s1.seq hys
  by_cases hlt : i < xs.length
  · refine .inr ⟨⟨xs, ys, _, _, qx, qy, List.getElem?_eq_getElem hlt, List.getElem?_eq_getElem (show i < ys.length by omega)⟩, fun H' => Same H1 H' ∧ H' D = some (.lst (iv ((List.range (i + 1)).map F))), fun H' p' => ⟨xs.length - (i + 1), by omega, rfl, hlt, p'⟩, fun v H' y => ?_⟩
    obtain ⟨T, x', y', rfl, hT, rfl, f1, f2⟩ := y
    have hx := f1 xs qx
    have hy := f2 ys qy
    refine ⟨T, _, rfl, SqT.of upd_same, rfl, x', _, rfl, y', _, rfl, rfl, hw x' y', ?_⟩
    show te (((wipe σ vs).set s (some x')).set t (some y')) _ _
    refine step i x' y' _ _ hx hy (s1.trans (same_upd hT)) fun H' s' => ⟨_, s' _ _ ((same_upd hT) _ _ eD), ?_, fun b o q => ?_, ?_⟩
    · rw [iv_len, List.length_map, List.length_range]
      exact line_lt (by omega)
    · rw [upd_ne (ne_of_none q hD)]
      exact s' _ _ ((same_upd hT) _ _ (s1 _ _ q))
    · rw [upd_same, List.range_succ, List.map_append]
      unfold iv
      rw [List.map_append]
      rfl
  · have e : i = xs.length := by omega
    subst e
    exact .inl ⟨⟨xs, ys, qx, qy, Or.inl (Nat.le_refl _)⟩, hd H s1 eD⟩
end
def sp_with_times (K : PySem.W.Frag) : Sp := fun vs H Q _ => ∃ (a b : Addr) (x y : List Int) (c : Int) (e f : Nat), vs = [.ref a, .int c, .ref b] ∧ SqL K H a (iv x) ∧ SqL K H b (iv y) ∧ x.length = y.length ∧ x.length ≤ 1000 ∧ c.natAbs ≤ 2 ^ e ∧ Small f y ∧ e + f ≤ 900000 ∧
  ∀ H' p, Same H H' → H p = none → H' p = some (.lst (iv (Si18.plus x (Si18.times c y)))) → Q (.ref p) H'
theorem plus_times {x y : List Int} {c : Int} (h : x.length = y.length) : Si18.plus x (Si18.times c y) = (List.range x.length).map fun i => x.getD i 0 + c * y.getD i 0 := by
  unfold Si18.plus Si18.times
  apply List.ext_getElem
  · simp
    omega
  · intro i h1 h2
    simp at h1 h2
    simp [h2, show i < y.length by omega]
theorem ok_with_times (T : Txt K mg) {f : Addr} {fd : FuncData} (F : Dn K mg "with_times" s_with_times ["row", "many", "other"] f fd) : FnOk P w K mg base CX0 1 f fd ["row", "many", "other"] (sp_with_times K) := by
  refine F.F.ok sc_with_times (fun vs H Q E h => ?_) (fun cdv A outer s H vs Q E hr h => ?_)
  · obtain ⟨a, b, x, y, c, e, f, rfl, _⟩ := h
    rfl
  · obtain ⟨a, b, x, y, c, e, f, rfl, ha, hb, hl, hlen, hc, hy, he, q⟩ := h
    refine ⟨_, pss_one (ps_ret (pe_lc (own := [("a", 3), ("b", 4)]) (g := gTup K 2 (gCons (gName 3) (gCons (gName 4) gNil))) (tt := tYes) rfl sc_with_times.nd (pi_zip (by rfl) T.b_zip (pa_cons (pv 0) (pa_cons (pv 2) pa_nil)))
      (blkOk_by (N := ["row", "many", "other", "a", "b"]) (sc := defScope s_with_times) (by decide +kernel))
      (fun _ _ _ _ _ => pg_tup rfl (pgs_cons (pg_name (i := 3) sc_with_times.nd rfl (Or.inl rfl)) (pgs_cons (pg_name (i := 4) sc_with_times.nd rfl (Or.inl rfl)) pgs_nil))) (fun _ _ _ _ _ => pts_nil)
      (fun _ _ _ _ _ => pe_op op_add (pv 3) (pe_op op_mulW (pv 1) (pv 4))))), ?_⟩
    refine ⟨_, rfl, _, rfl, a, b, iv x, iv y, rfl, ha, hb, fun D nD => ?_⟩
    refine lc_zipI (s := 3) (t := 4) (vs := [3, 4]) (xs := iv x) (ys := iv y) (fun i => x.getD i 0 + c * y.getD i 0) nD ha hb (by rw [iv_len, iv_len, hl]) (by rw [iv_len]; exact hlen) (fun _ _ => rfl) ?_ ?_
    · intro i u v H2 Q2 hu hv s2 k2
      obtain ⟨hi, rfl⟩ := iv_get hu
      obtain ⟨hj, rfl⟩ := iv_get hv
      exact ⟨_, rfl, _, rfl, _, rfl, _, _, rfl, rfl, mul_ok hc (hy.getD i) (by omega), _, _, rfl, rfl, k2 H2 (Same.refl H2)⟩
    · intro H2 s2 e2
      rw [iv_len, ← plus_times hl] at e2
      exact q H2 D s2 nD e2
/-! ### less -/
theorem sc_less : FnScope ["row", "other"] ["row", "other"] (defScope s_less) := ⟨rfl, rfl, rfl, by decide +kernel, rfl, by decide +kernel, by decide +kernel⟩
def sp_less (K : PySem.W.Frag) : Sp := fun vs H Q _ => ∃ (a b : Addr) (x y : List Int) (f : Nat), vs = [.ref a, .ref b] ∧ SqL K H a (iv x) ∧ SqL K H b (iv y) ∧ x.length = y.length ∧ x.length ≤ 1000 ∧ Small f y ∧ f ≤ 400000 ∧
  ∀ H' p, Same H H' → H p = none → H' p = some (.lst (iv (Si18.minus x y))) → Q (.ref p) H'
theorem ok_less (T : Txt K mg) {f : Addr} {fd : FuncData} (F : Dn K mg "less" s_less ["row", "other"] f fd) : FnOk P w K mg base CX0 2 f fd ["row", "other"] (sp_less K) := by
  refine F.F.ok sc_less (fun vs H Q E h => ?_) (fun cdv A outer s H vs Q E hr h => ?_)
  · obtain ⟨a, b, x, y, e, rfl, _⟩ := h
    rfl
  · obtain ⟨a, b, x, y, e, rfl, ha, hb, hl, hlen, hs, he, q⟩ := h
    obtain ⟨f1, fd1, F1⟩ := T.d_with_times
    have G1 : FnOk P w K mg base CX0 1 f1 fd1 ["row", "many", "other"] (sp_with_times K) := ok_with_times T F1
    refine ⟨_, pss_one (ps_ret (pe_call G1 hr (by rfl) F1.g F1.F.kp F1.b .nil pass0 (pa_cons (pv 0) (pa_cons (pe_un un_neg pe_int) (pa_cons (pv 1) pa_nil))))), ?_⟩
    exact ⟨_, rfl, _, rfl, _, rfl, a, b, x, y, -1, 0, e, rfl, ha, hb, hl, hlen, by decide, hs, by omega, fun H' p s' np ep => q H' p s' np ep⟩
/-! ### without -/
theorem sc_without : FnScope ["row", "column"] ["row", "column"] (defScope s_without) := ⟨rfl, rfl, rfl, by decide +kernel, rfl, by decide +kernel, by decide +kernel⟩
def sp_without : Sp := fun vs H Q _ => ∃ (a : Addr) (x : List Int) (j : Nat), vs = [.ref a, .int j] ∧ H a = some (.lst (iv x)) ∧ x.length ≤ 1000 ∧ ∀ H' p, Same H H' → H p = none → H' p = some (.lst (iv (x.eraseIdx j))) → Q (.ref p) H'
theorem ok_without (T : Txt K mg) {f : Addr} {fd : FuncData} (F : Dn K mg "without" s_without ["row", "column"] f fd) : FnOk P w K mg base CX0 1 f fd ["row", "column"] sp_without := by
  refine F.F.ok sc_without (fun vs H Q E h => ?_) (fun cdv A outer s H vs Q E hr h => ?_)
  · obtain ⟨a, x, j, rfl, _⟩ := h
    rfl
  · obtain ⟨a, x, j, rfl, ha, hl, q⟩ := h
    refine ⟨_, pss_one (ps_ret (pe_op op_cat (pe_slice sl_list (pv 0) po_none (po_some (pv 1))) (pe_slice sl_list (pv 0) (po_some (pe_op op_add (pv 1) pe_int)) po_none))), ?_⟩
    refine ⟨.ref a, rfl, .int j, rfl, j, rfl, a, iv x, rfl, SqL.of ha, fun c nc => ?_⟩
    have s1 := same_upd (o := .lst (cutV (iv x) none (some (j : Int)))) nc
    refine ⟨.ref a, rfl, .int j, rfl, j, 1, rfl, rfl, _, rfl, a, iv x, rfl, s1.seq (SqL.of ha), fun d nd => ?_⟩
    have s2 := same_upd (o := .lst (cutV (iv x) (some ((j : Int) + 1)) none)) nd
    refine ⟨c, d, _, _, rfl, rfl, s2 _ _ upd_same, upd_same, ?_, fun p np => ?_⟩
    · refine Nat.le_trans (Nat.add_le_add (cutV_length _ _ _) (cutV_length _ _ _)) ?_
      rw [iv_len]
      exact Nat.le_of_lt (small_line (by omega))
    · refine q _ p (s1.trans (s2.trans (same_upd np))) (s1.free (s2.free np)) ?_
      rw [upd_same, show (j : Int) + 1 = ((j + 1 : Nat) : Int) from rfl, cut_to, cut_from, List.eraseIdx_eq_take_drop_succ]
      unfold iv
      rw [List.map_append, List.map_take, List.map_drop]
/-! ### determinant -/
theorem sc_determinant : FnScope ["rows", "told", "sign", "column", "below", "row"] ["rows"] (defScope s_determinant) := ⟨rfl, rfl, rfl, by decide +kernel, rfl, by decide +kernel, by decide +kernel⟩
def sp_det (d : Nat) : Sp := fun vs H Q _ => ∃ (a : Addr) (m : List (List Int)) (e : Nat), vs = [.ref a] ∧ RowsAt H a m ∧ m.length = d ∧ (∀ x, x ∈ m → x.length = d) ∧ e ≤ 100000 ∧ Smalls e m ∧ ∀ H', Same H H' → Q (.int (Si18.det d m)) H'
def spd : Nat → Sp
  | 0 => fun _ _ _ _ => False
  | d + 1 => sp_det d
def dterm (m : List (List Int)) (d j : Nat) : Int := (if j % 2 = 0 then (1 : Int) else -1) * (m.getD 0 []).getD j 0 * Si18.det d ((m.drop 1).map fun (x : List Int) => x.eraseIdx j)
theorem det_terms {m : List (List Int)} {d : Nat} (h : m.length = d + 1) : Si18.det (d + 1) m = ((List.range (d + 1)).map (dterm m d)).sum := by
  cases m with
  | nil => cases h
  | cons r l => rfl
theorem sgn_int (j : Nat) : (if (j + 1) % 2 = 0 then (1 : Int) else -1) = 0 - (if j % 2 = 0 then (1 : Int) else -1) := by
  by_cases h : j % 2 = 0
  · rw [if_pos h, if_neg (by omega)]
    rfl
  · rw [if_neg h, if_pos (by omega)]
    rfl
theorem ok_determinant (T : Txt K mg) {f : Addr} {fd : FuncData} (F : Dn K mg "determinant" s_determinant ["rows"] f fd) :
    ∀ d : Nat, d ≤ 7 → FnOk P w K mg base CX0 (d + 1) f fd ["rows"] (spd d)
  | 0, _ => ⟨fun _ _ _ _ h => h.elim, fun _ _ _ _ _ _ _ _ _ _ _ _ _ h => h.elim⟩
  | d + 1, hd => by
    have IH := ok_determinant T F d (by omega)
    obtain ⟨f1, fd1, F1⟩ := T.d_without
    have G1 : FnOk P w K mg base CX0 1 f1 fd1 ["row", "column"] sp_without := ok_without T F1
    refine F.F.ok sc_determinant (fun vs H Q E h => ?_) (fun cdv A outer s H vs Q E hr h => ?_)
    · obtain ⟨a, m, e, rfl, _⟩ := h
      rfl
    · obtain ⟨a, m, e, rfl, ⟨ws, ha, hR⟩, hm, hx, he, hs, q⟩ := h
      have hr1 : Room 1 _ := hr.mono (by omega)
      refine ⟨_, pss_cons (ps_if (pt_cmpR op_eq (pe_callB call_len_seq (by rfl) T.b_len PySem.boot_len (pa_cons (pv 0) pa_nil)) pe_int (nomark _)) (pss_one (ps_ret pe_int)) pss_nil)
        (pss_cons (ps_set (i := 1) sc_determinant.nd rfl (.inl rfl) pe_int)
        (pss_cons (ps_set (i := 2) sc_determinant.nd rfl (.inl rfl) pe_int)
        (pss_cons (ps_for PassesOwn.never rfl (pi_range1 (by rfl) T.b_range (pa_cons (pe_callB call_len_seq (by rfl) T.b_len PySem.boot_len (pa_cons (pv 0) pa_nil)) pa_nil)) (pg_name (i := 3) sc_determinant.nd rfl (Or.inr rfl))
          (pss_cons (ps_setLc (i := 4) (own := [("row", 5)]) (g := gName 5) (tt := tYes) rfl sc_determinant.nd rfl rfl (sw_true rfl rfl rfl (by decide +kernel)) (pi_list (pe_slice sl_list (pv 0) (po_some pe_int) po_none))
              (blkOk_by (N := ["rows", "told", "sign", "column", "below", "row"]) (sc := defScope s_determinant) (by decide +kernel)) (fun _ _ _ _ _ => pg_name (i := 5) sc_determinant.nd rfl (Or.inl rfl)) (fun _ _ _ _ _ => pts_nil)
              (fun _ _ _ _ _ => pe_call G1 hr1 (by rfl) F1.g F1.F.kp F1.b .nil pass0 (pa_cons (pv 5) (pa_cons (pv 3) pa_nil))))
          (pss_cons (ps_aug (i := 1) sc_determinant.nd rfl (.inl rfl) (pe_op op_mulW (pe_op op_mul (pv 2) (pe_ix ix_list (pe_ix ix_list (pv 0) pe_int (fun _ _ => rfl)) (pv 3) (fun _ _ => rfl)))
              (pe_call IH hr (by rfl) F.g F.F.kp F.b .nil pass0 (pa_cons (pv 4) pa_nil))) ip_add)
          (pss_one (ps_set (i := 2) sc_determinant.nd rfl (.inl rfl) (pe_op op_sub pe_int (pv 2)))))))
        (pss_one (ps_ret (pv 1)))))), ?_⟩
      refine ⟨.ref a, rfl, a, ws, rfl, .inl (SqL.of ha), rfl, _, rfl, ite2 (fun h0 => ?_) (fun h0 => ?_)⟩
      · have e0 : (ws.length : Int) = 0 := V.int.inj (of_decide_eq_true h0)
        have e1 : d = 0 := by rw [← hm, ← hR.1]; omega
        subst e1
        exact q H (Same.refl H)
      · have e0 : ws.length ≠ 0 := fun z => h0 (decide_eq_true (by rw [z]; rfl))
        have el := hR.1
        obtain ⟨n, rfl⟩ : ∃ n, d = n + 1 := ⟨d - 1, by omega⟩
        refine ⟨.ref a, rfl, a, ws, rfl, .inl (SqL.of ha), (ws.length : Int), rfl, by omega, by omega, ?_⟩
        refine for_range (lo := 0) (n := ws.length) (fun i σ H' => ∃ y3 y4 y5, σ = [some (.ref a), some (.int ((List.range i).map (dterm m n)).sum), some (.int (if i % 2 = 0 then (1 : Int) else -1)), y3, y4, y5] ∧ Same H H')
          ⟨none, none, none, rfl, Same.refl H⟩ ?_ ?_
        · rintro i σ H2 hi ⟨y3, y4, y5, rfl, s2⟩
          have z : (0 : Int) + (i : Int) = (i : Int) := Int.zero_add _
          rw [z]
          refine ⟨.ref a, rfl, 1, rfl, a, ws, rfl, (s2.seq (SqL.of ha)), fun c nc => ?_⟩
          have e1 : cutV ws (some 1) none = ws.drop 1 := cut_from ws 1
          rw [e1]
          have s3 := same_upd (o := .lst (ws.drop 1)) nc
          refine ⟨c, rfl, ⟨_, SqL.of upd_same⟩, fun D nD => ?_⟩
          have hD1 := hR.drop 1
          refine lc_rows (s := 5) (vs := [5]) (xs := ws.drop 1) (fun j => ((m.drop 1).getD j []).eraseIdx i) nD (SqL.of upd_same) (by rw [List.length_drop]; omega) (fun _ => rfl) ?_ ?_
          · intro j x H4 Q4 hx4 s4 k4
            obtain ⟨p, y, rfl, ey, ep⟩ := hD1.at hx4
            refine ⟨_, rfl, _, rfl, p, y, i, rfl, s4 _ _ (s3 _ _ (s2 _ _ ep)), ?_, fun H5 p5 s5 np5 e5 => k4 H5 p5 s5 np5 ?_⟩
            · rw [hx y (List.mem_of_mem_drop (List.mem_of_getElem? ey))]
              omega
            · rw [e5, List.getD_eq_getElem?_getD, ey]
              rfl
          · intro H4 s4 r4
            have el1 : (ws.drop 1).length = (m.drop 1).length := hD1.1
            rw [el1, map_range_getD (f := fun x => x.eraseIdx i)] at r4
            have s24 : Same H H4 := s2.trans (s3.trans s4)
            -- told += sign * rows[0][column] * determinant(below)
            obtain ⟨p0, hp0, ep0⟩ := hR.2 0 _ (List.getElem?_eq_getElem (by omega))
            have hm0 : m[0]'(by omega) ∈ m := List.getElem_mem _
            have l0 := hx _ hm0
            have g0 : m.getD 0 [] = m[0]'(by omega) := by
              rw [List.getD_eq_getElem?_getD, List.getElem?_eq_getElem (by omega)]
              rfl
            have sg : (if i % 2 = 0 then (1 : Int) else -1) = 1 ∨ (if i % 2 = 0 then (1 : Int) else -1) = -1 := by split <;> simp
            refine ⟨_, rfl, _, rfl, .ref a, rfl, a, ws, 0, _, rfl, rfl, s24.seq (SqL.of ha), atI_nat (j := 0) hp0, _, rfl, p0, _, _, .int ((m.getD 0 []).getD i 0), rfl, rfl, s24.seq (SqL.of ep0), atI_nat ?_, ?_⟩
            · rw [iv_at (by rw [l0]; omega), g0]
            refine ⟨_, _, rfl, rfl, .inl ?_, ?_⟩
            · rcases sg with h | h <;> rw [h] <;> decide
            refine ⟨_, rfl, D, _, e, rfl, r4, ?_, ?_, he, Smalls.erase (fun x hx' => hs x (List.mem_of_mem_drop hx')) i, fun H5 s5 => ?_⟩
            · rw [List.length_map, List.length_drop]
              omega
            · intro x hx'
              obtain ⟨y, hy, rfl⟩ := List.mem_map.mp hx'
              have := hx y (List.mem_of_mem_drop hy)
              rw [List.length_eraseIdx, this]
              rw [if_pos (by omega)]
              omega
            refine ⟨_, _, rfl, rfl, ?_, _, _, rfl, rfl, ?_⟩
            · have b1 := (hs _ hm0).getD i
              rw [← g0] at b1
              have b2 := det_small (e := e) (n := n) (m := (m.drop 1).map fun (x : List Int) => x.eraseIdx i) (by omega) (Smalls.erase (fun x hx' => hs x (List.mem_of_mem_drop hx')) i)
              refine mul_ok (a := e) (b := (e + 3) * n) ?_ b2 ?_
              · rw [Int.natAbs_mul]
                rcases sg with h | h <;> rw [h]
                · simpa using b1
                · simpa using b1
              · have : (e + 3) * n ≤ (e + 3) * 6 := Nat.mul_le_mul_left _ (by omega)
                omega
            · refine ⟨_, rfl, _, _, rfl, rfl, some (.int i), some (.ref D), y5, ?_, s24.trans s5⟩
              rw [sum_range_succ, sgn_int]
              rfl
        · rintro σ H2 ⟨y3, y4, y5, rfl, s2⟩
          refine ⟨_, rfl, ?_⟩
          rw [show ws.length = n + 1 by omega, ← det_terms hm]
          exact q H2 s2
/-! ### cofactors -/
theorem sc_cofactors : FnScope ["rows", "k", "told", "sign", "others", "column", "row"] ["rows", "k"] (defScope s_cofactors) := ⟨rfl, rfl, rfl, by decide +kernel, rfl, by decide +kernel, by decide +kernel⟩
def cofT (n : Nat) (m : List (List Int)) (k j : Nat) : Int := (if (k + j) % 2 = 0 then (1 : Int) else -1) * Si18.det (n - 1) ((m.eraseIdx k).map fun (x : Si18.Row) => x.eraseIdx j)
def cofR (n : Nat) (m : List (List Int)) (k : Nat) : List Int := (List.range n).map (cofT n m k)
theorem other_cofR (n : Nat) (m : List (List Int)) : Si18.other n m = (List.range n).map (cofR n m) := rfl
theorem erase_cut (m : List (List Int)) (k : Nat) : m.eraseIdx k = m.take k ++ m.drop (k + 1) := List.eraseIdx_eq_take_drop_succ ..
theorem cofR_len {n : Nat} {m : List (List Int)} {k : Nat} : (cofR n m k).length = n := by
  unfold cofR
  rw [List.length_map, List.length_range]
theorem cofT_small {e n : Nat} {m : List (List Int)} (h : Smalls e m) (h5 : n ≤ 5) (k j : Nat) : (cofT n m k j).natAbs ≤ 2 ^ ((e + 3) * 4) := by
  unfold cofT
  rw [Int.natAbs_mul]
  have s : (if (k + j) % 2 = 0 then (1 : Int) else -1).natAbs = 1 := by split <;> rfl
  rw [s, Nat.one_mul]
  exact Nat.le_trans (det_small (e := e) (by omega) (Smalls.erase (fun x hx => h x (List.mem_of_mem_eraseIdx hx)) j)) (Nat.pow_le_pow_right (by decide) (Nat.mul_le_mul_left _ (by omega)))
theorem cofR_small {e n : Nat} {m : List (List Int)} (h : Smalls e m) (h5 : n ≤ 5) {k : Nat} : Small ((e + 3) * 4) (cofR n m k) := fun z hz => by
  obtain ⟨j, hj, rfl⟩ := range_map_memZ hz
  exact cofT_small h h5 k j
theorem sgn_first (k : Nat) : (1 : Int) - (k : Int) % 2 * 2 = if (k + 0) % 2 = 0 then (1 : Int) else -1 := by
  by_cases h : k % 2 = 0
  · rw [if_pos (by omega)]
    omega
  · rw [if_neg (by omega)]
    omega
def sp_cofactors : Sp := fun vs H Q _ => ∃ (a : Addr) (m : List (List Int)) (n e k : Nat), vs = [.ref a, .int k] ∧ Rw H a n e m ∧ k < n ∧ ∀ H' p, Same H H' → H p = none → H' p = some (.lst (iv (cofR n m k))) → Q (.ref p) H'
theorem ok_cofactors (T : Txt K mg) {f : Addr} {fd : FuncData} (F : Dn K mg "cofactors" s_cofactors ["rows", "k"] f fd) : FnOk P w K mg base CX0 8 f fd ["rows", "k"] sp_cofactors := by
  refine F.F.ok sc_cofactors (fun vs H Q E h => ?_) (fun cdv A outer s H vs Q E hr h => ?_)
  · obtain ⟨a, m, n, e, k, rfl, _⟩ := h
    rfl
  · obtain ⟨a, m, n, e, k, rfl, hm, hk, q⟩ := h
    obtain ⟨f1, fd1, F1⟩ := T.d_without
    obtain ⟨f2, fd2, F2⟩ := T.d_determinant
    have h5 := hm.n5
    have he := hm.he
    have hlen := hm.len
    have G1 : FnOk P w K mg base CX0 1 f1 fd1 ["row", "column"] sp_without := ok_without T F1
    have G2 : FnOk P w K mg base CX0 7 f2 fd2 ["rows"] (spd ((n - 1) + 1)) := (ok_determinant T F2 ((n - 1) + 1) (by omega)).mono (by omega)
    have hr1 : Room 1 _ := hr.mono (by omega)
    refine ⟨_, pss_cons (ps_set (i := 2) sc_cofactors.nd rfl (.inl rfl) (pe_lst pa_nil))
      (pss_cons (ps_set (i := 3) sc_cofactors.nd rfl (.inl rfl) (pe_op op_sub pe_int (pe_op op_mul (pe_op op_mod (pv 1) pe_int) pe_int)))
      (pss_cons (ps_set (i := 4) sc_cofactors.nd rfl (.inl rfl) (pe_op op_cat (pe_slice sl_list (pv 0) po_none (po_some (pv 1))) (pe_slice sl_list (pv 0) (po_some (pe_op op_add (pv 1) pe_int)) po_none)))
      (pss_cons (ps_for PassesOwn.never rfl (pi_range1 (by rfl) T.b_range (pa_cons (pe_callB call_len_seq (by rfl) T.b_len PySem.boot_len (pa_cons (pv 0) pa_nil)) pa_nil)) (pg_name (i := 5) sc_cofactors.nd rfl (Or.inr rfl))
        (pss_cons (ps_expr (pe_bm PySem.F.plainAttrs_list PySem.F.slot_list_append PySem.F.type_list_append mt_append (pv 2) (pa_cons (pe_op op_mul (pv 3)
            (pe_call G2 hr (by rfl) F2.g F2.F.kp F2.b .nil pass0 (pa_cons (pe_lc (own := [("row", 6)]) (g := gName 6) (tt := tYes) rfl sc_cofactors.nd (pi_list (pv 4))
              (blkOk_by (N := ["rows", "k", "told", "sign", "others", "column", "row"]) (sc := defScope s_cofactors) (by decide +kernel)) (fun _ _ _ _ _ => pg_name (i := 6) sc_cofactors.nd rfl (Or.inl rfl)) (fun _ _ _ _ _ => pts_nil)
              (fun _ _ _ _ _ => pe_call G1 hr1 (by rfl) F1.g F1.F.kp F1.b .nil pass0 (pa_cons (pv 6) (pa_cons (pv 5) pa_nil)))) pa_nil))) pa_nil)))
        (pss_one (ps_set (i := 3) sc_cofactors.nd rfl (.inl rfl) (pe_op op_sub pe_int (pv 3))))))
      (pss_one (ps_ret (pv 2)))))), ?_⟩
    obtain ⟨ws, ea, hR⟩ := hm.rat
    have hlw := hR.1
    refine ⟨Nat.zero_le _, fun t nt => ?_⟩
    have s0 := same_upd (o := .lst []) nt
    refine ⟨_, rfl, _, _, rfl, rfl, (by show (0 : Int) < 2; decide), _, _, rfl, rfl, .inl ⟨by omega, by omega⟩, _, _, rfl, rfl, ?_⟩
    refine ⟨_, rfl, _, rfl, k, rfl, a, ws, rfl, SqL.of (s0 _ _ ea), fun c nc => ?_⟩
    have e1 : cutV ws none (some (k : Int)) = ws.take k := cut_to ws k
    rw [e1]
    have s1 := same_upd (o := .lst (ws.take k)) nc
    refine ⟨_, rfl, _, rfl, _, _, rfl, rfl, _, rfl, a, ws, rfl, SqL.of (s1 _ _ (s0 _ _ ea)), fun d nd => ?_⟩
    have e2 : cutV ws (some ((k : Int) + 1)) none = ws.drop (k + 1) := cut_from ws (k + 1)
    rw [e2]
    have s2 := same_upd (o := .lst (ws.drop (k + 1))) nd
    refine ⟨c, d, _, _, rfl, rfl, s2 _ _ upd_same, upd_same, ?_, fun u nu => ?_⟩
    · rw [List.length_take, List.length_drop]
      exact Nat.le_of_lt (small_line (by omega))
    have s3 := same_upd (o := .lst (ws.take k ++ ws.drop (k + 1))) nu
    have nut : u ≠ t := (ne_of_none ((s1.trans s2) _ _ (upd_same (H := H) (a := t) (o := .lst []))) nu).symm
    have s03 : Same H _ := s0.trans (s1.trans (s2.trans s3))
    have hO : RowsV H (ws.take k ++ ws.drop (k + 1)) (m.eraseIdx k) := by
      rw [erase_cut]
      exact (hR.take k).append (hR.drop (k + 1))
    refine ⟨_, rfl, a, ws, rfl, .inl (SqL.of (s03 _ _ ea)), (ws.length : Int), rfl, by omega, by omega, ?_⟩
    rw [show ((ws.length : Int)).toNat = n by rw [Int.toNat_natCast]; omega]
    refine for_range (lo := 0) (n := n) (fun i σ H' => ∃ y5 y6, σ = [some (.ref a), some (.int k), some (.ref t), some (.int (if (k + i) % 2 = 0 then (1 : Int) else -1)), some (.ref u), y5, y6] ∧ Same H H' ∧ H' u = some (.lst (ws.take k ++ ws.drop (k + 1))) ∧ H' t = some (.lst (iv ((List.range i).map (cofT n m k)))))
      ⟨none, none, ?_, s03, upd_same, ?_⟩ ?_ ?_
    · show _ = [some (V.ref a), some (V.int (k : Int)), some (V.ref t), some (V.int (if (k + 0) % 2 = 0 then (1 : Int) else -1)), some (V.ref u), none, none]
      rw [← sgn_first]
      rfl
    · exact s3 _ _ (s2 _ _ (s1 _ _ upd_same))
    · rintro i σ H2 hi ⟨y5, y6, rfl, sH, eu, et⟩
      have z : (0 : Int) + (i : Int) = (i : Int) := Int.zero_add _
      rw [z]
      refine ⟨_, rfl, .inl ⟨rfl, _, SqL.of et⟩, _, rfl, _, rfl, u, rfl, ⟨_, SqL.of eu⟩, fun D nD => ?_⟩
      refine lc_rows (s := 6) (vs := [6]) (xs := ws.take k ++ ws.drop (k + 1)) (fun j => ((m.eraseIdx k).getD j []).eraseIdx i) nD (SqL.of eu) (by rw [List.length_append, List.length_take, List.length_drop]; omega) (fun _ => rfl) ?_ ?_
      · intro j x H4 Q4 hx4 s4 k4
        obtain ⟨p, y, rfl, ey, ep⟩ := hO.at hx4
        refine ⟨_, rfl, _, rfl, p, y, i, rfl, s4 _ _ (sH _ _ ep), ?_, fun H5 p5 s5 np5 e5 => k4 H5 p5 s5 np5 ?_⟩
        · rw [hm.wide y (List.mem_of_mem_eraseIdx (List.mem_of_getElem? ey))]
          omega
        · rw [e5, List.getD_eq_getElem?_getD, ey]
          rfl
      · intro H4 s4 r4
        rw [hO.1, map_range_getD (f := fun x => x.eraseIdx i)] at r4
        refine ⟨D, _, e, rfl, r4, ?_, ?_, by omega, Smalls.erase (fun x hx' => hm.sm x (List.mem_of_mem_eraseIdx hx')) i, fun H5 s5 => ?_⟩
        · rw [List.length_map, List.length_eraseIdx, hlen, if_pos hk]
        · intro x hx'
          obtain ⟨y, hy, rfl⟩ := List.mem_map.mp hx'
          have := hm.wide y (List.mem_of_mem_eraseIdx hy)
          rw [List.length_eraseIdx, this, if_pos hi]
        refine ⟨_, _, rfl, rfl, .inl ?_, t, _, _, rfl, rfl, s5 _ _ (s4 _ _ et), ?_, _, rfl, _, _, rfl, rfl, some (.int i), y6, ?_, fun b o eb => ?_, ?_, ?_⟩
        · split <;> decide
        · rw [iv_len, List.length_map, List.length_range]
          exact line_lt (by omega)
        · rw [show k + (i + 1) = (k + i) + 1 from rfl, sgn_int]
          rfl
        · rw [upd_ne (ne_of_none eb nt)]
          exact s5 _ _ (s4 _ _ (sH _ _ eb))
        · rw [upd_ne nut]
          exact s5 _ _ (s4 _ _ eu)
        · rw [upd_same, List.range_succ, List.map_append]
          unfold iv
          rw [List.map_append]
          rfl
    · rintro σ H2 ⟨y5, y6, rfl, sH, eu, et⟩
      exact ⟨_, rfl, q H2 t sH nt et⟩
/-! ### are_free -/
theorem sc_are_free : FnScope ["rows", "one", "other"] ["rows"] (defScope s_are_free) := ⟨rfl, rfl, rfl, by decide +kernel, rfl, by decide +kernel, by decide +kernel⟩
/-- the outer block's names -/
def scOne : Scope := { kind := .function, names := [(".0", .local), ("one", .cell), ("rows", .cell)], isGenerator := false, isCoroutine := false, more := [] }
/-- the rows' products -/
def gramOf (m : List (List Int)) : List (List Int) := m.map fun a => m.map fun c => Si18.dot a c
theorem map_rows {β : Type} (m : List (List Int)) (g : List Int → β) : (List.range m.length).map (fun i => g (Si18.row m i)) = m.map g := by
  refine List.ext_getElem (by simp) fun i h1 h2 => ?_
  have hi : i < m.length := by simpa using h2
  rw [List.getElem_map, List.getElem_map, List.getElem_range]
  unfold Si18.row
  rw [List.getD_eq_getElem?_getD, List.getElem?_eq_getElem hi]
  rfl
def sp_are_free (K : PySem.W.Frag) : Sp := fun vs H Q _ => ∃ (a : Addr) (m : List (List Int)) (wi e : Nat), vs = [.ref a] ∧ RowsAt H a m ∧ m.length ≤ 5 ∧ (∀ x, x ∈ m → x.length = wi) ∧ wi ≤ 8 ∧ Smalls e m ∧ e ≤ 1000 ∧
  ∀ H', Same H H' → Q (.bl (Si18.det m.length (gramOf m) != 0)) H'
theorem ok_are_free (T : Txt K mg) {f : Addr} {fd : FuncData} (F : Dn K mg "are_free" s_are_free ["rows"] f fd) : FnOk P w K mg base CX0 9 f fd ["rows"] (sp_are_free K) := by
  refine F.F.ok sc_are_free (fun vs H Q E h => ?_) (fun cdv A outer s H vs Q E hr h => ?_)
  · obtain ⟨a, m, wi, e, rfl, _⟩ := h
    rfl
  · obtain ⟨a, m, wi, e, rfl, ⟨ws, ea, hR⟩, h5, hw, w8, hs, he, q⟩ := h
    obtain ⟨f1, fd1, F1⟩ := T.d_determinant
    obtain ⟨f2, fd2, F2⟩ := T.d_product
    have G1 : FnOk P w K mg base CX0 8 f1 fd1 ["rows"] (spd (m.length + 1)) := (ok_determinant T F1 (m.length + 1) (by omega)).mono (by omega)
    have G2 : FnOk P w K mg base CX0 2 f2 fd2 ["one", "other"] (sp_product K) := (ok_product T F2).mono (by omega)
    have hr1 := hr.mono (show 2 ≤ 8 by omega)
    refine ⟨_, pss_one (ps_ret (pe_cmpR op_ne (pe_call G1 hr (by rfl) F1.g F1.F.kp F1.b .nil pass0 (pa_cons
        (pe_lc (own := [("one", 1)]) (g := gName 1) (tt := tYes) rfl sc_are_free.nd (pi_list (pv 0))
            (blkOk_by (N := ["rows", "one", "other"]) (sc := defScope s_are_free) (by decide +kernel)) (fun _ _ _ _ _ => pg_name (i := 1) sc_are_free.nd rfl (Or.inr rfl)) (fun _ _ _ _ _ => pts_nil)
            (fun _ _ _ _ _ => pe_lc (wi := iList K (tVar 0)) (own := [("other", 2)]) (g := gName 2) (tt := tYes) rfl sc_are_free.nd (pi_list (pv 0)) (blkOk_by (N := ["rows", "one", "other"]) (sc := scOne) (by decide +kernel)) (fun _ _ _ _ _ => pg_name (i := 2) sc_are_free.nd rfl (Or.inl rfl)) (fun _ _ _ _ _ => pts_nil)
              (fun _ _ _ _ _ => pe_call G2 hr1 (by rfl) F2.g F2.F.kp F2.b .nil pass0 (pa_cons (pv 1) (pa_cons (pv 2) pa_nil))))) pa_nil)) pe_int (nomark _))), ?_⟩
    have rowAt : ∀ {i : Nat} {y : List Int}, m[i]? = some y → Si18.row m i = y := fun {i y} ey => by
      unfold Si18.row
      rw [List.getD_eq_getElem?_getD, ey]
      rfl
    refine ⟨_, rfl, a, rfl, ⟨_, SqL.of ea⟩, fun D nD => ?_⟩
    refine lc_rows (s := 1) (vs := [1]) (xs := ws) (fun i => m.map fun c => Si18.dot (Si18.row m i) c) nD (SqL.of ea) (by rw [hR.1]; omega) (fun _ => rfl) ?_ ?_
    · intro i x H3 Q3 hx3 s3 k3
      obtain ⟨p, y, rfl, ey, ep⟩ := hR.at hx3
      have hym := List.mem_of_getElem? ey
      refine ⟨_, rfl, a, rfl, ⟨_, SqL.of (s3 _ _ ea)⟩, fun D3 nD3 => ?_⟩
      refine lc_intsL (s := 2) (vs := [2]) (xs := ws) (fun j => Si18.dot y (Si18.row m j)) nD3 (SqL.of (s3 _ _ ea)) (by rw [hR.1]; omega) (fun _ => rfl) ?_ ?_
      · intro j v H4 Q4 hv s4 k4
        obtain ⟨p2, z, rfl, ez, ep2⟩ := hR.at hv
        rw [rowAt ez] at k4
        have hzm := List.mem_of_getElem? ez
        exact ⟨_, rfl, _, rfl, p, p2, y, z, e, e, rfl, .of (s4 _ _ (s3 _ _ ep)), .of (s4 _ _ (s3 _ _ ep2)), by rw [hw y hym, hw z hzm], hs y hym, hs z hzm, by omega, fun H5 s5 => k4 H5 s5⟩
      · intro H4 s4 e4
        rw [hR.1, map_rows m fun c => Si18.dot y c] at e4
        refine k3 H4 D3 s4 nD3 ?_
        rw [rowAt ey]
        exact e4
    · intro H3 s3 r3
      rw [hR.1, map_rows m fun b => m.map fun c => Si18.dot b c] at r3
      refine ⟨D, gramOf m, e + e + 3, rfl, r3, by unfold gramOf; rw [List.length_map], fun x hx => ?_, by omega, fun x hx z hz => ?_, fun H4 s4 => ?_⟩
      · obtain ⟨y, _, rfl⟩ := List.mem_map.mp hx
        rw [List.length_map]
      · obtain ⟨y, hy, rfl⟩ := List.mem_map.mp hx
        obtain ⟨c, hc, rfl⟩ := List.mem_map.mp hz
        exact dot_small (hs y hy) (hs c hc) (by rw [hw y hy]; exact w8)
      · have := q H4 (s3.trans s4)
        refine ⟨by rfl, ?_⟩
        have e : (!decide (V.int (Si18.det m.length (gramOf m)) = V.int 0)) = (Si18.det m.length (gramOf m) != 0) := by
          by_cases z : Si18.det m.length (gramOf m) = 0
          · rw [z]
            rfl
          · rw [decide_eq_false fun w => z (V.int.inj w)]
            exact (bne_iff_ne.mpr z).symm
        show Q (.bl (!decide (V.int (Si18.det m.length (gramOf m)) = V.int 0))) H4
        rw [e]
        exact this
/-! ### mixed -/
theorem sc_mixed : FnScope ["rows", "k", "j", "table", "a", "line", "c"] ["rows", "k", "j"] (defScope s_mixed) := ⟨rfl, rfl, rfl, by decide +kernel, rfl, by decide +kernel, by decide +kernel⟩
def sp_mixed : Sp := fun vs H Q _ => ∃ (a : Addr) (m : List (List Int)) (n e k j : Nat), vs = [.ref a, .int k, .int j] ∧ Rw H a n e m ∧ k < n ∧ j < n ∧ ∀ H', Same H H' → Q (.int (Si18.lam m k j)) H'
/-- the j-th row of the table -/
def line (m : List (List Int)) (k j a : Nat) : List Int := ((List.range j).map fun c => Si18.dot (Si18.row m a) (Si18.row m c)) ++ [Si18.dot (Si18.row m a) (Si18.row m k)]
theorem lam_lines (m : List (List Int)) (k j : Nat) : Si18.lam m k j = Si18.det (j + 1) ((List.range (j + 1)).map (line m k j)) := by
  unfold Si18.lam Si18.lead
  congr 1
  refine List.map_congr_left fun a _ => ?_
  rw [List.range_succ, List.map_append]
  unfold line
  congr 1
  · refine List.map_congr_left fun c hc => ?_
    have := List.mem_range.mp hc
    rw [if_neg (by omega)]
  · simp
theorem line_len {m : List (List Int)} {k j a : Nat} : (line m k j a).length = j + 1 := by
  unfold line
  rw [List.length_append, List.length_map, List.length_range]
  rfl
theorem row_small {e n : Nat} {m : List (List Int)} (h : Smalls e m) (hl : m.length = n) {k : Nat} (hk : k < n) : Small e (Si18.row m k) := by
  refine h _ ?_
  unfold Si18.row
  rw [List.getD_eq_getElem?_getD, List.getElem?_eq_getElem (by omega)]
  exact List.getElem_mem _
theorem row_len {n : Nat} {m : List (List Int)} (h : ∀ x, x ∈ m → x.length = n) (hl : m.length = n) {k : Nat} (hk : k < n) : (Si18.row m k).length = n := by
  refine h _ ?_
  unfold Si18.row
  rw [List.getD_eq_getElem?_getD, List.getElem?_eq_getElem (by omega)]
  exact List.getElem_mem _
theorem line_small {e n : Nat} {m : List (List Int)} (h : Smalls e m) (hl : m.length = n) (hw : ∀ x, x ∈ m → x.length = n) (h5 : n ≤ 5) {k j a : Nat} (hk : k < n) (hj : j < n) (ha : a < n) : Small (e + e + 3) (line m k j a) := fun z hz => by
  have l := row_len hw hl ha
  unfold line at hz
  rcases List.mem_append.mp hz with hz | hz
  · obtain ⟨c, hc, rfl⟩ := range_map_memZ hz
    exact dot_small (row_small h hl ha) (row_small h hl (by omega)) (by omega)
  · rw [List.mem_singleton.mp hz]
    exact dot_small (row_small h hl ha) (row_small h hl hk) (by omega)
theorem lam_small {e n : Nat} {m : List (List Int)} (h : Smalls e m) (hl : m.length = n) (hw : ∀ x, x ∈ m → x.length = n) (h5 : n ≤ 5) {k j : Nat} (hk : k < n) (hj : j < n) : (Si18.lam m k j).natAbs ≤ 2 ^ (10 * e + 30) := by
  rw [lam_lines]
  refine Nat.le_trans (det_small (e := e + e + 3) (by omega) fun x hx => ?_) (Nat.pow_le_pow_right (by decide) ?_)
  · obtain ⟨a, ha, rfl⟩ := range_map_mem hx
    exact line_small h hl hw h5 hk hj (by omega)
  · have : (e + e + 3 + 3) * (j + 1) ≤ (e + e + 3 + 3) * 5 := Nat.mul_le_mul_left _ (by omega)
    omega
theorem ok_mixed (T : Txt K mg) {f : Addr} {fd : FuncData} (F : Dn K mg "mixed" s_mixed ["rows", "k", "j"] f fd) : FnOk P w K mg base CX0 8 f fd ["rows", "k", "j"] sp_mixed := by
  refine F.F.ok sc_mixed (fun vs H Q E h => ?_) (fun cdv A outer s H vs Q E hr h => ?_)
  · obtain ⟨a, m, n, e, k, j, rfl, _⟩ := h
    rfl
  · obtain ⟨a, m, n, e, k, j, rfl, hm, hk, hj, q⟩ := h
    obtain ⟨f1, fd1, F1⟩ := T.d_product
    obtain ⟨f2, fd2, F2⟩ := T.d_determinant
    have h5 := hm.n5
    have he := hm.he
    have G1 : FnOk P w K mg base CX0 1 f1 fd1 ["one", "other"] (sp_product K) := ok_product T F1
    have G2 : FnOk P w K mg base CX0 7 f2 fd2 ["rows"] (spd (j + 2)) := (ok_determinant T F2 (j + 2) (by omega)).mono (by omega)
    have hr1 : Room 1 _ := hr.mono (by omega)
    refine ⟨_, pss_cons (ps_set (i := 3) sc_mixed.nd rfl (.inl rfl) (pe_lst pa_nil))
      (pss_cons (ps_for PassesOwn.never rfl (pi_range1 (by rfl) T.b_range (pa_cons (pe_op op_add (pv 2) pe_int) pa_nil)) (pg_name (i := 4) sc_mixed.nd rfl (Or.inr rfl))
        (pss_cons (ps_setLc (i := 5) (own := [("c", 6)]) (g := gName 6) (tt := tYes) rfl sc_mixed.nd rfl rfl (sw_true rfl rfl rfl (by decide +kernel)) (pi_range1 (by rfl) T.b_range (pa_cons (pv 2) pa_nil))
            (blkOk_by (N := ["rows", "k", "j", "table", "a", "line", "c"]) (sc := defScope s_mixed) (by decide +kernel)) (fun _ _ _ _ _ => pg_name (i := 6) sc_mixed.nd rfl (Or.inl rfl)) (fun _ _ _ _ _ => pts_nil)
            (fun _ _ _ _ _ => pe_call G1 hr1 (by rfl) F1.g F1.F.kp F1.b .nil pass0 (pa_cons (pe_ix (r := rIxL K) ix_list (pv 0) (pv 4) (fun _ _ => rfl)) (pa_cons (pe_ix (r := rIxL K) ix_list (pv 0) (pv 6) (fun _ _ => rfl)) pa_nil))))
        (pss_one (ps_expr (pe_bm PySem.F.plainAttrs_list PySem.F.slot_list_append PySem.F.type_list_append mt_append (pv 3) (pa_cons (pe_op op_cat (pv 5)
            (pe_lst (pa_cons (pe_call G1 hr1 (by rfl) F1.g F1.F.kp F1.b .nil pass0 (pa_cons (pe_ix ix_list (pv 0) (pv 4) (fun _ _ => rfl)) (pa_cons (pe_ix ix_list (pv 0) (pv 1) (fun _ _ => rfl)) pa_nil))) pa_nil))) pa_nil))))))
      (pss_one (ps_ret (pe_call G2 hr (by rfl) F2.g F2.F.kp F2.b .nil pass0 (pa_cons (pv 3) pa_nil))))), ?_⟩
    refine ⟨Nat.zero_le _, fun t nt => ?_⟩
    refine ⟨_, rfl, _, _, rfl, rfl, _, rfl, by omega, by omega, ?_⟩
    have ej : ((j : Int) + 1).toNat = j + 1 := by omega
    rw [ej]
    refine for_range (lo := 0) (n := j + 1) (fun i σ H' => ∃ y4 y5 y6, σ = [some (.ref a), some (.int k), some (.int j), some (.ref t), y4, y5, y6] ∧ Lcd H t ((List.range i).map (line m k j)) H')
      ⟨none, none, none, rfl, Lcd.zero nt⟩ ?_ ?_
    · rintro i σ H2 hi ⟨y4, y5, y6, rfl, L⟩
      have z : (0 : Int) + (i : Int) = (i : Int) := Int.zero_add _
      rw [z]
      have s2 : Same H H2 := L.1
      obtain ⟨ws, pa, ea, eb, ec, el, es⟩ := hm.row (k := i) (by omega)
      refine ⟨_, rfl, _, rfl, by omega, by omega, fun D nD => ?_⟩
      rw [show ((j : Int)).toNat = j from rfl]
      refine lc_intsR (n := j) (s := 6) (vs := [6]) (fun c => Si18.dot (Si18.row m i) (Si18.row m c)) nD (by omega) (fun _ => rfl) ?_ ?_
      · intro c H3 Q3 hc s3 k3
        obtain ⟨ws', pc, ea', eb', ec', el', es'⟩ := hm.row (k := c) (by omega)
        have s23 := s2.trans s3
        refine ⟨_, rfl, _, rfl, a, ws, i, _, rfl, rfl, s23.seq (SqL.of ea), atI_nat eb, _, rfl, _, rfl, a, ws', c, _, rfl, rfl, s23.seq (SqL.of ea'), atI_nat eb', ?_⟩
        exact ⟨pa, pc, _, _, e, e, rfl, s23.seq (SqL.of ec), s23.seq (SqL.of ec'), by rw [el, el'], es, es', by omega, fun H4 s4 => k3 H4 s4⟩
      · intro H3 s3 eD
        obtain ⟨ws', pc, ea', eb', ec', el', es'⟩ := hm.row (k := k) hk
        have s23 := s2.trans s3
        have tH3 : ∃ wt, H3 t = some (.lst wt) := by
          obtain ⟨_, wt, et, _⟩ := L
          exact ⟨wt, s3 _ _ et⟩
        obtain ⟨wt, et⟩ := tH3
        refine ⟨_, rfl, .inl ⟨rfl, _, SqL.of et⟩, _, rfl, _, rfl, _, rfl, a, ws, i, _, rfl, rfl, s23.seq (SqL.of ea), atI_nat eb, _, rfl, _, rfl, a, ws', k, _, rfl, rfl, s23.seq (SqL.of ea'), atI_nat eb', ?_⟩
        refine ⟨pa, pc, _, _, e, e, rfl, s23.seq (SqL.of ec), s23.seq (SqL.of ec'), by rw [el, el'], es, es', by omega, fun H4 s4 => ?_⟩
        refine ⟨by show 1 ≤ sizeLine; decide, fun u nu => ?_⟩
        refine ⟨D, u, _, _, rfl, rfl, (same_upd nu) _ _ (s4 _ _ eD), upd_same, ?_, fun p np => ?_⟩
        · rw [iv_len, List.length_map, List.length_range]
          exact Nat.le_of_lt (small_line (by show j + 1 ≤ 2000; omega))
        · have s5 : Same H3 (upd (upd H4 u (.lst [.int (Si18.dot (Si18.row m i) (Si18.row m k))])) p (.lst (iv ((List.range j).map fun c => Si18.dot (Si18.row m i) (Si18.row m c)) ++ [.int (Si18.dot (Si18.row m i) (Si18.row m k))]))) := s4.trans ((same_upd nu).trans (same_upd np))
          have np3 : H2 p = none := s3.free (s4.free ((same_upd nu).free np))
          obtain ⟨acc, e1, e2, e3⟩ := L.step nt (s3.trans s5) np3 (x := line m k j i) (by
            rw [upd_same]
            unfold line iv
            rw [List.map_append]
            rfl)
          refine ⟨t, acc, _, rfl, rfl, e1, ?_, some (.int i), some (.ref D), y6, rfl, ?_⟩
          · rw [e2, List.length_map, List.length_range]
            exact line_lt (by omega)
          · rw [List.range_succ, List.map_append]
            exact e3
    · rintro σ H2 ⟨y4, y5, y6, rfl, L⟩
      refine ⟨_, rfl, t, _, e + e + 3, rfl, L.at.2, ?_, ?_, by omega, ?_, fun H3 s3 => ?_⟩
      · rw [List.length_map, List.length_range]
      · intro x hx
        obtain ⟨i, hi, rfl⟩ := range_map_mem hx
        exact line_len
      · intro x hx
        obtain ⟨i, hi, rfl⟩ := range_map_mem hx
        exact line_small hm.sm hm.len hm.wide h5 hk hj (by omega)
      · rw [← lam_lines]
        exact q H3 (L.1.trans s3)
/-! ### corner -/
theorem sc_corner : FnScope ["rows", "j"] ["rows", "j"] (defScope s_corner) := ⟨rfl, rfl, rfl, by decide +kernel, rfl, by decide +kernel, by decide +kernel⟩
def sp_corner : Sp := fun vs H Q _ => ∃ (a : Addr) (m : List (List Int)) (n e j : Nat), vs = [.ref a, .int j] ∧ Rw H a n e m ∧ j ≤ n ∧ ∀ H', Same H H' → Q (.int (Si18.vol m j)) H'
theorem vol_small {e n : Nat} {m : List (List Int)} (h : Smalls e m) (hl : m.length = n) (hw : ∀ x, x ∈ m → x.length = n) (h5 : n ≤ 5) : ∀ {j : Nat}, j ≤ n → (Si18.vol m j).natAbs ≤ 2 ^ (10 * e + 30)
  | 0, _ => by
    show (1 : Int).natAbs ≤ _
    exact Nat.one_le_two_pow
  | j + 1, hj => lam_small h hl hw h5 (k := j) (j := j) hj hj
theorem ok_corner (T : Txt K mg) {f : Addr} {fd : FuncData} (F : Dn K mg "corner" s_corner ["rows", "j"] f fd) : FnOk P w K mg base CX0 9 f fd ["rows", "j"] sp_corner := by
  refine F.F.ok sc_corner (fun vs H Q E h => ?_) (fun cdv A outer s H vs Q E hr h => ?_)
  · obtain ⟨a, m, n, e, j, rfl, _⟩ := h
    rfl
  · obtain ⟨a, m, n, e, j, rfl, hm, hj, q⟩ := h
    obtain ⟨f1, fd1, F1⟩ := T.d_mixed
    have G1 : FnOk P w K mg base CX0 8 f1 fd1 ["rows", "k", "j"] sp_mixed := ok_mixed T F1
    refine ⟨_, pss_cons (ps_if (pt_cmpR op_eq (pv 1) pe_int (nomark _)) (pss_one (ps_ret pe_int)) pss_nil)
      (pss_one (ps_ret (pe_call G1 hr (by rfl) F1.g F1.F.kp F1.b .nil pass0 (pa_cons (pv 0) (pa_cons (pe_op op_sub (pv 1) pe_int) (pa_cons (pe_op op_sub (pv 1) pe_int) pa_nil)))))), ?_⟩
    refine ⟨_, rfl, rfl, _, rfl, ite2 (fun h0 => ?_) (fun h0 => ?_)⟩
    · have e0 : (j : Int) = 0 := V.int.inj (of_decide_eq_true h0)
      have e1 : j = 0 := by omega
      subst e1
      exact q H (Same.refl H)
    · have e0 : j ≠ 0 := fun z => h0 (decide_eq_true (by rw [z]; rfl))
      obtain ⟨i, rfl⟩ : ∃ i, j = i + 1 := ⟨j - 1, by omega⟩
      have ei : ((i + 1 : Nat) : Int) - 1 = (i : Int) := by omega
      refine ⟨_, rfl, _, rfl, _, _, rfl, rfl, _, rfl, _, _, rfl, rfl, a, m, n, e, i, i, ?_, hm, by omega, by omega, fun H' s' => q H' s'⟩
      simp only [List.append_nil, ei]
/-! ### nearest -/
theorem sc_nearest : FnScope ["top", "bottom"] ["top", "bottom"] (defScope s_nearest) := ⟨rfl, rfl, rfl, by decide +kernel, rfl, by decide +kernel, by decide +kernel⟩
def sp_nearest : Sp := fun vs H Q _ => ∃ (x y : Int), vs = [.int x, .int y] ∧ 0 < y ∧ y.natAbs ≤ 2 ^ 8000 ∧ Q (.int (Si18.nearest x y)) H
theorem ok_nearest (T : Txt K mg) {f : Addr} {fd : FuncData} (F : Dn K mg "nearest" s_nearest ["top", "bottom"] f fd) : FnOk P w K mg base CX0 1 f fd ["top", "bottom"] sp_nearest := by
  refine F.F.ok sc_nearest (fun vs H Q E h => ?_) (fun cdv A outer s H vs Q E hr h => ?_)
  · obtain ⟨x, y, rfl, _⟩ := h
    rfl
  · obtain ⟨x, y, rfl, h0, hb, q⟩ := h
    refine ⟨_, pss_one (ps_ret (pe_op op_fdivW (pe_op op_add (pe_op op_mul pe_int (pv 0)) (pv 1)) (pe_op op_mul pe_int (pv 1)))), ?_⟩
    refine ⟨_, rfl, _, _, rfl, rfl, .inl ⟨by decide, by decide⟩, _, rfl, _, _, rfl, rfl, _, rfl, _, _, rfl, rfl, .inl ⟨by decide, by decide⟩, _, _, rfl, rfl, ?_, q⟩
    refine wide_div (b := 8002) (by omega) ?_ (by omega) (by omega)
    rw [Int.natAbs_mul]
    have : (2 : Nat) ^ 8002 = 2 ^ 8000 * 4 := by rw [show 8002 = 8000 + 2 from rfl, Nat.pow_add]
    rw [this]
    have p : (0 : Nat) < 2 ^ 8000 := Nat.pow_pos (by decide)
    show 2 * y.natAbs < _
    generalize (2 : Nat) ^ 8000 = B at *
    omega
/-! ### is_in_turn -/
theorem sc_is_in_turn : FnScope ["rows", "k", "here", "slope"] ["rows", "k"] (defScope s_is_in_turn) := ⟨rfl, rfl, rfl, by decide +kernel, rfl, by decide +kernel, by decide +kernel⟩
def sp_is_in_turn : Sp := fun vs H Q _ => ∃ (a : Addr) (m : List (List Int)) (n e k : Nat), vs = [.ref a, .int k] ∧ Rw H a n e m ∧ 1 ≤ k ∧ k < n ∧ ∀ H', Same H H' → Q (.bl (Si18.holds m k)) H'
theorem ok_is_in_turn (T : Txt K mg) {f : Addr} {fd : FuncData} (F : Dn K mg "is_in_turn" s_is_in_turn ["rows", "k"] f fd) : FnOk P w K mg base CX0 10 f fd ["rows", "k"] sp_is_in_turn := by
  refine F.F.ok sc_is_in_turn (fun vs H Q E h => ?_) (fun cdv A outer s H vs Q E hr h => ?_)
  · obtain ⟨a, m, n, e, k, rfl, _⟩ := h
    rfl
  · obtain ⟨a, m, n, e, k, rfl, hm, h1, hk, q⟩ := h
    obtain ⟨f1, fd1, F1⟩ := T.d_mixed
    obtain ⟨f2, fd2, F2⟩ := T.d_corner
    have G1 : FnOk P w K mg base CX0 9 f1 fd1 ["rows", "k", "j"] sp_mixed := (ok_mixed T F1).mono (by omega)
    have G2 : FnOk P w K mg base CX0 9 f2 fd2 ["rows", "j"] sp_corner := ok_corner T F2
    have he := hm.he
    refine ⟨_, pss_cons (ps_set (i := 2) sc_is_in_turn.nd rfl (.inl rfl) (pe_call G2 hr (by rfl) F2.g F2.F.kp F2.b .nil pass0 (pa_cons (pv 0) (pa_cons (pv 1) pa_nil))))
      (pss_cons (ps_set (i := 3) sc_is_in_turn.nd rfl (.inl rfl) (pe_call G1 hr (by rfl) F1.g F1.F.kp F1.b .nil pass0 (pa_cons (pv 0) (pa_cons (pv 1) (pa_cons (pe_op op_sub (pv 1) pe_int) pa_nil)))))
      (pss_one (ps_ret (pe_cmpR op_le (pe_op op_mulW (pe_op op_mul pe_int (pv 2)) (pv 2))
        (pe_op op_mul pe_int (pe_op op_add (pe_op op_mulW (pe_call G2 hr (by rfl) F2.g F2.F.kp F2.b .nil pass0 (pa_cons (pv 0) (pa_cons (pe_op op_add (pv 1) pe_int) pa_nil))) (pe_call G2 hr (by rfl) F2.g F2.F.kp F2.b .nil pass0 (pa_cons (pv 0) (pa_cons (pe_op op_sub (pv 1) pe_int) pa_nil))))
          (pe_op op_mulW (pv 3) (pv 3)))) (nomark _))))), ?_⟩
    obtain ⟨i, rfl⟩ : ∃ i, k = i + 1 := ⟨k - 1, by omega⟩
    have ei : ((i + 1 : Nat) : Int) - 1 = (i : Int) := by omega
    have bv : ∀ {j : Nat}, j ≤ n → (Si18.vol m j).natAbs ≤ 2 ^ (10 * e + 30) := fun hj => vol_small hm.sm hm.len hm.wide hm.n5 hj
    have bl : (Si18.lam m (i + 1) i).natAbs ≤ 2 ^ (10 * e + 30) := lam_small hm.sm hm.len hm.wide hm.n5 hk (by omega)
    refine ⟨_, rfl, _, rfl, a, m, n, e, i + 1, rfl, hm, by omega, fun H1 s1 => ?_⟩
    refine ⟨_, rfl, _, rfl, _, rfl, _, _, rfl, rfl, a, m, n, e, i + 1, i, by simp only [List.append_nil, ei], hm.same s1, hk, by omega, fun H2 s2 => ?_⟩
    have s12 := s1.trans s2
    refine ⟨_, rfl, _, _, rfl, rfl, .inl ⟨by decide, by decide⟩, _, rfl, _, _, rfl, rfl, ?_, ?_⟩
    · refine mul_ok (a := 10 * e + 32) (b := 10 * e + 30) ?_ (bv (by omega)) (by omega)
      rw [Int.natAbs_mul, show 10 * e + 32 = 2 + (10 * e + 30) by omega, Nat.pow_add]
      exact Nat.mul_le_mul (by decide) (bv (by omega))
    · refine ⟨_, rfl, _, rfl, _, _, rfl, rfl, a, m, n, e, i + 1 + 1, rfl, hm.same s12, hk, fun H3 s3 => ?_⟩
      have s13 := s12.trans s3
      refine ⟨_, rfl, _, rfl, _, _, rfl, rfl, a, m, n, e, i, by simp only [List.append_nil, ei], hm.same s13, by omega, fun H4 s4 => ?_⟩
      refine ⟨_, _, rfl, rfl, mul_ok (bv hk) (bv (by omega)) (by omega), _, rfl, _, rfl, _, _, rfl, rfl, mul_ok bl bl (by omega), _, _, rfl, rfl, _, _, rfl, rfl, .inl ⟨by decide, by decide⟩, _, _, rfl, rfl, ?_⟩
      have q2 := q H4 (s13.trans s4)
      unfold Si18.holds at q2
      have e1 : 3 * Si18.vol m (i + 1) * Si18.vol m (i + 1) = 3 * Si18.vol m (i + 1) ^ 2 := by rw [Int.pow_succ, Int.pow_succ, Int.pow_zero, Int.one_mul, Int.mul_assoc]
      have e2 : Si18.lam m (i + 1) i * Si18.lam m (i + 1) i = Si18.lam m (i + 1) (i + 1 - 1) ^ 2 := by rw [Int.pow_succ, Int.pow_succ, Int.pow_zero, Int.one_mul]; rfl
      rw [e1, e2]
      exact q2
/-! ### lowered -/
theorem sc_lowered : FnScope ["rows", "k", "told", "j", "many"] ["rows", "k"] (defScope s_lowered) := ⟨rfl, rfl, rfl, by decide +kernel, rfl, by decide +kernel, by decide +kernel⟩
theorem Lcd.put {H1 H H4 : Hp} {D p : Addr} {m : List (List Int)} {x : List Int} (hD : H1 D = none) (L : Lcd H1 D m H) (s : Same H H4) (np : H p = none) (e : H4 p = some (.lst (iv x))) (k : Nat) :
    ∃ acc, H4 D = some (.lst acc) ∧ acc.length = m.length ∧ Lcd H1 D (m.set k x) (upd H4 D (.lst (acc.set k (.ref p)))) := by
  obtain ⟨s1, ws, e1, r⟩ := L
  have hp : p ≠ D := fun z => by
    rw [z, e1] at np
    cases np
  refine ⟨ws, s _ _ e1, r.1, fun b o q => ?_, _, upd_same, ?_⟩
  · rw [upd_ne (ne_of_none q hD)]
    exact s _ _ (s1 _ _ q)
  · refine RowsV.set (RowsV.same (fun b o q => ?_) r) ?_
    · by_cases hb : b = D
      · rw [if_pos hb] at q
        cases q
      · rw [if_neg hb] at q ⊢
        rw [upd_ne hb]
        exact s _ _ q
    · rw [if_neg hp, upd_ne hp]
      exact e
theorem Lcd.copy {H : Hp} {D : Addr} {m : List (List Int)} {ws : List V} (hD : H D = none) (e : RowsV H ws m) : Lcd H D m (upd H D (.lst ws)) := by
  refine ⟨same_upd hD, ws, upd_same, e.same fun b o q => ?_⟩
  have hb : b ≠ D := ne_of_none q hD
  rw [if_neg hb, upd_ne hb]
  exact q
/-- in the midst of lowering row k: i steps are done -/
def mid (m : List (List Int)) (k i : Nat) : List (List Int) := ((List.range k).reverse.take i).foldl (fun (c : Si18.Rows) (j : Nat) => Si18.shrink c k j) m
theorem mid_succ {m : List (List Int)} {k i : Nat} (h : i < k) : mid m k (i + 1) = Si18.shrink (mid m k i) k (k - 1 - i) := by
  unfold mid
  have e : (List.range k).reverse[i]? = some (k - 1 - i) := by
    rw [List.getElem?_reverse (by rw [List.length_range]; exact h), List.length_range, List.getElem?_range (by omega)]
  rw [List.take_add_one, e, List.foldl_append]
  rfl
theorem mid_all (m : List (List Int)) (k : Nat) : mid m k k = Si18.shrunk m k := by
  unfold mid Si18.shrunk
  rw [List.take_of_length_le (by rw [List.length_reverse, List.length_range]; exact Nat.le_refl _)]
def eb : Nat → Nat
  | 0 => 12
  | i + 1 => 10 * eb i + 44
theorem eb_ge : ∀ i, 12 ≤ eb i
  | 0 => Nat.le_refl _
  | i + 1 => by
    have := eb_ge i
    show 12 ≤ 10 * eb i + 44
    omega
theorem eb_le {i : Nat} (h : i ≤ 3) : eb i ≤ 16884 := by
  rcases i with _ | _ | _ | _ | i
  · decide
  · decide
  · decide
  · decide
  · omega
theorem Small.mono {e f : Nat} {x : List Int} (h : Small e x) (k : e ≤ f) : Small f x := fun z hz => Nat.le_trans (h z hz) (Nat.pow_le_pow_right (by decide) k)
/-- what is known in the midst -/
structure Mid (n : Nat) (be : Rat) (m : List (List Int)) (k i : Nat) (c : List (List Int)) : Prop where
  P : Gst.Pos n be c
  off : ∀ a, a ≠ k → Si18.row c a = Si18.row m a
  vol : ∀ j, j ≤ k → Si18.vol c j = Si18.vol m j
  sm : Small (eb i) (Si18.row c k)
theorem mem_row {n : Nat} {c : List (List Int)} (hl : c.length = n) {x : List Int} (h : x ∈ c) : ∃ a, a < n ∧ x = Si18.row c a := by
  obtain ⟨a, ha, e⟩ := List.getElem_of_mem h
  refine ⟨a, by omega, ?_⟩
  unfold Si18.row
  rw [List.getD_eq_getElem?_getD, List.getElem?_eq_getElem ha, ← e]
  rfl
/-- at most five rows, none with a great number -/
structure Fit (n : Nat) (m : List (List Int)) : Prop where
  len : m.length = n
  wide : ∀ x, x ∈ m → x.length = n
  sm : Smalls 12 m
  n5 : n ≤ 5
theorem Fit.rw5 {n : Nat} {m : List (List Int)} (F : Fit n m) {H : Hp} {a : Addr} (r : RowsAt H a m) : Rw H a n 12 m := ⟨r, F.len, F.wide, F.n5, F.sm, by omega⟩
theorem Mid.smalls {n : Nat} {be : Rat} {m c : List (List Int)} {k i : Nat} (M : Mid n be m k i c) (F : Fit n m) : Smalls (eb i) c := fun x hx => by
  obtain ⟨a, ha, rfl⟩ := mem_row M.P.sq.len hx
  by_cases e : a = k
  · rw [e]
    exact M.sm
  · rw [M.off a e]
    exact (row_small F.sm F.len ha).mono (eb_ge i)
theorem Mid.rw5 {n : Nat} {be : Rat} {m c : List (List Int)} {k i : Nat} (M : Mid n be m k i c) (F : Fit n m) (hi : i ≤ 3) {H : Hp} {a : Addr} (r : RowsAt H a c) : Rw H a n (eb i) c :=
  ⟨r, M.P.sq.len, M.P.sq.wide, F.n5, M.smalls F, by have := eb_le hi; omega⟩
theorem plus_small {e f g : Nat} {x y : List Int} {c : Int} (hx : Small e x) (hy : Small f y) (hc : c.natAbs ≤ 2 ^ g) (he : e ≤ f + g) : Small (f + g + 1) (Si18.plus x (Si18.times c y)) := fun z hz => by
  unfold Si18.plus Si18.times at hz
  obtain ⟨u, v, hu, hv, rfl⟩ := zipWith_mem hz
  obtain ⟨t, ht, rfl⟩ := List.mem_map.mp hv
  have a1 := hx u hu
  have a2 : (c * t).natAbs ≤ 2 ^ g * 2 ^ f := by
    rw [Int.natAbs_mul]
    exact Nat.mul_le_mul hc (hy t ht)
  have a3 := abs_add_le u (c * t)
  have a4 : (2 : Nat) ^ e ≤ 2 ^ (f + g) := Nat.pow_le_pow_right (by decide) he
  rw [← Nat.pow_add, Nat.add_comm g f] at a2
  rw [Nat.pow_succ]
  show (u + c * t).natAbs ≤ _
  omega
theorem Mid.quot {n : Nat} {be : Rat} {m c : List (List Int)} {k i : Nat} (M : Mid n be m k i c) (F : Fit n m) (hk : k < n) {j : Nat} (hj : j < k) :
    0 < Si18.vol c (j + 1) ∧ (Si18.vol c (j + 1)).natAbs ≤ 2 ^ 8000 ∧ (Si18.nearest (Si18.lam c k j) (Si18.vol c (j + 1))).natAbs ≤ 2 ^ (10 * eb i + 31) := by
  have v0 := M.P.vol_pos (j := j + 1) (by omega)
  refine ⟨v0, ?_, ?_⟩
  · rw [M.vol (j + 1) hj]
    exact Nat.le_trans (vol_small F.sm F.len F.wide F.n5 (j := j + 1) (by omega)) (Nat.pow_le_pow_right (by decide) (by omega))
  · have a := Gst.nearest_abs (x := Si18.lam c k j) v0
    have b := lam_small (M.smalls F) M.P.sq.len M.P.sq.wide F.n5 hk (j := j) (by omega)
    have p : (1 : Nat) ≤ 2 ^ (10 * eb i + 30) := Nat.one_le_two_pow
    rw [show 10 * eb i + 31 = (10 * eb i + 30) + 1 from rfl, Nat.pow_succ]
    omega
theorem vol_inj {n : Nat} {be : Rat} {c m : List (List Int)} (P : Gst.Pos n be c) (Q : Gst.Pos n be m) (h : ∀ i, Gst.N n (Gst.mat c) i = Gst.N n (Gst.mat m) i) {j : Nat} (hj : j ≤ n) : Si18.vol c j = Si18.vol m j := by
  have a := Gst.vol_cast P.sq hj
  rw [Gst.prod_congr fun i _ => h i, ← Gst.vol_cast Q.sq hj] at a
  exact Rat.intCast_inj.mp a
theorem Mid.start {n : Nat} {be : Rat} {m : List (List Int)} (P : Gst.Pos n be m) (F : Fit n m) {k : Nat} (hk : k < n) : Mid n be m k 0 m := ⟨P, fun _ _ => rfl, fun _ _ => rfl, row_small F.sm F.len hk⟩
theorem Mid.next {n : Nat} {be : Rat} {m c : List (List Int)} {k i : Nat} (M : Mid n be m k i c) (F : Fit n m) (hk : k < n) {j : Nat} (hj : j < k) : Mid n be m k (i + 1) (Si18.shrink c k j) := by
  have q := M.quot F hk hj
  have Pn := M.P.shrink hk hj
  have L := Gst.shrink_low M.P.sq hk hj
  have hl := M.P.sq.len
  have hrow : ∀ a, Si18.row (Si18.shrink c k j) a = if a = k then Si18.plus (Si18.row c k) (Si18.times (-(Si18.nearest (Si18.lam c k j) (Si18.vol c (j + 1)))) (Si18.row c j)) else Si18.row c a := fun a => by
    unfold Si18.shrink
    exact Gst.row_set (by omega)
  refine ⟨Pn, fun a ha => ?_, fun t ht => ?_, ?_⟩
  · rw [hrow, if_neg ha]
    exact M.off a ha
  · rw [← M.vol t ht]
    exact vol_inj Pn M.P (fun i => L.sN i) (by omega)
  · rw [hrow, if_pos rfl]
    have e1 : Small 12 (Si18.row c j) := by
      rw [M.off j (by omega)]
      exact row_small F.sm F.len (by omega)
    have g := eb_ge i
    have r := plus_small (c := -(Si18.nearest (Si18.lam c k j) (Si18.vol c (j + 1)))) M.sm e1 (by rw [Int.natAbs_neg]; exact q.2.2) (by omega)
    exact r.mono (by show 12 + (10 * eb i + 31) + 1 ≤ 10 * eb i + 44; omega)
def sp_lowered (be : Rat) : Sp := fun vs H Q _ => ∃ (a : Addr) (m : List (List Int)) (n k : Nat), vs = [.ref a, .int k] ∧ RowsAt H a m ∧ Fit n m ∧ Gst.Pos n be m ∧ k < n ∧ ∀ H' p, Same H H' → RowsAt H' p (Si18.shrunk m k) → Q (.ref p) H'
theorem ok_lowered (T : Txt K mg) (be : Rat) {f : Addr} {fd : FuncData} (F : Dn K mg "lowered" s_lowered ["rows", "k"] f fd) : FnOk P w K mg base CX0 10 f fd ["rows", "k"] (sp_lowered be) := by
  refine F.F.ok sc_lowered (fun vs H Q E h => ?_) (fun cdv A outer s H vs Q E hr h => ?_)
  · obtain ⟨a, m, n, k, rfl, _⟩ := h
    rfl
  · obtain ⟨a, m, n, k, rfl, ⟨ws, ea, hR⟩, hF, hP, hk, q⟩ := h
    obtain ⟨f1, fd1, F1⟩ := T.d_mixed
    obtain ⟨f2, fd2, F2⟩ := T.d_corner
    obtain ⟨f3, fd3, F3⟩ := T.d_nearest
    obtain ⟨f4, fd4, F4⟩ := T.d_with_times
    have G1 : FnOk P w K mg base CX0 9 f1 fd1 ["rows", "k", "j"] sp_mixed := (ok_mixed T F1).mono (by omega)
    have G2 : FnOk P w K mg base CX0 9 f2 fd2 ["rows", "j"] sp_corner := ok_corner T F2
    have G3 : FnOk P w K mg base CX0 9 f3 fd3 ["top", "bottom"] sp_nearest := (ok_nearest T F3).mono (by omega)
    have G4 : FnOk P w K mg base CX0 9 f4 fd4 ["row", "many", "other"] (sp_with_times K) := (ok_with_times T F4).mono (by omega)
    have h5 := hF.n5
    refine ⟨_, pss_cons (ps_set (i := 2) sc_lowered.nd rfl (.inl rfl) (pe_callTy call_list_of (by rfl) T.b_list (by decide +kernel) (pa_cons (pv 0) pa_nil)))
      (pss_cons (ps_for PassesOwn.never rfl (pi_revR (by rfl) T.b_reversed (prg_1 (by rfl) T.b_range (pv 1))) (pg_name (i := 3) sc_lowered.nd rfl (Or.inl rfl))
        (pss_cons (ps_set (i := 4) sc_lowered.nd rfl (.inl rfl) (pe_call G3 hr (by rfl) F3.g F3.F.kp F3.b .nil pass0
          (pa_cons (pe_call G1 hr (by rfl) F1.g F1.F.kp F1.b .nil pass0 (pa_cons (pv 2) (pa_cons (pv 1) (pa_cons (pv 3) pa_nil))))
          (pa_cons (pe_call G2 hr (by rfl) F2.g F2.F.kp F2.b .nil pass0 (pa_cons (pv 2) (pa_cons (pe_op op_add (pv 3) pe_int) pa_nil))) pa_nil))))
        (pss_one (ps_asg (pe_call G4 hr (by rfl) F4.g F4.F.kp F4.b .nil pass0 (pa_cons (pe_ix ix_list (pv 2) (pv 1) (fun _ _ => rfl)) (pa_cons (pe_op op_sub pe_int (pv 4)) (pa_cons (pe_ix ix_list (pv 2) (pv 3) (fun _ _ => rfl)) pa_nil))))
          (pg_sub (pv 2) (pv 1) set_list)))))
      (pss_one (ps_ret (pv 2)))), ?_⟩
    refine ⟨_, rfl, a, ws, rfl, .inl (SqL.of ea), fun t nt => ?_⟩
    refine ⟨_, rfl, _, rfl, by omega, by omega, by omega, by omega, ?_⟩
    have en : ((k : Int) - 0).toNat = k := by omega
    rw [en]
    refine for_rangeC (lo := 0 + ((k : Nat) : Int) - 1) (c := -1) (n := k) (fun i σ H' => ∃ y3 y4, σ = [some (.ref a), some (.int k), some (.ref t), y3, y4] ∧ Lcd H t (mid m k i) H' ∧ Mid n be m k i (mid m k i))
      ⟨none, none, rfl, Lcd.copy nt hR, Mid.start hP hF hk⟩ ?_ ?_
    · rintro i σ H2 hi ⟨y3, y4, rfl, L, M⟩
      obtain ⟨j, hj⟩ : ∃ j, j = k - 1 - i := ⟨_, rfl⟩
      have hjk : j < k := by omega
      have z : (0 + ((k : Nat) : Int) - 1 + (i : Nat) * (-1)) = (j : Int) := by omega
      rw [z]
      have hx := M.rw5 hF (by omega) L.at.2
      have hq := M.quot hF hk hjk
      refine ⟨_, rfl, _, rfl, _, rfl, t, mid m k i, n, eb i, k, j, rfl, hx, hk, by omega, fun H3 s3 => ?_⟩
      refine ⟨_, rfl, _, rfl, _, _, rfl, rfl, t, mid m k i, n, eb i, j + 1, rfl, hx.same s3, by omega, fun H4 s4 => ?_⟩
      refine ⟨_, _, rfl, hq.1, hq.2.1, ?_⟩
      have s34 := s3.trans s4
      obtain ⟨ws1, p1, e1, e2, e3, e4, e5⟩ := (hx.same s34).row (k := k) hk
      obtain ⟨ws2, p2, d1, d2, d3, d4, d5⟩ := (hx.same s34).row (k := j) (by omega)
      refine ⟨_, rfl, _, rfl, t, ws1, k, _, rfl, rfl, SqL.of e1, atI_nat e2, _, rfl, _, _, rfl, rfl, _, rfl, _, rfl, t, ws2, j, _, rfl, rfl, SqL.of d1, atI_nat d2, ?_⟩
      refine ⟨p1, p2, _, _, _, 10 * eb i + 31, eb i, rfl, SqL.of e3, SqL.of d3, by rw [e4, d4], by omega, ?_, d5, ?_, fun H5 p s5 np e6 => ?_⟩
      · rw [Int.zero_sub, Int.natAbs_neg]
        exact hq.2.2
      · have := eb_le (show i ≤ 3 by omega)
        omega
      · obtain ⟨acc, g1, g2, g3⟩ := L.put nt (s34.trans s5) (s34.free np) e6 k
        refine ⟨_, rfl, _, rfl, t, acc, k, k, rfl, rfl, g1, ?_, some (.int j), some (.int (Si18.nearest (Si18.lam (mid m k i) k j) (Si18.vol (mid m k i) (j + 1)))), rfl, ?_, ?_⟩
        · unfold ixN
          rw [if_pos (by omega), if_pos (by rw [g2, M.P.sq.len]; omega), Int.toNat_natCast]
        · rw [mid_succ hi, ← hj]
          rw [Int.zero_sub] at g3
          exact g3
        · rw [mid_succ hi, ← hj]
          exact M.next hF hk hjk
    · rintro σ H2 ⟨y3, y4, rfl, L, M⟩
      refine ⟨_, rfl, ?_⟩
      rw [mid_all] at L
      exact q H2 t L.at.1 L.at.2
/-! ### changed -/
theorem sc_changed : FnScope ["rows", "k"] ["rows", "k"] (defScope s_changed) := ⟨rfl, rfl, rfl, by decide +kernel, rfl, by decide +kernel, by decide +kernel⟩
theorem swapped_cut {m : List (List Int)} {k : Nat} (h1 : 1 ≤ k) (hk : k < m.length) : Si18.swapped m k = m.take (k - 1) ++ [Si18.row m k, Si18.row m (k - 1)] ++ m.drop (k + 1) := by
  unfold Si18.swapped
  obtain ⟨i, rfl⟩ : ∃ i, k = i + 1 := ⟨k - 1, by omega⟩
  rw [show i + 1 - 1 = i from rfl]
  apply List.ext_getElem?
  intro j
  rw [List.append_assoc]
  by_cases c1 : j < i
  · rw [List.getElem?_append_left (by rw [List.length_take]; omega), List.getElem?_take_of_lt c1, List.getElem?_set_ne (by omega), List.getElem?_set_ne (by omega)]
  · rw [List.getElem?_append_right (by rw [List.length_take]; omega), List.length_take, Nat.min_eq_left (by omega)]
    by_cases c2 : j = i
    · subst c2
      rw [Nat.sub_self, List.getElem?_set_self (by rw [List.length_set]; omega)]
      rfl
    · by_cases c3 : j = i + 1
      · subst c3
        rw [List.getElem?_set_ne (by omega), List.getElem?_set_self (by omega), show i + 1 - i = 1 by omega]
        rfl
      · rw [List.getElem?_set_ne (by omega), List.getElem?_set_ne (by omega), List.getElem?_append_right (by show 2 ≤ j - i; omega), List.getElem?_drop]
        congr 1
        show j = i + 1 + 1 + (j - i - 2)
        omega
def sp_changed : Sp := fun vs H Q _ => ∃ (a : Addr) (m : List (List Int)) (k : Nat), vs = [.ref a, .int k] ∧ RowsAt H a m ∧ m.length ≤ 5 ∧ 1 ≤ k ∧ k < m.length ∧ ∀ H' p, Same H H' → RowsAt H' p (Si18.swapped m k) → Q (.ref p) H'
theorem ok_changed (T : Txt K mg) {f : Addr} {fd : FuncData} (F : Dn K mg "changed" s_changed ["rows", "k"] f fd) : FnOk P w K mg base CX0 1 f fd ["rows", "k"] sp_changed := by
  refine F.F.ok sc_changed (fun vs H Q E h => ?_) (fun cdv A outer s H vs Q E hr h => ?_)
  · obtain ⟨a, m, k, rfl, _⟩ := h
    rfl
  · obtain ⟨a, m, k, rfl, ⟨ws, ea, hR⟩, h5, h1, hk, q⟩ := h
    refine ⟨_, pss_one (ps_ret (pe_op op_cat (pe_op op_cat (pe_slice sl_list (pv 0) po_none (po_some (pe_op op_sub (pv 1) pe_int)))
        (pe_lst (pa_cons (pe_ix ix_list (pv 0) (pv 1) (fun _ _ => rfl)) (pa_cons (pe_ix ix_list (pv 0) (pe_op op_sub (pv 1) pe_int) (fun _ _ => rfl)) pa_nil))))
        (pe_slice sl_list (pv 0) (po_some (pe_op op_add (pv 1) pe_int)) po_none))), ?_⟩
    obtain ⟨i, rfl⟩ : ∃ i, k = i + 1 := ⟨k - 1, by omega⟩
    have ei : ((i + 1 : Nat) : Int) - 1 = (i : Int) := by omega
    have hl := hR.1
    obtain ⟨p1, a1, b1⟩ := hR.2 (i + 1) _ (List.getElem?_eq_getElem hk)
    obtain ⟨p0, a0, b0⟩ := hR.2 i _ (List.getElem?_eq_getElem (show i < m.length by omega))
    have g1 : Si18.row m (i + 1) = m[i + 1] := by
      unfold Si18.row
      rw [List.getD_eq_getElem?_getD, List.getElem?_eq_getElem hk]
      rfl
    have g0 : Si18.row m i = m[i]'(by omega) := by
      unfold Si18.row
      rw [List.getD_eq_getElem?_getD, List.getElem?_eq_getElem (show i < m.length by omega)]
      rfl
    refine ⟨_, rfl, _, rfl, _, _, rfl, rfl, _, rfl, a, ws, rfl, SqL.of ea, fun c nc => ?_⟩
    have e1 : cutV ws none (some (((i + 1 : Nat) : Int) - 1)) = ws.take i := by
      rw [ei]
      exact cut_to ws i
    rw [e1]
    have s1 := same_upd (o := .lst (ws.take i)) nc
    have ea1 := s1 _ _ ea
    refine ⟨_, rfl, _, rfl, a, ws, ((i + 1 : Nat) : Int), .ref p1, rfl, rfl, SqL.of ea1, atI_nat a1, _, rfl, _, rfl, _, _, rfl, rfl, a, ws, ((i + 1 : Nat) : Int) - 1, .ref p0, rfl, rfl, SqL.of ea1, ?_, by show 2 ≤ sizeLine; decide, fun d nd => ?_⟩
    · rw [ei]
      exact atI_nat a0
    have s2 := same_upd (o := .lst [.ref p1, .ref p0]) nd
    refine ⟨c, d, _, _, rfl, rfl, s2 _ _ upd_same, upd_same, ?_, fun u nu => ?_⟩
    · rw [List.length_take]
      show min i ws.length + 2 ≤ sizeLine
      exact Nat.le_of_lt (small_line (by omega))
    have s3 := same_upd (o := .lst (ws.take i ++ [.ref p1, .ref p0])) nu
    have ea3 := s3 _ _ (s2 _ _ ea1)
    refine ⟨_, rfl, _, rfl, _, _, rfl, rfl, _, rfl, a, ws, rfl, SqL.of ea3, fun v nv => ?_⟩
    have e2 : cutV ws (some (((i + 1 : Nat) : Int) + 1)) none = ws.drop (i + 1 + 1) := cut_from ws (i + 1 + 1)
    rw [e2]
    have s4 := same_upd (o := .lst (ws.drop (i + 1 + 1))) nv
    refine ⟨u, v, _, _, rfl, rfl, s4 _ _ upd_same, upd_same, ?_, fun x nx => ?_⟩
    · rw [List.length_append, List.length_take, List.length_drop]
      show min i ws.length + 2 + _ ≤ sizeLine
      exact Nat.le_of_lt (small_line (by omega))
    have sA := s1.trans (s2.trans (s3.trans (s4.trans (same_upd (o := .lst (ws.take i ++ [.ref p1, .ref p0] ++ ws.drop (i + 1 + 1))) nx))))
    refine q _ x sA ⟨_, upd_same, ?_⟩
    rw [swapped_cut h1 hk, show i + 1 - 1 = i from rfl, g1, g0]
    refine RowsV.same sA (RowsV.append (RowsV.append (hR.take i) ?_) (hR.drop (i + 1 + 1)))
    have r0 : RowsV H ([] ++ [.ref p1]) ([] ++ [m[i + 1]]) := RowsV.nil.concat b1
    exact r0.concat b0
/-! ### reduced -/
theorem sc_reduced : FnScope ["rows", "told", "k"] ["rows"] (defScope s_reduced) := ⟨rfl, rfl, rfl, by decide +kernel, rfl, by decide +kernel, by decide +kernel⟩
theorem fit_of {n : Nat} {be : Rat} (hb : be ≤ 5000000) (h5 : n ≤ 5) {c : List (List Int)} (P : Gst.Pos n be c) (hs : ∀ i, i < n → Gst.ip n (Gst.mat c i) (Gst.mat c i) ≤ 2 * be) : Fit n c := by
  refine ⟨P.sq.len, P.sq.wide, ?_, h5⟩
  have k : ((4096 * 4096 : Nat) : Rat) = 16777216 := by decide +kernel
  have r := Gst.rows_small P.sq (B := 4096) fun i hi => by
    have := hs i hi
    rw [k]
    grind
  exact fun x hx z hz => r x hx z hz
def sp_reduced (be : Rat) : Sp := fun vs H Q _ => ∃ (a : Addr) (m : List (List Int)) (n : Nat), vs = [.ref a] ∧ RowsAt H a m ∧ n ≤ 5 ∧ be ≤ 5000000 ∧ Gst.Rnd n be m 1000 1 m ∧ ∀ H' p, Same H H' → RowsAt H' p (Si18.reducedOf n m) → Q (.ref p) H'
theorem ok_reduced (T : Txt K mg) (be : Rat) {f : Addr} {fd : FuncData} (F : Dn K mg "reduced" s_reduced ["rows"] f fd) : FnOk P w K mg base CX0 11 f fd ["rows"] (sp_reduced be) := by
  refine F.F.ok sc_reduced (fun vs H Q E h => ?_) (fun cdv A outer s H vs Q E hr h => ?_)
  · obtain ⟨a, m, n, rfl, _⟩ := h
    rfl
  · obtain ⟨a, m, n, rfl, ⟨ws, ea, hR⟩, h5, hb, hI, q⟩ := h
    obtain ⟨f1, fd1, F1⟩ := T.d_lowered
    obtain ⟨f2, fd2, F2⟩ := T.d_is_in_turn
    obtain ⟨f3, fd3, F3⟩ := T.d_changed
    have G1 : FnOk P w K mg base CX0 10 f1 fd1 ["rows", "k"] (sp_lowered be) := ok_lowered T be F1
    have G2 : FnOk P w K mg base CX0 10 f2 fd2 ["rows", "k"] sp_is_in_turn := ok_is_in_turn T F2
    have G3 : FnOk P w K mg base CX0 10 f3 fd3 ["rows", "k"] sp_changed := (ok_changed T F3).mono (by omega)
    refine ⟨_, pss_cons (ps_set (i := 1) sc_reduced.nd rfl (.inl rfl) (pe_callTy call_list_of (by rfl) T.b_list (by decide +kernel) (pa_cons (pv 0) pa_nil)))
      (pss_cons (ps_set (i := 2) sc_reduced.nd rfl (.inl rfl) pe_int)
      (pss_cons (ps_while PassesOwn.never (pt_cmpR op_lt (pv 2) (pe_callB call_len_seq (by rfl) T.b_len PySem.boot_len (pa_cons (pv 1) pa_nil)) (nomark _))
        (pss_cons (ps_set (i := 1) sc_reduced.nd rfl (.inl rfl) (pe_call G1 hr (by rfl) F1.g F1.F.kp F1.b .nil pass0 (pa_cons (pv 1) (pa_cons (pv 2) pa_nil))))
        (pss_one (ps_if (pt_val (pe_call G2 hr (by rfl) F2.g F2.F.kp F2.b .nil pass0 (pa_cons (pv 1) (pa_cons (pv 2) pa_nil))))
          (pss_one (ps_aug (i := 2) sc_reduced.nd rfl (.inl rfl) pe_int ip_add))
          (pss_cons (ps_set (i := 1) sc_reduced.nd rfl (.inl rfl) (pe_call G3 hr (by rfl) F3.g F3.F.kp F3.b .nil pass0 (pa_cons (pv 1) (pa_cons (pv 2) pa_nil))))
          (pss_one (ps_set (i := 2) sc_reduced.nd rfl (.inl rfl) (pe_callB (call_max2 rfl) (by rfl) T.b_max (by decide +kernel) (pa_cons pe_int (pa_cons (pe_op op_sub (pv 2) pe_int) pa_nil))))))))))
      (pss_one (ps_ret (pv 1))))), ?_⟩
    have hrun := (Gst.reducedOf_rnd h5 hI).1
    refine ⟨_, rfl, a, ws, rfl, .inl (SqL.of ea), fun t nt => ?_⟩
    refine ⟨fun fu σ H' => ∃ (p : Addr) (c : List (List Int)) (kk tt : Nat), σ = [some (.ref a), some (.ref p), some (.int kk)] ∧ Same H H' ∧ RowsAt H' p c ∧ Gst.Rnd n be m tt kk c ∧ 2 * tt + (n - kk) < fu ∧ Si18.run n fu kk c = some (Si18.reducedOf n m),
      ⟨20000, t, m, 1, 1000, rfl, same_upd nt, ⟨ws, upd_same, hR.same (same_upd nt)⟩, hI, by omega, hrun⟩, ?_⟩
    rintro fu σ H2 ⟨p, c, kk, tt, rfl, s2, ⟨wc, ec, rc⟩, J, hfu, hrn⟩
    obtain ⟨fu, rfl⟩ : ∃ g, fu = g + 1 := ⟨fu - 1, by omega⟩
    have hlc : wc.length = n := by rw [rc.1, J.P.sq.len]
    have k1 := J.k1
    have hrn' : (if n ≤ kk then some c else
      if Si18.holds (Si18.shrunk c kk) kk = true then Si18.run n fu (kk + 1) (Si18.shrunk c kk) else Si18.run n fu (max 1 (kk - 1)) (Si18.swapped (Si18.shrunk c kk) kk)) = some (Si18.reducedOf n m) := hrn
    refine ⟨_, rfl, _, rfl, p, wc, rfl, .inl (SqL.of ec), _, _, rfl, rfl, _, rfl, ?_⟩
    by_cases hk : kk < n
    · have hlt : ((kk : Nat) : Int) < ((wc.length : Nat) : Int) := by omega
      rw [decide_eq_true hlt]
      rw [if_neg (by omega)] at hrn'
      refine iteT ⟨fun σ' H' => ∃ m', m' < fu + 1 ∧ ∃ (p : Addr) (c : List (List Int)) (kk tt : Nat), σ' = [some (.ref a), some (.ref p), some (.int kk)] ∧ Same H H' ∧ RowsAt H' p c ∧ Gst.Rnd n be m tt kk c ∧ 2 * tt + (n - kk) < m' ∧ Si18.run n m' kk c = some (Si18.reducedOf n m), fun _ _ z => z, ?_⟩
      have Fc : Fit n c := fit_of hb h5 J.P J.short
      obtain ⟨Ps, Ls, hs, hh⟩ := J.lowered h5 hk
      have Fs : Fit n (Si18.shrunk c kk) := fit_of hb h5 Ps hs
      refine ⟨_, rfl, _, rfl, p, c, n, kk, rfl, ⟨wc, ec, rc⟩, Fc, J.P, hk, fun H3 p3 s3 r3 => ?_⟩
      refine ⟨_, rfl, _, rfl, p3, Si18.shrunk c kk, n, 12, kk, rfl, Fs.rw5 r3, k1, hk, fun H4 s4 => ⟨_, rfl, ?_⟩⟩
      cases hh : Si18.holds (Si18.shrunk c kk) kk with
      | true =>
        rw [if_pos hh] at hrn'
        refine iteT ⟨_, rfl, _, _, rfl, rfl, fu, by omega, p3, Si18.shrunk c kk, kk + 1, tt, rfl, s2.trans (s3.trans s4), r3.same s4, J.on h5 hk hh, by omega, hrn'⟩
      | false =>
        rw [if_neg (by rw [hh]; decide)] at hrn'
        obtain ⟨ht, J2⟩ := J.back h5 hk hh
        refine iteF ⟨_, rfl, _, rfl, p3, Si18.shrunk c kk, kk, rfl, r3.same s4, by rw [Fs.len]; exact h5, k1, by rw [Fs.len]; exact hk, fun H5 p5 s5 r5 => ?_⟩
        refine ⟨_, rfl, _, _, rfl, rfl, _, _, rfl, ?_⟩
        have em : (if ((kk : Nat) : Int) - 1 > 1 then ((kk : Nat) : Int) - 1 else 1) = ((max 1 (kk - 1) : Nat) : Int) := by
          split <;> omega
        rw [em]
        exact ⟨fu, by omega, p5, Si18.swapped (Si18.shrunk c kk) kk, max 1 (kk - 1), tt - 1, rfl, s2.trans (s3.trans (s4.trans s5)), r5, J2, by omega, hrn'⟩
    · have hlt : ¬ ((kk : Nat) : Int) < ((wc.length : Nat) : Int) := by omega
      rw [decide_eq_false hlt]
      rw [if_pos (by omega)] at hrn'
      have e := Option.some.inj hrn'
      refine iteF ⟨_, rfl, ?_⟩
      refine q H2 p s2 ?_
      rw [← e]
      exact ⟨wc, ec, rc⟩
/-! ### root -/
theorem sc_root : FnScope ["number", "told"] ["number"] (defScope s_root) := ⟨rfl, rfl, rfl, by decide +kernel, rfl, by decide +kernel, by decide +kernel⟩
theorem newton {X t s : Int} (h0 : 0 < t) (h1 : X < t * t) (hs : s * s ≤ X) : s ≤ (t + X / t) / 2 ∧ (t + X / t) / 2 < t := by
  have a : X / t < t := Int.ediv_lt_of_lt_mul h0 h1
  have b : 2 * s - t ≤ X / t := by
    refine Int.le_ediv_of_mul_le h0 ?_
    have e : (2 * s - t) * t = s * s - (s - t) * (s - t) := by grind
    have p : 0 ≤ (s - t) * (s - t) := by
      rcases Int.le_total 0 (s - t) with q | q
      · exact Int.mul_nonneg q q
      · exact Int.mul_nonneg_of_nonpos_of_nonpos q q
    omega
  omega
def sp_root : Sp := fun vs H Q _ => ∃ X : Int, vs = [.int X] ∧ 0 ≤ X ∧ X < 2 ^ 199 ∧ Q (.int ((Si18.root X.toNat : Nat) : Int)) H
theorem abs_pow {t : Int} {k : Nat} (h0 : 0 ≤ t) (h : t < 2 ^ k) : t.natAbs ≤ 2 ^ k := by
  have e : ((2 ^ k : Nat) : Int) = (2 : Int) ^ k := by
    rw [Int.natCast_pow]
    rfl
  have : ((t.natAbs : Nat) : Int) = t := Int.natAbs_of_nonneg h0
  omega
theorem ok_root (T : Txt K mg) {f : Addr} {fd : FuncData} (F : Dn K mg "root" s_root ["number"] f fd) : FnOk P w K mg base CX0 1 f fd ["number"] sp_root := by
  refine F.F.ok sc_root (fun vs H Q E h => ?_) (fun cdv A outer s H vs Q E hr h => ?_)
  · obtain ⟨X, rfl, _⟩ := h
    rfl
  · obtain ⟨X, rfl, h0, hX, q⟩ := h
    refine ⟨_, pss_cons (ps_set (i := 1) sc_root.nd rfl (.inl rfl) (pv 0))
      (pss_cons (ps_while PassesOwn.never (pt_cmpR op_gt (pe_op op_mulW (pv 1) (pv 1)) (pv 0) (nomark _))
        (pss_one (ps_set (i := 1) sc_root.nd rfl (.inl rfl) (pe_op op_fdiv (pe_op op_add (pv 1) (pe_op op_fdivW (pv 0) (pv 1))) pe_int))))
      (pss_one (ps_ret (pv 1)))), ?_⟩
    have xn : ((X.toNat : Nat) : Int) = X := Int.toNat_of_nonneg h0
    have hXn : X.toNat < 2 ^ 199 := by
      have e : ((2 ^ 199 : Nat) : Int) = (2 : Int) ^ 199 := by decide
      omega
    have r := Gst.root_spec hXn
    have r1 : ((Si18.root X.toNat : Nat) : Int) * ((Si18.root X.toNat : Nat) : Int) ≤ X := by
      have := Int.ofNat_le.mpr r.1
      rw [Int.natCast_mul] at this
      omega
    have r2 : X < (((Si18.root X.toNat : Nat) : Int) + 1) * (((Si18.root X.toNat : Nat) : Int) + 1) := by
      have := Int.ofNat_lt.mpr r.2
      rw [Int.natCast_mul, Int.natCast_add] at this
      rw [xn] at this
      exact this
    have s0 : 0 ≤ ((Si18.root X.toNat : Nat) : Int) := Int.natCast_nonneg _
    generalize ((Si18.root X.toNat : Nat) : Int) = s at *
    refine ⟨_, rfl, fun m σ H' => ∃ t : Int, σ = [some (.int X), some (.int t)] ∧ H' = H ∧ s ≤ t ∧ t ≤ X + 1 ∧ m = t.toNat, ⟨_, X, rfl, rfl, ?_, by omega, rfl⟩, ?_⟩
    · rcases Int.lt_or_le X s with c | c
      · have : s * 1 ≤ s * s := Int.mul_le_mul_of_nonneg_left (by omega) s0
        omega
      · exact c
    · rintro m σ H2 ⟨t, rfl, rfl, h1, h2, rfl⟩
      have tb : t.natAbs ≤ 2 ^ 200 := abs_pow (by omega) (by omega)
      refine ⟨_, rfl, _, rfl, _, _, rfl, rfl, mul_ok tb tb (by omega), _, rfl, _, _, rfl, rfl, _, rfl, ?_⟩
      by_cases c : X < t * t
      · rw [decide_eq_true c]
        have t0 : 0 < t := by
          rcases Int.lt_or_le 0 t with k | k
          · exact k
          · have : t = 0 := by omega
            subst this
            omega
        have nw := newton t0 c r1
        refine iteT ⟨fun σ' H' => ∃ m', m' < t.toNat ∧ ∃ t' : Int, σ' = [some (.int X), some (.int t')] ∧ H' = H2 ∧ s ≤ t' ∧ t' ≤ X + 1 ∧ m' = t'.toNat, fun _ _ z => z, ?_⟩
        refine ⟨_, rfl, _, rfl, _, rfl, _, _, rfl, rfl, ?_, _, _, rfl, rfl, _, _, rfl, rfl, ⟨by decide, by decide⟩, _, by omega, _, rfl, rfl, nw.1, by omega, rfl⟩
        exact wide_div (b := 201) t0 (lt_pow tb) (by omega) (by omega)
      · rw [decide_eq_false c]
        refine iteF ⟨_, rfl, ?_⟩
        have : t = s := by
          rcases Int.lt_or_le s t with k | k
          · have := Int.mul_le_mul (a := s + 1) (b := s + 1) (c := t) (d := t) (by omega) (by omega) (by omega) (by omega)
            omega
          · omega
        rw [this]
        exact q
/-! ### upright -/
theorem sc_upright : FnScope ["rows", "whole", "lines", "k", "line", "number"] ["rows"] (defScope s_upright) := ⟨rfl, rfl, rfl, by decide +kernel, rfl, by decide +kernel, by decide +kernel⟩
/-- the outer block's names -/
def scLine : Scope := { kind := .function, names := [(".0", .local), ("line", .local)], isGenerator := false, isCoroutine := false, more := [] }
def upL (n : Nat) (m : List (List Int)) : List (List Int) := if Si18.det n m < 0 then (Si18.other n m).map fun x => x.map fun z => 0 - z else Si18.other n m
def upW (n : Nat) (m : List (List Int)) : Int := if Si18.det n m < 0 then 0 - Si18.det n m else Si18.det n m
def sp_upright : Sp := fun vs H Q _ => ∃ (a : Addr) (m : List (List Int)) (n e : Nat), vs = [.ref a] ∧ Rw H a n e m ∧ ∀ H' p u, Same H H' → H' p = some (.tup [.ref u, .int (upW n m)]) → RowsAt H' u (upL n m) → Q (.ref p) H'
theorem map_range_getI {f : Int → Int} (l : List Int) : (List.range l.length).map (fun i => f (l.getD i 0)) = l.map f := by
  apply List.ext_getElem
  · simp
  · intro i h1 h2
    simp at h1 h2
    simp [h1]
theorem ok_upright (T : Txt K mg) {f : Addr} {fd : FuncData} (F : Dn K mg "upright" s_upright ["rows"] f fd) : FnOk P w K mg base CX0 9 f fd ["rows"] sp_upright := by
  refine F.F.ok sc_upright (fun vs H Q E h => ?_) (fun cdv A outer s H vs Q E hr h => ?_)
  · obtain ⟨a, m, n, e, rfl, _⟩ := h
    rfl
  · obtain ⟨a, m, n, e, rfl, hm, q⟩ := h
    obtain ⟨f1, fd1, F1⟩ := T.d_determinant
    obtain ⟨f2, fd2, F2⟩ := T.d_cofactors
    have h5 := hm.n5
    have he := hm.he
    have hlen := hm.len
    have G1 : FnOk P w K mg base CX0 8 f1 fd1 ["rows"] (spd (n + 1)) := (ok_determinant T F1 (n + 1) (by omega)).mono (by omega)
    have G2 : FnOk P w K mg base CX0 8 f2 fd2 ["rows", "k"] sp_cofactors := ok_cofactors T F2
    refine ⟨_, pss_cons (ps_set (i := 1) sc_upright.nd rfl (.inl rfl) (pe_call G1 hr (by rfl) F1.g F1.F.kp F1.b .nil pass0 (pa_cons (pv 0) pa_nil)))
      (pss_cons (ps_setLc (i := 2) (own := [("k", 3)]) (g := gName 3) (tt := tYes) rfl sc_upright.nd rfl rfl (sw_true rfl rfl rfl (by decide +kernel)) (pi_range1 (by rfl) T.b_range (pa_cons (pe_callB call_len_seq (by rfl) T.b_len PySem.boot_len (pa_cons (pv 0) pa_nil)) pa_nil))
          (blkOk_by (N := ["rows", "whole", "lines", "k", "line", "number"]) (sc := defScope s_upright) (by decide +kernel)) (fun _ _ _ _ _ => pg_name (i := 3) sc_upright.nd rfl (Or.inl rfl)) (fun _ _ _ _ _ => pts_nil)
          (fun _ _ _ _ _ => pe_call G2 hr (by rfl) F2.g F2.F.kp F2.b .nil pass0 (pa_cons (pv 0) (pa_cons (pv 3) pa_nil))))
      (pss_cons (ps_if (pt_cmpR op_lt (pv 1) pe_int (nomark _))
        (pss_one (ps_ret (pe_tup (pa_cons (pe_lc (own := [("line", 4)]) (g := gName 4) (tt := tYes) rfl sc_upright.nd (pi_list (pv 2))
            (blkOk_by (N := ["rows", "whole", "lines", "k", "line", "number"]) (sc := defScope s_upright) (by decide +kernel)) (fun _ _ _ _ _ => pg_name (i := 4) sc_upright.nd rfl (Or.inl rfl)) (fun _ _ _ _ _ => pts_nil)
            (fun _ _ _ _ _ => pe_lc (wi := iList K (tVar 4)) (own := [("number", 5)]) (g := gName 5) (tt := tYes) rfl sc_upright.nd (pi_list (pv 4)) (blkOk_by (N := ["rows", "whole", "lines", "k", "line", "number"]) (sc := scLine) (by decide +kernel)) (fun _ _ _ _ _ => pg_name (i := 5) sc_upright.nd rfl (Or.inl rfl)) (fun _ _ _ _ _ => pts_nil)
              (fun _ _ _ _ _ => pe_op op_sub pe_int (pv 5))))
          (pa_cons (pe_op op_sub pe_int (pv 1)) pa_nil))))) pss_nil)
      (pss_one (ps_ret (pe_tup (pa_cons (pv 2) (pa_cons (pv 1) pa_nil))))))), ?_⟩
    obtain ⟨ws, ea, hR⟩ := hm.rat
    have hlw := hR.1
    refine ⟨_, rfl, a, m, e, rfl, ⟨ws, ea, hR⟩, hlen, hm.wide, by omega, hm.sm, fun H1 s1 => ?_⟩
    refine ⟨_, rfl, a, ws, rfl, .inl (s1.seq (SqL.of ea)), (ws.length : Int), rfl, by omega, by omega, fun D nD => ?_⟩
    rw [show ((ws.length : Int)).toNat = n by rw [Int.toNat_natCast]; omega]
    refine lc_rowsR (n := n) (s := 3) (vs := [3]) (cofR n m) nD (by omega) (fun _ => rfl) ?_ ?_
    · intro k H2 Q2 hk s2 k2
      exact ⟨_, rfl, _, rfl, a, m, n, e, k, rfl, (hm.same (s1.trans s2)), hk, fun H3 p s3 np e3 => k2 H3 p s3 np e3⟩
    · intro H2 s2 r2
      rw [← other_cofR] at r2
      have s12 := s1.trans s2
      refine ⟨_, rfl, _, _, rfl, rfl, _, rfl, ite2 (fun hneg => ?_) (fun hneg => ?_)⟩
      · have hn : Si18.det n m < 0 := of_decide_eq_true hneg
        obtain ⟨wl, el, rl⟩ := r2
        have hol : (Si18.other n m).length = n := by
          rw [other_cofR, List.length_map, List.length_range]
        have hwl := rl.1
        refine ⟨_, rfl, D, rfl, ⟨_, SqL.of el⟩, fun D2 nD2 => ?_⟩
        refine lc_rows (s := 4) (vs := [4]) (xs := wl) (fun j => ((Si18.other n m).getD j []).map fun z => 0 - z) nD2 (SqL.of el) (by omega) (fun _ => rfl) ?_ ?_
        · intro j x H3 Q3 hx3 s3 k3
          obtain ⟨p, y, rfl, ey, ep⟩ := rl.at hx3
          refine ⟨_, rfl, p, rfl, ⟨_, SqL.of (s3 _ _ ep)⟩, fun D3 nD3 => ?_⟩
          have hyl : y.length = n := by
            have := List.mem_of_getElem? ey
            rw [other_cofR] at this
            obtain ⟨i, hi, rfl⟩ := range_map_mem this
            exact cofR_len
          refine lc_intsL (s := 5) (vs := [5]) (xs := iv y) (fun i => 0 - y.getD i 0) nD3 (SqL.of (s3 _ _ ep)) (by rw [iv_len]; omega) (fun _ => rfl) ?_ ?_
          · intro i v H4 Q4 hv s4 k4
            obtain ⟨hi, rfl⟩ := iv_get hv
            exact ⟨_, rfl, _, _, rfl, rfl, k4 H4 (Same.refl H4)⟩
          · intro H4 s4 e4
            rw [iv_len, map_range_getI (f := fun z => 0 - z)] at e4
            refine k3 H4 D3 s4 nD3 ?_
            rw [List.getD_eq_getElem?_getD, ey]
            exact e4
        · intro H3 s3 r3
          rw [hwl, map_range_getD (f := fun x => x.map fun z => 0 - z)] at r3
          refine ⟨_, rfl, _, _, rfl, rfl, by show 2 ≤ sizeLine; decide, fun t nt => ?_⟩
          refine q _ t D2 (s12.trans (s3.trans (same_upd nt))) ?_ ?_
          · rw [upd_same]
            unfold upW
            rw [if_pos hn]
          · unfold upL
            rw [if_pos hn]
            exact r3.same (same_upd nt)
      · have hn : ¬ Si18.det n m < 0 := fun z => hneg (decide_eq_true z)
        refine ⟨_, rfl, _, rfl, by show 2 ≤ sizeLine; decide, fun t nt => ?_⟩
        refine q _ t D (s12.trans (same_upd nt)) ?_ ?_
        · rw [upd_same]
          unfold upW
          rw [if_neg hn]
        · unfold upL
          rw [if_neg hn]
          exact r2.same (same_upd nt)
/-! ### what upright tells -/
theorem up_len {n : Nat} {m : List (List Int)} : (upL n m).length = n := by
  unfold upL
  split
  · rw [List.length_map, other_cofR, List.length_map, List.length_range]
  · rw [other_cofR, List.length_map, List.length_range]
theorem up_mem {n : Nat} {m : List (List Int)} {x : List Int} (h : x ∈ upL n m) : ∃ k, k < n ∧ (x = cofR n m k ∨ (Si18.det n m < 0 ∧ x = (cofR n m k).map fun z => 0 - z)) ∧ (Si18.det n m < 0 → x = (cofR n m k).map fun z => 0 - z) := by
  unfold upL at h
  split at h
  · rename_i hn
    obtain ⟨y, hy, rfl⟩ := List.mem_map.mp h
    rw [other_cofR] at hy
    obtain ⟨k, hk, rfl⟩ := range_map_mem hy
    exact ⟨k, hk, .inr ⟨hn, rfl⟩, fun _ => rfl⟩
  · rename_i hn
    rw [other_cofR] at h
    obtain ⟨k, hk, rfl⟩ := range_map_mem h
    exact ⟨k, hk, .inl rfl, fun z => absurd z hn⟩
theorem up_wide {n : Nat} {m : List (List Int)} : ∀ x, x ∈ upL n m → x.length = n := fun x hx => by
  obtain ⟨k, hk, h, _⟩ := up_mem hx
  rcases h with rfl | ⟨_, rfl⟩
  · exact cofR_len
  · rw [List.length_map]
    exact cofR_len
theorem up_small {e n : Nat} {m : List (List Int)} (h : Smalls e m) (h5 : n ≤ 5) : Smalls ((e + 3) * 4) (upL n m) := fun x hx => by
  obtain ⟨k, hk, hh, _⟩ := up_mem hx
  rcases hh with rfl | ⟨_, rfl⟩
  · exact cofR_small h h5
  · intro z hz
    obtain ⟨y, hy, rfl⟩ := List.mem_map.mp hz
    have := cofR_small h h5 y hy
    rw [Int.zero_sub, Int.natAbs_neg]
    exact this
theorem up_pos {n : Nat} {m : List (List Int)} (h : Si18.det n m ≠ 0) : 0 < upW n m := by
  unfold upW
  split <;> omega
theorem upW_small {e n : Nat} {m : List (List Int)} (h : Smalls e m) (h5 : n ≤ 5) : (upW n m).natAbs ≤ 2 ^ ((e + 3) * 5) := by
  have : (upW n m).natAbs = (Si18.det n m).natAbs := by
    unfold upW
    split <;> omega
  rw [this]
  exact Nat.le_trans (det_small (e := e) (by omega) h) (Nat.pow_le_pow_right (by decide) (Nat.mul_le_mul_left _ h5))
/-! ### multiples_within -/
theorem sc_multiples_within : FnScope ["line", "whole", "place", "most", "middle", "far"] ["line", "whole", "place", "most"] (defScope s_multiples_within) := ⟨rfl, rfl, rfl, by decide +kernel, rfl, by decide +kernel, by decide +kernel⟩
def sp_multiples_within (K : PySem.W.Frag) : Sp := fun vs H Q _ => ∃ (a b : Addr) (x place : List Int) (W most : Int) (e f : Nat), vs = [.ref a, .int W, .ref b, .int most] ∧ SqL K H a (iv x) ∧ SqL K H b (iv place) ∧ x.length = place.length ∧ Small e x ∧ Small f place ∧ e ≤ 40000 ∧ f ≤ 40000 ∧
  0 < W ∧ W.natAbs ≤ 2 ^ 8000 ∧ 0 ≤ most ∧ most < 2 ^ 60 ∧ 0 ≤ most * Si18.square x ∧ most * Si18.square x < 2 ^ 199 ∧
  ∀ H' p, Same H H' → H' p = some (.tup [.int (0 - (((Si18.root (most * Si18.square x).toNat : Nat) : Int) - Si18.dot x place) / W), .int ((Si18.dot x place + ((Si18.root (most * Si18.square x).toNat : Nat) : Int)) / W)]) → Q (.ref p) H'
theorem ok_multiples_within (T : Txt K mg) {f : Addr} {fd : FuncData} (F : Dn K mg "multiples_within" s_multiples_within ["line", "whole", "place", "most"] f fd) : FnOk P w K mg base CX0 3 f fd ["line", "whole", "place", "most"] (sp_multiples_within K) := by
  refine F.F.ok sc_multiples_within (fun vs H Q E h => ?_) (fun cdv A outer s H vs Q E hr h => ?_)
  · obtain ⟨a, b, x, place, W, most, e, f, rfl, _⟩ := h
    rfl
  · obtain ⟨a, b, x, place, W, most, e, f, rfl, ha, hb, hl, hx, hp, he, hf, hW, hWs, h0, hmb, hX0, hX, q⟩ := h
    obtain ⟨f1, fd1, F1⟩ := T.d_product
    obtain ⟨f2, fd2, F2⟩ := T.d_square
    obtain ⟨f3, fd3, F3⟩ := T.d_root
    have G1 : FnOk P w K mg base CX0 2 f1 fd1 ["one", "other"] (sp_product K) := (ok_product T F1).mono (by omega)
    have G2 : FnOk P w K mg base CX0 2 f2 fd2 ["row"] (sp_square K) := ok_square T F2
    have G3 : FnOk P w K mg base CX0 2 f3 fd3 ["number"] sp_root := (ok_root T F3).mono (by omega)
    refine ⟨_, pss_cons (ps_set (i := 4) sc_multiples_within.nd rfl (.inl rfl) (pe_call G1 hr (by rfl) F1.g F1.F.kp F1.b .nil pass0 (pa_cons (pv 0) (pa_cons (pv 2) pa_nil))))
      (pss_cons (ps_set (i := 5) sc_multiples_within.nd rfl (.inl rfl) (pe_call G3 hr (by rfl) F3.g F3.F.kp F3.b .nil pass0 (pa_cons (pe_op op_mul (pv 3) (pe_call G2 hr (by rfl) F2.g F2.F.kp F2.b .nil pass0 (pa_cons (pv 0) pa_nil))) pa_nil)))
      (pss_one (ps_ret (pe_tup (pa_cons (pe_op op_sub pe_int (pe_op op_fdivW (pe_op op_sub (pv 5) (pv 4)) (pv 1))) (pa_cons (pe_op op_fdivW (pe_op op_add (pv 4) (pv 5)) (pv 1)) pa_nil)))))), ?_⟩
    have wd : CDivW 0 W := wide_div (b := 8001) hW (lt_pow hWs) (by omega) (by omega)
    refine ⟨_, rfl, _, rfl, a, b, x, place, e, f, rfl, ha, hb, hl, hx, hp, by omega, fun H1 s1 => ?_⟩
    refine ⟨_, rfl, _, rfl, a, x, e, rfl, s1.seq ha, hx, by omega, fun H2 s2 => ?_⟩
    refine ⟨_, _, rfl, rfl, .inl ⟨by omega, by omega⟩, _, rfl, hX0, hX, ?_⟩
    refine ⟨_, rfl, _, rfl, _, _, rfl, rfl, _, rfl, _, _, rfl, rfl, wd, _, _, rfl, rfl, _, rfl, _, rfl, _, _, rfl, rfl, _, rfl, _, _, rfl, rfl, wd, by show 2 ≤ sizeLine; decide, fun t nt => ?_⟩
    exact q _ t (s1.trans (s2.trans (same_upd nt))) upd_same
/-! ### points_within -/
theorem sc_points_within : FnScope ["rows", "place", "most", "lines", "whole", "points", "row", "line", "low", "high", "further", "point", "number", "many"] ["rows", "place", "most"] (defScope s_points_within) := ⟨rfl, rfl, rfl, by decide +kernel, rfl, by decide +kernel, by decide +kernel⟩
theorem big_line {n : Nat} (h : n ≤ 16000000) : n < sizeLine := Nat.lt_of_le_of_lt h (by decide)
section
variable {te : TE} {σ : L2.St} {H1 : Hp} {D : Addr} {Qd : Hp → Prop} {s : Nat} {vs : List Nat}
/-- [a row for each number of a range], a long one -/
theorem lc_rowsB {lo : Int} {n : Nat} (F : Nat → List Int) (hD : H1 D = none) (hlen : n ≤ 16000000) (hw : ∀ x, wipe ((wipe σ vs).set s (some x)) vs = wipe σ vs)
    (step : ∀ (i : Nat) H Q, i < n → Same H1 H → (∀ H' p, Same H H' → H p = none → H' p = some (.lst (iv (F i))) → Q (.ref p) H') → te ((wipe σ vs).set s (some (.int (lo + (i : Int))))) H Q)
    (hd : ∀ H, Same H1 H → RowsAt H D ((List.range n).map F) → Qd H) :
    ∃ W : Nat → Nat → Hp → Prop, (∃ m, W 0 m (upd H1 D (.lst []))) ∧ ∀ i m H, W i m H →
      ((Itr lo n).stop i H ∧ Qd H) ∨ ((Itr lo n).go i H ∧ ∃ Nx : Hp → Prop, (∀ H', Nx H' → ∃ m', m' < m ∧ W (i + 1) m' H') ∧ ∀ x H', (Itr lo n).yld i H x H' → gName s x (wipe σ vs) H' fun σ2 H2 => wipe σ2 vs = wipe σ vs ∧ tYes σ2 H2 fun b H3 =>
        if b = true then te σ2 H3 fun y H4 => ∃ acc, H4 D = some (.lst acc) ∧ acc.length < sizeLine ∧ Nx (upd H4 D (.lst (acc ++ [y]))) else Nx H3) := by
  refine lc_range (lo := lo) (n := n) (g := gName s) (tt := tYes) (te := te) (vs := vs) (σ := σ) (Qd := Qd) (fun i H => Lcd H1 D ((List.range i).map F) H) (Lcd.zero hD) (fun i H hi L => ?_) (fun H L => hd H L.at.1 L.at.2)
  refine ⟨hw _, ?_⟩
  show te ((wipe σ vs).set s (some (.int (lo + (i : Int))))) H _
  refine step i H _ hi L.1 fun H' p s' np e => ?_
  obtain ⟨acc, e1, e2, e3⟩ := L.step hD s' np e
  refine ⟨acc, e1, ?_, ?_⟩
  · rw [e2, List.length_map, List.length_range]
    exact big_line (by omega)
  · rw [List.range_succ, List.map_append]
    exact e3
end
/-- rows that aren't empty stand elsewhere than a list of rows -/
theorem RowsV.hide {H : Hp} {D : Addr} {ws vs : List V} {m l : List (List Int)} (e : H D = some (.lst ws)) (r : RowsV H ws m) (k : RowsV H vs l) (ne : ∀ x, x ∈ l → x ≠ []) : RowsV (fun b => if b = D then none else H b) vs l := by
  refine ⟨k.1, fun i x hx => ?_⟩
  obtain ⟨p, e1, e2⟩ := k.2 i x hx
  refine ⟨p, e1, ?_⟩
  have hp : p ≠ D := fun z => by
    rw [z, e] at e2
    have w : ws = iv x := by
      have := Option.some.inj e2
      injection this
    cases hc : x with
    | nil => exact ne x (List.mem_of_getElem? hx) hc
    | cons a t =>
      rw [hc] at w
      have w0 : ws[0]? = some (.int a) := by
        rw [w]
        rfl
      obtain ⟨p', _, z1, _⟩ := r.at w0
      cases z1
  show (if p = D then none else H p) = _
  rw [if_neg hp]
  exact e2
theorem RowsV.unhide {H : Hp} {D : Addr} {ws : List V} {m : List (List Int)} (r : RowsV (fun b => if b = D then none else H b) ws m) : RowsV H ws m := r.same fun b o q => by
  have q : (if b = D then none else H b) = some o := q
  by_cases hb : b = D
  · rw [if_pos hb] at q
    cases q
  · rw [if_neg hb] at q
    exact q
theorem Lcd.extend {H1 H H4 : Hp} {D : Addr} {m l : List (List Int)} {vs : List V} (hD : H1 D = none) (L : Lcd H1 D m H) (s : Same H H4) (r : RowsV H4 vs l) (ne : ∀ x, x ∈ l → x ≠ []) :
    ∃ acc, H4 D = some (.lst acc) ∧ acc.length = m.length ∧ Lcd H1 D (m ++ l) (upd H4 D (.lst (acc ++ vs))) := by
  obtain ⟨s1, ws, e1, rw0⟩ := L
  have hide : ∀ {us : List V} {k : List (List Int)}, RowsV (fun b => if b = D then none else H4 b) us k → RowsV (fun b => if b = D then none else (upd H4 D (.lst (ws ++ vs))) b) us k := fun z => z.same fun b o q => by
    have q : (if b = D then none else H4 b) = some o := q
    show (if b = D then none else (upd H4 D (.lst (ws ++ vs))) b) = some o
    by_cases hb : b = D
    · rw [if_pos hb] at q
      cases q
    · rw [if_neg hb] at q ⊢
      rw [upd_ne hb]
      exact q
  have rw4 : RowsV (fun b => if b = D then none else H4 b) ws m := rw0.same fun b o q => by
    have q : (if b = D then none else H b) = some o := q
    show (if b = D then none else H4 b) = some o
    by_cases hb : b = D
    · rw [if_pos hb] at q
      cases q
    · rw [if_neg hb] at q ⊢
      exact s _ _ q
  refine ⟨ws, s _ _ e1, rw0.1, fun b o q => ?_, _, upd_same, ?_⟩
  · rw [upd_ne (ne_of_none q hD)]
    exact s _ _ (s1 _ _ q)
  · exact (hide rw4).append (hide (RowsV.hide (s _ _ e1) rw4.unhide r ne))
/-- an old row is appended -/
theorem Lcd.keep {H1 H H4 : Hp} {D p : Addr} {m : List (List Int)} {x : List Int} (hD : H1 D = none) (L : Lcd H1 D m H) (s : Same H H4) (hp : H1 p = some (.lst (iv x))) :
    ∃ acc, H4 D = some (.lst acc) ∧ acc.length = m.length ∧ Lcd H1 D (m ++ [x]) (upd H4 D (.lst (acc ++ [.ref p]))) := by
  obtain ⟨s1, ws, e1, r⟩ := L
  have hpd : p ≠ D := ne_of_none hp hD
  refine ⟨ws, s _ _ e1, r.1, fun b o q => ?_, _, upd_same, ?_⟩
  · rw [upd_ne (ne_of_none q hD)]
    exact s _ _ (s1 _ _ q)
  · refine RowsV.concat (RowsV.same (fun b o q => ?_) r) ?_
    · by_cases hb : b = D
      · rw [if_pos hb] at q
        cases q
      · rw [if_neg hb] at q ⊢
        rw [upd_ne hb]
        exact s _ _ q
    · rw [if_neg hpd, upd_ne hpd]
      exact s _ _ (s1 _ _ hp)
theorem Lcd.on {H1 H H4 : Hp} {D : Addr} {m : List (List Int)} (L : Lcd H1 D m H) (s : Same H H4) : Lcd H1 D m H4 := by
  obtain ⟨s1, ws, e1, r⟩ := L
  refine ⟨s1.trans s, ws, s _ _ e1, r.same fun b o q => ?_⟩
  have q : (if b = D then none else H b) = some o := q
  show (if b = D then none else H4 b) = some o
  by_cases hb : b = D
  · rw [if_pos hb] at q
    cases q
  · rw [if_neg hb] at q ⊢
    exact s _ _ q
/-! ### what is made on the way -/
/-- behind i rows -/
def upto (n : Nat) (m : List (List Int)) (place : List Int) (most : Int) (i : Nat) : List (List Int) := Gst.grows [Si18.zeros n] (m.take i) ((Gst.bnds n m place most).take i)
theorem grows_concat : ∀ {rows : Si18.Rows} {bs : List (Int × Int)} {acc : List Si18.Row} {r : Si18.Row} {p : Int × Int}, rows.length = bs.length → Gst.grows acc (rows ++ [r]) (bs ++ [p]) = Gst.grow (Gst.grows acc rows bs) r p
  | [], [], acc, r, p, _ => rfl
  | x :: rows, q :: bs, acc, r, p, h => by
    show Gst.grows (Gst.grow acc x q) (rows ++ [r]) (bs ++ [p]) = _
    rw [grows_concat (rows := rows) (bs := bs) (Nat.succ.inj h)]
    rfl
theorem bnds_len {n : Nat} {m : List (List Int)} {place : List Int} {most : Int} : (Gst.bnds n m place most).length = n := by
  unfold Gst.bnds
  rw [List.length_map, List.length_range]
theorem bnds_at {n : Nat} {m : List (List Int)} {place : List Int} {most : Int} {i : Nat} (h : i < n) : (Gst.bnds n m place most)[i]? = some (Gst.loB n m place most i, Gst.hiB n m place most i) := by
  unfold Gst.bnds
  rw [List.getElem?_map, List.getElem?_range h]
  rfl
theorem upto_succ {n : Nat} {m : List (List Int)} {place : List Int} {most : Int} {i : Nat} (hl : m.length = n) (h : i < n) : upto n m place most (i + 1) = Gst.grow (upto n m place most i) (Si18.row m i) (Gst.loB n m place most i, Gst.hiB n m place most i) := by
  unfold upto
  have e : m[i]? = some (Si18.row m i) := by
    unfold Si18.row
    rw [List.getD_eq_getElem?_getD, List.getElem?_eq_getElem (by omega)]
    rfl
  rw [List.take_add_one, List.take_add_one, e, bnds_at h]
  exact grows_concat (by rw [List.length_take, List.length_take, hl, bnds_len])
theorem upto_len {n : Nat} {m : List (List Int)} {place : List Int} {most : Int} (hl : m.length = n) : ∀ {i : Nat}, i ≤ n → (upto n m place most i).length = Gst.pw (Gst.wd n m place most) i
  | 0, _ => rfl
  | i + 1, h => by
    rw [upto_succ hl h, Gst.grow_len, upto_len hl (i := i) (by omega)]
    rfl
theorem plus_len {x y : List Int} {c : Int} (h : x.length = y.length) : (Si18.plus x (Si18.times c y)).length = x.length := by
  rw [plus_times h, List.length_map, List.length_range]
theorem grow_wide {n : Nat} {acc : List Si18.Row} {r : Si18.Row} {p : Int × Int} (h : ∀ x, x ∈ acc → x.length = n) (hr : r.length = n) : ∀ x, x ∈ Gst.grow acc r p → x.length = n := fun x hx => by
  obtain ⟨y, hy, h2⟩ := List.mem_flatMap.mp hx
  obtain ⟨i, _, rfl⟩ := List.mem_map.mp h2
  rw [plus_len (by rw [h y hy, hr]), h y hy]
theorem upto_wide {n : Nat} {m : List (List Int)} {place : List Int} {most : Int} (hl : m.length = n) (hw : ∀ x, x ∈ m → x.length = n) : ∀ {i : Nat}, i ≤ n → ∀ x, x ∈ upto n m place most i → x.length = n
  | 0, _ => fun x hx => by
    have : x = Si18.zeros n := List.mem_singleton.mp hx
    rw [this]
    exact List.length_replicate ..
  | i + 1, h => by
    rw [upto_succ hl h]
    exact grow_wide (upto_wide hl hw (i := i) (by omega)) (row_len hw hl h)
theorem grow_small {e : Nat} {acc : List Si18.Row} {r : Si18.Row} {p : Int × Int} (he : 73 ≤ e) (h : Smalls e acc) (hr : Small 12 r) (h1 : -(2 ^ 61) ≤ p.1) (h2 : p.2 < 2 ^ 61) : Smalls (e + 1) (Gst.grow acc r p) := fun x hx => by
  obtain ⟨y, hy, h3⟩ := List.mem_flatMap.mp hx
  obtain ⟨i, hi, rfl⟩ := List.mem_map.mp h3
  have hi := List.mem_range.mp hi
  intro z hz
  unfold Si18.plus Si18.times at hz
  obtain ⟨u, v, hu, hv, rfl⟩ := zipWith_mem hz
  obtain ⟨t, ht, rfl⟩ := List.mem_map.mp hv
  have a1 := h y hy u hu
  have a2 : ((p.1 + (i : Int)) * t).natAbs ≤ 2 ^ 61 * 2 ^ 12 := by
    rw [Int.natAbs_mul]
    exact Nat.mul_le_mul (by omega) (hr t ht)
  have a3 := abs_add_le u ((p.1 + (i : Int)) * t)
  have a4 : (2 : Nat) ^ 73 ≤ 2 ^ e := Nat.pow_le_pow_right (by decide) he
  have a5 : (2 : Nat) ^ 61 * 2 ^ 12 = 2 ^ 73 := by decide
  rw [Nat.pow_succ]
  show (u + (p.1 + (i : Int)) * t).natAbs ≤ _
  omega
theorem upto_small {n : Nat} {m : List (List Int)} {place : List Int} {most : Int} (hl : m.length = n) (hs : Smalls 12 m) (hb : ∀ k, k < n → -(2 ^ 61) ≤ Gst.loB n m place most k ∧ Gst.hiB n m place most k < 2 ^ 61) : ∀ {i : Nat}, i ≤ n → Smalls (73 + i) (upto n m place most i)
  | 0, _ => fun x hx z hz => by
    have : x = Si18.zeros n := List.mem_singleton.mp hx
    rw [this] at hz
    have : z = 0 := (List.mem_replicate.mp hz).2
    rw [this]
    exact Nat.zero_le _
  | i + 1, h => by
    rw [upto_succ hl h]
    exact grow_small (Nat.le_add_right 73 i) (upto_small hl hs hb (i := i) (by omega)) (row_small hs hl h) (hb i h).1 (hb i h).2
def ptsOf (n : Nat) (m : List (List Int)) (place : List Int) (most : Int) : List (List Int) := (upto n m place most n).filter fun x => decide (Si18.square (Si18.minus x place) ≤ most)
/-- all that is asked of a search -/
structure Sea (n : Nat) (m : List (List Int)) (place : List Int) (most : Int) : Prop where
  n1 : 1 ≤ n
  fit : Fit n m
  det : Si18.det n m ≠ 0
  plen : place.length = n
  psm : Small 10 place
  few : Gst.Few n m most
  mb : most < 2 ^ 60
  ends : ∀ k, k < n → -(2 ^ 61) ≤ Gst.loB n m place most k ∧ Gst.loB n m place most k < 2 ^ 61 ∧ -(2 ^ 61) ≤ Gst.hiB n m place most k ∧ Gst.hiB n m place most k < 2 ^ 61
  box : ∀ j, j ≤ n → Gst.pw (Gst.wd n m place most) j ≤ 16000000
def sp_points_within (K : PySem.W.Frag) : Sp := fun vs H Q _ => ∃ (a b : Addr) (m : List (List Int)) (place : List Int) (most : Int) (n : Nat), vs = [.ref a, .ref b, .int most] ∧ RowsAt H a m ∧ SqL K H b (iv place) ∧ Sea n m place most ∧
  ∀ H' p, Same H H' → RowsAt H' p (ptsOf n m place most) → Q (.ref p) H'
theorem minus_small {e : Nat} {x t : List Int} (hx : Small e x) (ht : Small 10 t) (he : 10 ≤ e) : Small (e + 1) (Si18.minus x t) := by
  have := plus_small (c := -1) (g := e - 10) hx ht (by
    have : (1 : Nat) ≤ 2 ^ (e - 10) := Nat.one_le_two_pow
    exact this) (by omega)
  have e1 : 10 + (e - 10) + 1 = e + 1 := by omega
  rw [e1] at this
  exact this
theorem take_filter {α : Type} {p : α → Bool} {l : List α} {i : Nat} {x : α} (h : l[i]? = some x) : (l.take (i + 1)).filter p = (l.take i).filter p ++ (if p x = true then [x] else []) := by
  rw [List.take_add_one, h, List.filter_append]
  congr 1
  show List.filter p [x] = _
  by_cases c : p x = true
  · rw [if_pos c, List.filter_cons_of_pos c]
    rfl
  · rw [if_neg c, List.filter_cons_of_neg c]
    rfl
theorem grow_take {acc : List Si18.Row} {r : Si18.Row} {p : Int × Int} {i : Nat} {x : Si18.Row} (h : acc[i]? = some x) : Gst.grow (acc.take (i + 1)) r p = Gst.grow (acc.take i) r p ++ (List.range (p.2 + 1 - p.1).toNat).map fun (j : Nat) => Si18.plus x (Si18.times (p.1 + (j : Int)) r) := by
  unfold Gst.grow
  rw [List.take_add_one, h, List.flatMap_append]
  congr 1
  simp
theorem ok_points_within (T : Txt K mg) {f : Addr} {fd : FuncData} (F : Dn K mg "points_within" s_points_within ["rows", "place", "most"] f fd) : FnOk P w K mg base CX0 10 f fd ["rows", "place", "most"] (sp_points_within K) := by
  refine F.F.ok sc_points_within (fun vs H Q E h => ?_) (fun cdv A outer s H vs Q E hr h => ?_)
  · obtain ⟨a, b, m, place, most, n, rfl, _⟩ := h
    rfl
  · obtain ⟨a, b, m, place, most, n, rfl, ⟨ws, ea, hR⟩, hb, S, q⟩ := h
    obtain ⟨f1, fd1, F1⟩ := T.d_upright
    obtain ⟨f2, fd2, F2⟩ := T.d_multiples_within
    obtain ⟨f3, fd3, F3⟩ := T.d_with_times
    obtain ⟨f4, fd4, F4⟩ := T.d_square
    obtain ⟨f5, fd5, F5⟩ := T.d_less
    have G1 : FnOk P w K mg base CX0 9 f1 fd1 ["rows"] sp_upright := ok_upright T F1
    have G2 : FnOk P w K mg base CX0 9 f2 fd2 ["line", "whole", "place", "most"] (sp_multiples_within K) := (ok_multiples_within T F2).mono (by omega)
    have G3 : FnOk P w K mg base CX0 9 f3 fd3 ["row", "many", "other"] (sp_with_times K) := (ok_with_times T F3).mono (by omega)
    have G4 : FnOk P w K mg base CX0 9 f4 fd4 ["row"] (sp_square K) := (ok_square T F4).mono (by omega)
    have G5 : FnOk P w K mg base CX0 9 f5 fd5 ["row", "other"] (sp_less K) := (ok_less T F5).mono (by omega)
    have h5 := S.fit.n5
    have n1 := S.n1
    have hl := S.fit.len
    refine ⟨_, pss_cons (ps_asg (pe_call G1 hr (by rfl) F1.g F1.F.kp F1.b .nil pass0 (pa_cons (pv 0) pa_nil)) (pg_tup rfl (pgs_cons (pg_name (i := 3) sc_points_within.nd rfl (.inl rfl)) (pgs_cons (pg_name (i := 4) sc_points_within.nd rfl (.inl rfl)) pgs_nil))))
      (pss_cons (ps_set (i := 5) sc_points_within.nd rfl (.inl rfl) (pe_lst (pa_cons (pe_lc (own := [("number", 12)]) (g := gName 12) (tt := tYes) rfl sc_points_within.nd (pi_list (pv 1))
          (blkOk_by (N := ["rows", "place", "most", "lines", "whole", "points", "row", "line", "low", "high", "further", "point", "number", "many"]) (sc := defScope s_points_within) (by decide +kernel)) (fun _ _ _ _ _ => pg_name (i := 12) sc_points_within.nd rfl (Or.inl rfl)) (fun _ _ _ _ _ => pts_nil)
          (fun _ _ _ _ _ => pe_int)) pa_nil)))
      (pss_cons (ps_for PassesOwn.never rfl (pi_zip (by rfl) T.b_zip (pa_cons (pv 0) (pa_cons (pv 3) pa_nil)))
          (pg_tup rfl (pgs_cons (pg_name (i := 6) sc_points_within.nd rfl (.inr rfl)) (pgs_cons (pg_name (i := 7) sc_points_within.nd rfl (.inl rfl)) pgs_nil)))
        (pss_cons (ps_asg (pe_call G2 hr (by rfl) F2.g F2.F.kp F2.b .nil pass0 (pa_cons (pv 7) (pa_cons (pv 4) (pa_cons (pv 1) (pa_cons (pv 2) pa_nil))))) (pg_tup rfl (pgs_cons (pg_name (i := 8) sc_points_within.nd rfl (.inl rfl)) (pgs_cons (pg_name (i := 9) sc_points_within.nd rfl (.inl rfl)) pgs_nil))))
        (pss_cons (ps_set (i := 10) sc_points_within.nd rfl (.inl rfl) (pe_lst pa_nil))
        (pss_cons (ps_for PassesOwn.never rfl (pi_list (pv 5)) (pg_name (i := 11) sc_points_within.nd rfl (.inr rfl))
          (pss_one (ps_expr (pe_bm PySem.F.plainAttrs_list PySem.F.slot_list_extend PySem.F.type_list_extend mt_extend (pv 10) (pa_cons
            (pe_lc (own := [("many", 13)]) (g := gName 13) (tt := tYes) rfl sc_points_within.nd (pi_range2 (by rfl) T.b_range (pa_cons (pv 8) (pa_cons (pe_op op_add (pv 9) pe_int) pa_nil)))
              (blkOk_by (N := ["rows", "place", "most", "lines", "whole", "points", "row", "line", "low", "high", "further", "point", "number", "many"]) (sc := defScope s_points_within) (by decide +kernel)) (fun _ _ _ _ _ => pg_name (i := 13) sc_points_within.nd rfl (Or.inl rfl)) (fun _ _ _ _ _ => pts_nil)
              (fun _ _ _ _ _ => pe_call G3 hr (by rfl) F3.g F3.F.kp F3.b .nil pass0 (pa_cons (pv 11) (pa_cons (pv 13) (pa_cons (pv 6) pa_nil))))) pa_nil)))))
        (pss_one (ps_set (i := 5) sc_points_within.nd rfl (.inl rfl) (pv 10)))))))
      (pss_one (ps_ret (pe_lc (own := [("point", 11)]) (g := gName 11) rfl sc_points_within.nd (pi_list (pv 5))
          (blkOk_by (N := ["rows", "place", "most", "lines", "whole", "points", "row", "line", "low", "high", "further", "point", "number", "many"]) (sc := defScope s_points_within) (by decide +kernel)) (fun _ _ _ _ _ => pg_name (i := 11) sc_points_within.nd rfl (Or.inl rfl))
          (fun _ _ _ _ _ => pts_one (pt_cmpR op_le (pe_call G4 hr (by rfl) F4.g F4.F.kp F4.b .nil pass0 (pa_cons (pe_call G5 hr (by rfl) F5.g F5.F.kp F5.b .nil pass0 (pa_cons (pv 11) (pa_cons (pv 1) pa_nil))) pa_nil)) (pv 2) (nomark _)))
          (fun _ _ _ _ _ => pv 11)))))), ?_⟩
    refine ⟨_, rfl, a, m, n, 12, rfl, S.fit.rw5 ⟨ws, ea, hR⟩, fun H1 p u s1 ep ru => ?_⟩
    obtain ⟨wu, eu, rU⟩ := ru
    have hlw : ws.length = n := by rw [hR.1, hl]
    have hlu : wu.length = n := by rw [rU.1, up_len]
    refine ⟨p, _, rfl, SqT.of ep, rfl, _, _, rfl, _, _, rfl, rfl, ?_⟩
    -- points = [[0 for number in place]]
    refine ⟨_, rfl, b, rfl, ⟨_, s1.seq hb⟩, fun D nD => ?_⟩
    refine lc_intsL (s := 12) (vs := [12]) (xs := iv place) (fun _ => 0) nD (s1.seq hb) (by rw [iv_len, S.plen]; omega) (fun _ => rfl) (fun i x H2 Q2 _ s2 k2 => k2 H2 (Same.refl H2)) ?_
    intro H2 s2 eD
    have ez : (List.range (iv place).length).map (fun _ => (0 : Int)) = Si18.zeros n := by
      rw [iv_len, S.plen]
      unfold Si18.zeros
      rw [List.map_const', List.length_range]
    rw [ez] at eD
    refine ⟨by show 1 ≤ sizeLine; decide, fun pp np => ?_⟩
    have s3 := same_upd (o := .lst [.ref D]) np
    have s13 : Same H (upd H2 pp (.lst [.ref D])) := s1.trans (s2.trans s3)
    have r0 : RowsAt (upd H2 pp (.lst [.ref D])) pp (upto n m place most 0) := ⟨_, upd_same, RowsV.nil.concat (s3 _ _ eD)⟩
    have hends : ∀ k, k < n → -(2 ^ 61) ≤ Gst.loB n m place most k ∧ Gst.hiB n m place most k < 2 ^ 61 := fun k hk => ⟨(S.ends k hk).1, (S.ends k hk).2.2.2⟩
    -- the rows, one after another
    refine ⟨_, rfl, _, rfl, a, u, ws, wu, rfl, s13.seq (SqL.of ea), s3.seq (s2.seq (SqL.of eu)), ?_⟩
    refine RZ.for_zipL (xs := ws) (ys := wu) (by omega) (fun i σ H' => ∃ pq y6 y7 y8 y9 y10 y11 y12 y13, σ = [some (.ref a), some (.ref b), some (.int most), some (.ref u), some (.int (upW n m)), some (.ref pq), y6, y7, y8, y9, y10, y11, y12, y13] ∧ Same H1 H' ∧ RowsAt H' pq (upto n m place most i))
      ⟨pp, none, none, none, none, none, none, none, none, rfl, s2.trans s3, r0⟩ ?_ ?_ ?_
    · rintro i σ H3 ⟨pq, y6, y7, y8, y9, y10, y11, y12, y13, rfl, sH, _⟩
      exact ⟨sH.seq (s1.seq (SqL.of ea)), sH.seq (SqL.of eu)⟩
    · rintro i x y tp σ H3 hx hy ⟨pq, y6, y7, y8, y9, y10, y11, y12, y13, rfl, sH, rq⟩ ntp
      obtain ⟨p6, x6, rfl, ex6, e6⟩ := hR.at hx
      obtain ⟨p7, x7, rfl, ex7, e7⟩ := rU.at hy
      have hi : i < n := by
        have := (List.getElem?_eq_some_iff.mp hx).1
        omega
      have gx6 : x6 = Si18.row m i := by
        unfold Si18.row
        rw [List.getD_eq_getElem?_getD, ex6]
        rfl
      have gx7 : x7 = Si18.row (upL n m) i := by
        unfold Si18.row
        rw [List.getD_eq_getElem?_getD, ex7]
        rfl
      have m7 := List.mem_of_getElem? ex7
      have m6 := List.mem_of_getElem? ex6
      have s4 := same_upd (o := .tup [.ref p6, .ref p7]) ntp
      have sT : Same H1 _ := sH.trans s4
      refine ⟨tp, _, rfl, SqT.of upd_same, rfl, _, _, rfl, _, _, rfl, rfl, ?_⟩
      -- low, high
      have few := S.few.low i hi
      have few' : most * Si18.square x7 < 2 ^ 199 := by
        rw [gx7]
        exact few
      refine ⟨_, rfl, _, rfl, _, rfl, _, rfl, p7, b, x7, place, upW n m, most, 60, 10, rfl, sT.seq (SqL.of e7), sT.seq (s1.seq hb), by rw [up_wide x7 m7, S.plen], up_small S.fit.sm h5 x7 m7, S.psm, by omega, by omega, up_pos S.det, ?_, S.few.pos, S.mb, Int.mul_nonneg S.few.pos (Gst.square_nonneg _), few', fun H4 p8 s5 e8 => ?_⟩
      · exact Nat.le_trans (upW_small S.fit.sm h5) (Nat.pow_le_pow_right (by decide) (by omega))
      have elo : 0 - (((Si18.root (most * Si18.square x7).toNat : Nat) : Int) - Si18.dot x7 place) / upW n m = Gst.loB n m place most i := by
        rw [gx7]
        rfl
      have ehi : (Si18.dot x7 place + ((Si18.root (most * Si18.square x7).toNat : Nat) : Int)) / upW n m = Gst.hiB n m place most i := by
        rw [gx7]
        rfl
      rw [elo, ehi] at e8
      have he := S.ends i hi
      refine ⟨p8, _, rfl, SqT.of e8, rfl, _, _, rfl, _, _, rfl, rfl, ?_⟩
      -- further = []
      refine ⟨Nat.zero_le _, fun fu nf => ?_⟩
      have s6 := same_upd (o := .lst []) nf
      have s46 : Same H3 (upd H4 fu (.lst [])) := s4.trans (s5.trans s6)
      obtain ⟨wq, eq, rQ⟩ := rq
      have hlq : wq.length = (upto n m place most i).length := rQ.1
      have lenq : (upto n m place most i).length = Gst.pw (Gst.wd n m place most) i := upto_len hl (by omega)
      have boxi := S.box (i + 1) hi
      have pwi : Gst.pw (Gst.wd n m place most) (i + 1) = Gst.pw (Gst.wd n m place most) i * Gst.wd n m place most i := rfl
      refine ⟨_, rfl, pq, rfl, ⟨_, s46.seq (SqL.of eq)⟩, for_list (K := K) (a := pq) (xs := wq) (fun j σ H' => ∃ y11 y12 y13, σ = [some (.ref a), some (.ref b), some (.int most), some (.ref u), some (.int (upW n m)), some (.ref pq), some (.ref p6), some (.ref p7), some (.int (Gst.loB n m place most i)), some (.int (Gst.hiB n m place most i)), some (.ref fu), y11, y12, y13] ∧ Lcd H4 fu (Gst.grow ((upto n m place most i).take j) (Si18.row m i) (Gst.loB n m place most i, Gst.hiB n m place most i)) H')
        ⟨y11, y12, y13, rfl, Lcd.zero nf⟩ ?_ ?_ ?_⟩
      · rintro j σ H5 _ ⟨y11, y12, y13, rfl, L⟩
        exact L.1.seq (s5.seq (s4.seq (SqL.of eq)))
      · rintro j x σ H5 hxj ⟨y11, y12, y13, rfl, L⟩
        obtain ⟨p9, x9, rfl, ex9, e9⟩ := rQ.at hxj
        have m9 := List.mem_of_getElem? ex9
        have w9 := upto_wide hl S.fit.wide (i := i) (by omega) x9 m9
        have w6 := S.fit.wide x6 m6
        have hj : j < (upto n m place most i).length := (List.getElem?_eq_some_iff.mp ex9).1
        have wd1 : Gst.wd n m place most i ≤ 16000000 := by
          have : 1 * Gst.wd n m place most i ≤ Gst.pw (Gst.wd n m place most) i * Gst.wd n m place most i := Nat.mul_le_mul_right _ (by omega)
          omega
        have s45 : Same H3 H4 := s4.trans s5
        obtain ⟨s7, wf, ef, rf⟩ := id L
        refine ⟨_, rfl, .inl ⟨rfl, _, SqL.of ef⟩, _, rfl, _, rfl, _, _, rfl, rfl, _, _, rfl, ⟨by omega, by omega, by omega, by omega⟩, fun D2 nD2 => ?_⟩
        have ew : (Gst.hiB n m place most i + 1 - Gst.loB n m place most i).toNat = Gst.wd n m place most i := rfl
        rw [ew]
        refine lc_rowsB (lo := Gst.loB n m place most i) (n := Gst.wd n m place most i) (s := 13) (vs := [13]) (fun k => Si18.plus x9 (Si18.times (Gst.loB n m place most i + (k : Int)) (Si18.row m i))) nD2 wd1 (fun _ => rfl) ?_ ?_
        · intro k H6 Q6 hk s8 k8
          refine ⟨_, rfl, _, rfl, _, rfl, p9, p6, x9, x6, _, 61, 12, rfl, s8.seq (s7.seq (s45.seq (SqL.of e9))), s8.seq (s7.seq (s45.seq (sH.seq (s1.seq (SqL.of e6))))), by rw [w9, w6], by omega, ?_, S.fit.sm x6 m6, by omega, fun H7 p10 s9 np10 e10 => k8 H7 p10 s9 np10 ?_⟩
          · have : Gst.wd n m place most i = (Gst.hiB n m place most i + 1 - Gst.loB n m place most i).toNat := rfl
            omega
          · rw [e10, gx6]
        · intro H6 s8 r8
          obtain ⟨w8, e8', r8'⟩ := r8
          obtain ⟨acc, g1, g2, g3⟩ := L.extend nf s8 r8' (fun x hx => by
            obtain ⟨k, hk, rfl⟩ := range_map_mem hx
            intro z
            have := plus_len (c := Gst.loB n m place most i + (k : Int)) (x := x9) (y := Si18.row m i) (by rw [w9, row_len S.fit.wide hl hi])
            rw [z, w9] at this
            have : (0 : Nat) = n := this
            omega)
          refine ⟨fu, D2, acc, w8, rfl, rfl, g1, e8', ?_, some (.ref p9), y12, y13, rfl, ?_⟩
          · rw [g2, Gst.grow_len, List.length_take, r8'.1, List.length_map, List.length_range]
            have a1 : (min j (upto n m place most i).length + 1) * Gst.wd n m place most i ≤ (upto n m place most i).length * Gst.wd n m place most i := Nat.mul_le_mul_right _ (by omega)
            rw [Nat.add_mul, Nat.one_mul, lenq] at a1
            have ew2 : ((Gst.loB n m place most i, Gst.hiB n m place most i).2 + 1 - (Gst.loB n m place most i, Gst.hiB n m place most i).1).toNat = Gst.wd n m place most i := rfl
            rw [ew2, lenq]
            exact Nat.le_of_lt (big_line (by omega))
          · rw [grow_take ex9]
            exact g3
      · rintro σ H5 ⟨y11, y12, y13, rfl, L⟩
        rw [hlq, List.take_length, ← upto_succ hl hi] at L
        refine ⟨_, rfl, fu, some (.ref p6), some (.ref p7), some (.int (Gst.loB n m place most i)), some (.int (Gst.hiB n m place most i)), some (.ref fu), y11, y12, y13, rfl, ?_, L.at.2⟩
        exact sT.trans (s5.trans L.1)
    · rintro σ H3 ⟨pq, y6, y7, y8, y9, y10, y11, y12, y13, rfl, sH, rq⟩
      rw [hlw] at rq
      obtain ⟨wq, eq, rQ⟩ := rq
      refine ⟨_, rfl, pq, rfl, ⟨_, SqL.of eq⟩, fun D2 nD2 => ?_⟩
      refine lc_list (K := K) (a := pq) (xs := wq) (vs := [11]) (fun i H' => Lcd H3 D2 (((upto n m place most n).take i).filter fun x => decide (Si18.square (Si18.minus x place) ≤ most)) H') (Lcd.zero nD2) (fun i H' _ L => L.1.seq (SqL.of eq)) (fun i x H4 hx L => ?_) (fun H4 L => ?_)
      · obtain ⟨p9, x9, rfl, ex9, e9⟩ := rQ.at hx
        have m9 := List.mem_of_getElem? ex9
        have w9 := upto_wide hl S.fit.wide (i := n) (Nat.le_refl _) x9 m9
        have b9 := upto_small hl S.fit.sm hends (i := n) (Nat.le_refl _) x9 m9
        have hi : i < (upto n m place most n).length := (List.getElem?_eq_some_iff.mp ex9).1
        have lenq : (upto n m place most n).length = Gst.pw (Gst.wd n m place most) n := upto_len hl (Nat.le_refl _)
        have boxn := S.box n (Nat.le_refl _)
        refine ⟨rfl, ?_⟩
        refine ⟨_, rfl, _, rfl, p9, b, x9, place, 10, rfl, L.1.seq (SqL.of e9), L.1.seq (sH.seq (s1.seq hb)), by rw [w9, S.plen], by omega, S.psm, by omega, fun H5 p10 s10 np10 e10 => ?_⟩
        refine ⟨p10, Si18.minus x9 place, 73 + n + 1, rfl, SqL.of e10, minus_small b9 S.psm (by omega), by omega, fun H6 s11 => ?_⟩
        refine ⟨_, rfl, _, _, rfl, rfl, _, rfl, ?_⟩
        have s12 := s10.trans s11
        refine ite2 (fun hc => ?_) (fun hc => ?_)
        · obtain ⟨acc, g1, g2, g3⟩ := L.keep nD2 s12 e9
          refine ⟨_, rfl, acc, g1, ?_, ?_⟩
          · rw [g2]
            refine big_line (Nat.le_trans (List.length_filter_le _ _) ?_)
            rw [List.length_take]
            omega
          · rw [take_filter ex9, if_pos hc]
            exact g3
        · rw [take_filter ex9, if_neg hc, List.append_nil]
          exact L.on s12
      · rw [rQ.1, List.take_length] at L
        exact q H4 D2 (s1.trans (sH.trans L.1)) L.at.2
/-! ### nought -/
theorem sc_nought : FnScope ["rows", "row"] ["rows"] (defScope s_nought) := ⟨rfl, rfl, rfl, by decide +kernel, rfl, by decide +kernel, by decide +kernel⟩
def sp_nought : Sp := fun vs H Q _ => ∃ (a : Addr) (m : List (List Int)) (n : Nat), vs = [.ref a] ∧ RowsAt H a m ∧ m.length = n ∧ n ≤ 5 ∧ ∀ H' p, Same H H' → H' p = some (.lst (iv (Si18.zeros n))) → Q (.ref p) H'
theorem ok_nought (T : Txt K mg) {f : Addr} {fd : FuncData} (F : Dn K mg "nought" s_nought ["rows"] f fd) : FnOk P w K mg base CX0 1 f fd ["rows"] sp_nought := by
  refine F.F.ok sc_nought (fun vs H Q E h => ?_) (fun cdv A outer s H vs Q E hr h => ?_)
  · obtain ⟨a, m, n, rfl, _⟩ := h
    rfl
  · obtain ⟨a, m, n, rfl, ⟨ws, ea, hR⟩, hl, h5, q⟩ := h
    refine ⟨_, pss_one (ps_ret (pe_lc (own := [("row", 1)]) (g := gName 1) (tt := tYes) rfl sc_nought.nd (pi_list (pv 0)) (blkOk_by (N := ["rows", "row"]) (sc := defScope s_nought) (by decide +kernel))
      (fun _ _ _ _ _ => pg_name (i := 1) sc_nought.nd rfl (Or.inl rfl)) (fun _ _ _ _ _ => pts_nil) (fun _ _ _ _ _ => pe_int))), ?_⟩
    refine ⟨_, rfl, a, rfl, ⟨_, SqL.of ea⟩, fun D nD => ?_⟩
    refine lc_intsL (s := 1) (vs := [1]) (xs := ws) (fun _ => 0) nD (SqL.of ea) (by rw [hR.1]; omega) (fun _ => rfl) (fun i x H2 Q2 _ s2 k2 => k2 H2 (Same.refl H2)) ?_
    intro H2 s2 eD
    refine q H2 D s2 ?_
    rw [eD, hR.1, hl]
    unfold Si18.zeros
    rw [List.map_const', List.length_range]
/-! ### is_forward -/
theorem sc_is_forward : FnScope ["point", "number"] ["point"] (defScope s_is_forward) := ⟨rfl, rfl, rfl, by decide +kernel, rfl, by decide +kernel, by decide +kernel⟩
def sp_is_forward (K : PySem.W.Frag) : Sp := fun vs H Q _ => ∃ (a : Addr) (x : List Int), vs = [.ref a] ∧ SqL K H a (iv x) ∧ Q (.bl (Si18.ahead x)) H
theorem ahead_cons (a : Int) (x : List Int) : Si18.ahead (a :: x) = if a = 0 then Si18.ahead x else decide (0 < a) := by
  unfold Si18.ahead
  rw [List.find?_cons]
  by_cases h : a = 0
  · subst h
    simp
  · rw [if_neg h, show ((a != 0) = true) by simpa using h]
theorem ahead_at : ∀ {x : List Int} {i : Nat} {z : Int}, x[i]? = some z → (x.take i).all (fun y => y == 0) = true → z ≠ 0 → Si18.ahead x = decide (0 < z)
  | [], _, _, h, _, _ => by simp at h
  | a :: x, 0, z, h, _, hz => by
    have e : a = z := by simpa using h
    subst e
    rw [ahead_cons, if_neg hz]
  | a :: x, i + 1, z, h, h0, hz => by
    rw [List.take_succ_cons, List.all_cons, Bool.and_eq_true] at h0
    rw [ahead_cons, if_pos (by simpa using h0.1)]
    exact ahead_at (by simpa using h) h0.2 hz
theorem ahead_none : ∀ {x : List Int}, x.all (fun y => y == 0) = true → Si18.ahead x = false
  | [], _ => rfl
  | a :: x, h => by
    rw [List.all_cons, Bool.and_eq_true] at h
    rw [ahead_cons, if_pos (by simpa using h.1)]
    exact ahead_none h.2
theorem ok_is_forward (T : Txt K mg) {f : Addr} {fd : FuncData} (F : Dn K mg "is_forward" s_is_forward ["point"] f fd) : FnOk P w K mg base CX0 1 f fd ["point"] (sp_is_forward K) := by
  refine F.F.ok sc_is_forward (fun vs H Q E h => ?_) (fun cdv A outer s H vs Q E hr h => ?_)
  · obtain ⟨a, x, rfl, _⟩ := h
    rfl
  · obtain ⟨a, x, rfl, ha, q⟩ := h
    refine ⟨_, pss_cons (ps_for PassesOwn.never rfl (pi_list (pv 0)) (pg_name (i := 1) sc_is_forward.nd rfl (Or.inl rfl))
        (pss_one (ps_if (pt_cmpR op_ne (pv 1) pe_int (nomark _)) (pss_one (ps_ret (pe_cmpR op_gt (pv 1) pe_int (nomark _)))) pss_nil)))
      (pss_one (ps_ret pe_bl)), ?_⟩
    refine ⟨_, rfl, a, rfl, ⟨_, ha⟩, for_list (K := K) (a := a) (xs := iv x) (fun i σ H' => ∃ y1, σ = [some (.ref a), y1] ∧ H' = H ∧ (x.take i).all (fun y => y == 0) = true) ⟨none, rfl, rfl, by rfl⟩ ?_ ?_ ?_⟩
    · rintro i σ H2 _ ⟨_, rfl, rfl, _⟩
      exact ha
    · rintro i v σ H2 hx ⟨y1, rfl, rfl, hs⟩
      obtain ⟨hi, rfl⟩ := iv_get hx
      have hz : x[i]? = some (x.getD i 0) := by
        rw [List.getD_eq_getElem?_getD, List.getElem?_eq_getElem hi]
        rfl
      generalize x.getD i 0 = z at hz ⊢
      refine ⟨_, rfl, rfl, _, rfl, ?_⟩
      by_cases h0 : z = 0
      · subst h0
        refine iteF ⟨_, rfl, rfl, ?_⟩
        rw [List.take_add_one, hz, List.all_append, hs]
        rfl
      · have e : (!decide (V.int z = V.int 0)) = true := by
          rw [decide_eq_false fun w => h0 (V.int.inj w)]
          rfl
        rw [e]
        refine iteT ⟨_, rfl, _, _, rfl, rfl, ?_⟩
        rw [ahead_at hz hs h0] at q
        exact q
    · rintro σ H2 ⟨y1, rfl, rfl, hs⟩
      rw [iv_len, List.take_length] at hs
      rw [ahead_none hs] at q
      exact q
/-! ### forward_points -/
theorem sc_forward_points : FnScope ["rows", "most", "point"] ["rows", "most"] (defScope s_forward_points) := ⟨rfl, rfl, rfl, by decide +kernel, rfl, by decide +kernel, by decide +kernel⟩
/-- the points found that are ahead of 0 -/
def fwdOf (n : Nat) (m : List (List Int)) (most : Int) : List (List Int) := (ptsOf n m (Si18.zeros n) most).filter Si18.ahead
def sp_forward_points (K : PySem.W.Frag) : Sp := fun vs H Q _ => ∃ (a : Addr) (m : List (List Int)) (most : Int) (n : Nat), vs = [.ref a, .int most] ∧ RowsAt H a m ∧ Sea n m (Si18.zeros n) most ∧
  ∀ H' p, Same H H' → RowsAt H' p (fwdOf n m most) → Q (.ref p) H'
theorem pts_len {n : Nat} {m : List (List Int)} {place : List Int} {most : Int} (S : Sea n m place most) : (ptsOf n m place most).length ≤ 16000000 := by
  have h := S.box n (Nat.le_refl _)
  have e := upto_len (place := place) (most := most) S.fit.len (Nat.le_refl n)
  unfold ptsOf
  exact Nat.le_trans (List.length_filter_le _ _) (by omega)
theorem ok_forward_points (T : Txt K mg) {f : Addr} {fd : FuncData} (F : Dn K mg "forward_points" s_forward_points ["rows", "most"] f fd) : FnOk P w K mg base CX0 11 f fd ["rows", "most"] (sp_forward_points K) := by
  refine F.F.ok sc_forward_points (fun vs H Q E h => ?_) (fun cdv A outer s H vs Q E hr h => ?_)
  · obtain ⟨a, m, most, n, rfl, _⟩ := h
    rfl
  · obtain ⟨a, m, most, n, rfl, hR, S, q⟩ := h
    obtain ⟨f1, fd1, F1⟩ := T.d_points_within
    obtain ⟨f2, fd2, F2⟩ := T.d_nought
    obtain ⟨f3, fd3, F3⟩ := T.d_is_forward
    have G1 : FnOk P w K mg base CX0 10 f1 fd1 ["rows", "place", "most"] (sp_points_within K) := ok_points_within T F1
    have G2 : FnOk P w K mg base CX0 10 f2 fd2 ["rows"] sp_nought := (ok_nought T F2).mono (by omega)
    have G3 : FnOk P w K mg base CX0 9 f3 fd3 ["point"] (sp_is_forward K) := (ok_is_forward T F3).mono (by omega)
    refine ⟨_, pss_one (ps_ret (pe_lc (own := [("point", 2)]) (g := gName 2) rfl sc_forward_points.nd
        (pi_list (pe_call G1 hr (by rfl) F1.g F1.F.kp F1.b .nil pass0 (pa_cons (pv 0) (pa_cons (pe_call G2 hr (by rfl) F2.g F2.F.kp F2.b .nil pass0 (pa_cons (pv 0) pa_nil)) (pa_cons (pv 1) pa_nil)))))
          (blkOk_by (N := ["rows", "most", "point"]) (sc := defScope s_forward_points) (by decide +kernel)) (fun _ _ _ _ _ => pg_name (i := 2) sc_forward_points.nd rfl (Or.inl rfl))
          (fun _ _ _ _ _ => pts_one (pt_val (pe_call G3 (hr.mono (by omega)) (by rfl) F3.g F3.F.kp F3.b .nil pass0 (pa_cons (pv 2) pa_nil))))
          (fun _ _ _ _ _ => pv 2))), ?_⟩
    refine ⟨_, rfl, _, rfl, a, m, n, rfl, hR, S.fit.len, S.fit.n5, fun H1 p1 s1 e1 => ?_⟩
    refine ⟨_, rfl, a, p1, m, _, most, n, rfl, hR.same s1, SqL.of e1, S, fun H2 p2 s2 r2 => ?_⟩
    obtain ⟨wq, eq, rQ⟩ := r2
    refine ⟨p2, rfl, ⟨_, SqL.of eq⟩, fun D2 nD2 => ?_⟩
    refine lc_list (K := K) (a := p2) (xs := wq) (vs := [2]) (fun i H' => Lcd H2 D2 (((ptsOf n m (Si18.zeros n) most).take i).filter Si18.ahead) H') (Lcd.zero nD2) (fun i H' _ L => L.1.seq (SqL.of eq)) (fun i x H4 hx L => ?_) (fun H4 L => ?_)
    · obtain ⟨p9, x9, rfl, ex9, e9⟩ := rQ.at hx
      have hi : i < (ptsOf n m (Si18.zeros n) most).length := (List.getElem?_eq_some_iff.mp ex9).1
      have hlen := pts_len S
      refine ⟨rfl, ?_⟩
      refine ⟨_, rfl, p9, x9, rfl, L.1.seq (SqL.of e9), _, rfl, ?_⟩
      refine ite2 (fun hc => ?_) (fun hc => ?_)
      · obtain ⟨acc, g1, g2, g3⟩ := L.keep nD2 (Same.refl _) e9
        refine ⟨_, rfl, acc, g1, ?_, ?_⟩
        · rw [g2]
          refine big_line (Nat.le_trans (List.length_filter_le _ _) ?_)
          rw [List.length_take]
          omega
        · rw [take_filter ex9, if_pos hc]
          exact g3
      · rw [take_filter ex9, if_neg hc, List.append_nil]
        exact L
    · rw [rQ.1, List.take_length] at L
      exact q H4 D2 (s1.trans (s2.trans L.1)) L.at.2
/-! ### least_squares -/
theorem sc_least_squares : FnScope ["rows", "short", "most", "taken", "point", "row"] ["rows"] (defScope s_least_squares) := ⟨rfl, rfl, rfl, by decide +kernel, rfl, by decide +kernel, by decide +kernel⟩
/-- the key's words -/
def sqKey (x : List Int) : List Int := Si18.square x :: x
/-- one point more, if it's free of those that were taken -/
def pickG (n : Nat) (st : List (List Int)) (x : List Int) : List (List Int) := if (decide (st.length < n) && Si18.freeOf st x) = true then st ++ [x] else st
def greedy (n : Nat) (l : List (List Int)) : List (List Int) := l.foldl (pickG n) []
theorem greedy_snoc {n : Nat} {l : List (List Int)} {x : List Int} : greedy n (l ++ [x]) = pickG n (greedy n l) x := by
  unfold greedy
  rw [List.foldl_append]
  rfl
theorem fold_mem {n : Nat} : ∀ {l st : List (List Int)} {x : List Int}, x ∈ l.foldl (pickG n) st → x ∈ st ∨ x ∈ l
  | [], _, _, h => .inl h
  | a :: l, st, x, h => by
    rw [List.foldl_cons] at h
    rcases fold_mem h with h | h
    · unfold pickG at h
      split at h
      · rcases List.mem_append.mp h with h | h
        · exact .inl h
        · exact .inr (by rw [List.mem_singleton.mp h]; exact List.mem_cons_self)
      · exact .inl h
    · exact .inr (List.mem_cons_of_mem _ h)
theorem greedy_mem {n : Nat} {l : List (List Int)} {x : List Int} (h : x ∈ greedy n l) : x ∈ l := by
  rcases fold_mem h with h | h
  · cases h
  · exact h
theorem greedy_len {n : Nat} : ∀ {l st : List (List Int)}, st.length ≤ n → (l.foldl (pickG n) st).length ≤ n
  | [], _, h => h
  | a :: l, st, h => by
    rw [List.foldl_cons]
    refine greedy_len ?_
    unfold pickG
    split
    · rename_i c
      rw [Bool.and_eq_true] at c
      have := of_decide_eq_true c.1
      rw [List.length_append]
      show st.length + 1 ≤ n
      omega
    · exact h
/-- the points in the order of their keys -/
def inOrder (l : List (List Int)) : List (List Int) := l.mergeSort (keyLe sqKey)
def sp_least_squares (Pt : Addr) (be : Rat) : Sp := fun vs H Q _ => ∃ (a : Addr) (m : List (List Int)) (n : Nat) (big : Int), vs = [.ref a] ∧ RowsAt H a m ∧ m.length = n ∧ n ≤ 5 ∧ be ≤ 5000000 ∧ Gst.Rnd n be m 1000 1 m ∧ H Pt = some (.tbl #[]) ∧
  (∃ x, x ∈ Si18.reducedOf n m ∧ Si18.square x = big) ∧ (∀ x, x ∈ Si18.reducedOf n m → Si18.square x ≤ big) ∧ Sea n (Si18.reducedOf n m) (Si18.zeros n) big ∧
  ∀ H' p, (∀ b xs, H b = some (.lst xs) → H' b = some (.lst xs)) → H' p = some (.lst (iv ((greedy n (inOrder (fwdOf n (Si18.reducedOf n m) big))).map Si18.square))) → Q (.ref p) H'
theorem pts_small {n : Nat} {m : List (List Int)} {place : List Int} {most : Int} (S : Sea n m place most) : ∀ x, x ∈ ptsOf n m place most → x.length = n ∧ Small (73 + n) x := fun x hx => by
  have hx := (List.mem_filter.mp hx).1
  exact ⟨upto_wide S.fit.len S.fit.wide (Nat.le_refl n) x hx, upto_small S.fit.len S.fit.sm (fun k hk => ⟨(S.ends k hk).1, (S.ends k hk).2.2.2⟩) (Nat.le_refl n) x hx⟩
theorem ok_least_squares (T : Txt K mg) (be : Rat) {f c Pt : Addr} {fd : FuncData} (F : Dn K mg "least_squares" s_least_squares ["rows"] f fd) (hc : fd.code = .ref c) (TB : TabB base mg c Pt) : FnOk P w K mg base CX0 12 f fd ["rows"] (sp_least_squares Pt be) := by
  refine fun_okC F.F hc sc_least_squares (fun vs H Q E h => ?_) (fun A outer s H vs Q E hr h => ?_)
  · obtain ⟨a, m, n, big, rfl, _⟩ := h
    rfl
  · obtain ⟨a, m, n, big, rfl, hR, hmn, h5, hb, hI, hP, hbig, htop, S, q⟩ := h
    obtain ⟨f1, fd1, F1⟩ := T.d_reduced
    obtain ⟨f2, fd2, F2⟩ := T.d_square
    obtain ⟨f3, fd3, F3⟩ := T.d_forward_points
    obtain ⟨f4, fd4, F4⟩ := T.d_are_free
    have G1 : FnOk P w K mg base CX0 11 f1 fd1 ["rows"] (sp_reduced be) := ok_reduced T be F1
    have G2 : FnOk P w K mg base CX0 2 f2 fd2 ["row"] (sp_square K) := ok_square T F2
    have G3 : FnOk P w K mg base CX0 11 f3 fd3 ["rows", "most"] (sp_forward_points K) := ok_forward_points T F3
    have G4 : FnOk P w K mg base CX0 11 f4 fd4 ["rows"] (sp_are_free K) := (ok_are_free T F4).mono (by omega)
    refine ⟨_, pss_cons (ps_set (i := 1) sc_least_squares.nd rfl (.inl rfl) (pe_call G1 hr (by rfl) F1.g F1.F.kp F1.b .nil pass0 (pa_cons (pv 0) pa_nil)))
      (pss_cons (ps_set (i := 2) sc_least_squares.nd rfl (.inl rfl) (pe_callB (cr_max rfl) (by rfl) T.b_max boot_max (pa_cons
        (pe_lc (own := [("row", 5)]) (g := gName 5) (tt := tYes) rfl sc_least_squares.nd (pi_list (pv 1)) (blkOk_by (N := ["rows", "short", "most", "taken", "point", "row"]) (sc := defScope s_least_squares) (by decide +kernel))
          (fun _ _ _ _ _ => pg_name (i := 5) sc_least_squares.nd rfl (Or.inl rfl)) (fun _ _ _ _ _ => pts_nil) (fun _ _ _ _ _ => pe_call G2 (hr.mono (by omega)) (by rfl) F2.g F2.F.kp F2.b .nil pass0 (pa_cons (pv 5) pa_nil))) pa_nil)))
      (pss_cons (ps_set (i := 3) sc_least_squares.nd rfl (.inl rfl) (pe_lst pa_nil))
      (pss_cons (ps_for PassesOwn.never rfl (pi_list (pe_sortkey (T := [(Pt, "least_squares.<locals>.<lambda>")]) (N := ["point"]) (fr := []) (x0 := "point") (js := []) (k := 2) (by rfl) T.b_sorted
        (pa_cons (pe_call G3 hr (by rfl) F3.g F3.F.kp F3.b .nil pass0 (pa_cons (pv 1) (pa_cons (pv 2) pa_nil))) pa_nil) (hr.mono (by omega)) TB rfl (List.mem_singleton.mpr rfl) (fun z hz _ => congrArg Prod.snd (List.mem_singleton.mp hz)) rfl (nscope_by (by decide +kernel))
          (ndef_free (sc := defScope s_least_squares) (fr := []) (by decide +kernel)) (ndef_fr (sc := defScope s_least_squares) (by decide +kernel)) rfl (fun _ _ _ _ _ _ => rfl)
        (fun ql cl c' f A outer s H hr2 => pe_op op_cat (pe_lst (pa_cons (pe_call G2 hr2 (by rfl) F2.g F2.F.kp F2.b .nil pass0 (pa_cons (pv 0) pa_nil)) pa_nil)) (pv 0))))
          (pg_name (i := 4) sc_least_squares.nd rfl (Or.inl rfl))
        (pss_one (ps_if (PW.pt (pw_and (pt_cmpR op_lt (pe_callB call_len_seq (by rfl) T.b_len PySem.boot_len (pa_cons (pv 3) pa_nil)) (pe_callB call_len_seq (by rfl) T.b_len PySem.boot_len (pa_cons (pv 0) pa_nil)) (nomark _))
            (pw_and1 (pt_val (pe_call G4 hr (by rfl) F4.g F4.F.kp F4.b .nil pass0 (pa_cons (pe_op op_cat (pv 3) (pe_lst (pa_cons (pv 4) pa_nil))) pa_nil))))))
          (pss_one (ps_expr (pe_bm PySem.F.plainAttrs_list PySem.F.slot_list_append PySem.F.type_list_append mt_append (pv 3) (pa_cons (pv 4) pa_nil)))) pss_nil)))
      (pss_one (ps_ret (pe_lc (own := [("point", 4)]) (g := gName 4) (tt := tYes) rfl sc_least_squares.nd (pi_list (pv 3)) (blkOk_by (N := ["rows", "short", "most", "taken", "point", "row"]) (sc := defScope s_least_squares) (by decide +kernel))
          (fun _ _ _ _ _ => pg_name (i := 4) sc_least_squares.nd rfl (Or.inl rfl)) (fun _ _ _ _ _ => pts_nil) (fun _ _ _ _ _ => pe_call G2 (hr.mono (by omega)) (by rfl) F2.g F2.F.kp F2.b .nil pass0 (pa_cons (pv 4) pa_nil)))))))), ?_⟩
    have hl := S.fit.len
    have n5 := S.fit.n5
    refine ⟨_, rfl, a, m, n, rfl, hR, h5, hb, hI, fun H1 p s1 r1 => ?_⟩
    obtain ⟨wr, er, rR⟩ := id r1
    refine ⟨_, rfl, p, rfl, ⟨_, SqL.of er⟩, fun D nD => ?_⟩
    have rowAt : ∀ {l : List (List Int)} {i : Nat} {y : List Int}, l[i]? = some y → Si18.row l i = y := fun {l i y} ey => by
      unfold Si18.row
      rw [List.getD_eq_getElem?_getD, ey]
      rfl
    refine lc_intsL (s := 5) (vs := [5]) (xs := wr) (fun i => Si18.square (Si18.row (Si18.reducedOf n m) i)) nD (SqL.of er) (by rw [rR.1]; omega) (fun _ => rfl) (fun i x H2 Q2 hx s2 k2 => ?_) ?_
    · obtain ⟨p4, y, rfl, ey, e4⟩ := rR.at hx
      rw [rowAt ey] at k2
      exact ⟨_, rfl, p4, y, 12, rfl, s2.seq (SqL.of e4), S.fit.sm y (List.mem_of_getElem? ey), by omega, k2⟩
    · intro H2 s2 eD
      rw [rR.1, map_rows (Si18.reducedOf n m) Si18.square] at eD
      refine ⟨D, (Si18.reducedOf n m).map Si18.square, rfl, SqL.of eD, by rw [List.length_map, hl]; exact S.n1, fun z hz hmax => ?_⟩
      have zc : z = big := by
        obtain ⟨y, hy, ey⟩ := hbig
        obtain ⟨x, hx, rfl⟩ := List.mem_map.mp hz
        have := hmax _ (List.mem_map.mpr ⟨y, hy, rfl⟩)
        have := htop x hx
        omega
      subst zc
      refine ⟨Nat.zero_le _, fun t nt => ?_⟩
      have s3 := same_upd (o := .lst []) nt
      have tH2 : (upd H2 t (.lst [])) t = some (.lst []) := upd_same
      refine ⟨_, rfl, _, rfl, p, _, _, n, rfl, r1.same (s2.trans s3), S, fun H3 p3 s4 r3 => ?_⟩
      obtain ⟨wf, ef, rF⟩ := r3
      have smf : ∀ {x : List Int}, x ∈ fwdOf n (Si18.reducedOf n m) z → x.length = n ∧ Small (73 + n) x := fun hx => pts_small S _ (List.mem_filter.mp hx).1
      have flen : (fwdOf n (Si18.reducedOf n m) z).length ≤ 16000000 := Nat.le_trans (List.length_filter_le _ _) (pts_len S)
      generalize fwdOf n (Si18.reducedOf n m) z = fw at *
      have s14 : Same H H3 := s1.trans (s2.trans (s3.trans s4))
      refine ⟨p3, wf, fw, sqKey, rfl, ef, rF, by rw [rF.1]; exact Nat.le_of_lt (big_line flen), ?_, fun H4 x4 => ⟨fun i v H5 hv s5 => ?_, fun H5 p5 np5 s5 r5 => ?_⟩⟩
      · intro y hy
        rw [List.mem_singleton.mp hy]
        exact TabS.nil (s14 _ _ hP)
      · obtain ⟨p6, x6, rfl, ex6, e6⟩ := rF.at hv
        have a6 : H5 p6 = some (.lst (iv x6)) := s5 _ _ (lst_extN x4 e6)
        obtain ⟨l6, b6⟩ := smf (List.mem_of_getElem? ex6)
        refine ⟨_, rfl, p6, x6, 73 + n, rfl, .of a6, b6, by omega, fun H6 s6 => ?_⟩
        refine ⟨by show 1 ≤ sizeLine; decide, fun u nu => ?_⟩
        have s7 := same_upd (o := .lst [.int (Si18.square x6)]) nu
        refine ⟨_, rfl, u, p6, _, iv x6, rfl, rfl, upd_same, s7 _ _ (s6 _ _ a6), ?_, fun d nd => ⟨d, rfl, s6.trans (s7.trans (same_upd nd)), ?_⟩⟩
        · show 1 + (iv x6).length ≤ sizeLine
          rw [iv_len, l6]
          exact Nat.le_of_lt (small_line (by omega))
        · rw [upd_same]
          show some (HO.lst (V.int (Si18.square x6) :: iv x6)) = some (HO.lst (iv (sqKey (Si18.row fw i))))
          rw [rowAt ex6]
          rfl
      · -- the points in order, one after another
        obtain ⟨wo, eo, rO⟩ := r5
        have mem : ∀ {x : List Int}, x ∈ inOrder fw → x ∈ fw := fun hx => (List.mergeSort_perm fw (keyLe sqKey)).mem_iff.mp hx
        have rO : RowsV H5 wo (inOrder fw) := rO
        have lenO : (inOrder fw).length = fw.length := (List.mergeSort_perm fw (keyLe sqKey)).length_eq
        have t4 : H4 t = some (.lst []) := lst_extN x4 (s4 _ _ tH2)
        have t5 : H5 t = some (.lst []) := s5 _ _ t4
        have npt : p5 ≠ t := fun e => by
          rw [e, t4] at np5
          cases np5
        obtain ⟨wa, ea, rA⟩ := hR
        have nat : a ≠ t := ne_of_none (s2 _ _ (s1 _ _ ea)) nt
        have a5 : H5 a = some (.lst wa) := s5 _ _ (lst_extN x4 (s14 _ _ ea))
        have nz : ∀ x, x ∈ inOrder fw → x ≠ [] := fun x hx e => by
          have := (smf (mem hx)).1
          rw [e] at this
          have n1 := S.n1
          rw [← this] at n1
          cases n1
        have rB : RowsV (fun b => if b = t then none else H5 b) wo (inOrder fw) := RowsV.hide t5 RowsV.nil rO nz
        have pB : (fun b => if b = t then none else H5 b) p5 = some (.lst wo) := (if_neg npt).trans eo
        have aB : (fun b => if b = t then none else H5 b) a = some (.lst wa) := (if_neg nat).trans a5
        have tB : (fun b => if b = t then none else H5 b) t = none := if_pos rfl
        have L0 : Lcd (fun b => if b = t then none else H5 b) t [] H5 := ⟨fun b o e => by
          have e : (if b = t then none else H5 b) = some o := e
          by_cases hb : b = t
          · rw [if_pos hb] at e
            cases e
          · rw [if_neg hb] at e
            exact e, [], t5, RowsV.nil⟩
        have kB : ∀ b xs, H b = some (.lst xs) → (fun b => if b = t then none else H5 b) b = some (.lst xs) := fun b xs e =>
          (if_neg (ne_of_none (s2 _ _ (s1 _ _ e)) nt)).trans (s5 _ _ (lst_extN x4 (s14 _ _ e)))
        generalize (fun b => if b = t then none else H5 b) = B at *
        refine ⟨p5, rfl, ⟨_, SqL.of eo⟩, for_list (K := K) (a := p5) (xs := wo) (fun i σ H' => ∃ y4 y5, σ = [some (.ref a), some (.ref p), some (.int z), some (.ref t), y4, y5] ∧ Lcd B t (greedy n ((inOrder fw).take i)) H') ⟨none, none, rfl, L0⟩ ?_ ?_ ?_⟩
        · rintro i σ H6 _ ⟨y4, y5, rfl, L⟩
          exact L.1.seq (SqL.of pB)
        · rintro i v σ H6 hv ⟨y4, y5, rfl, L⟩
          obtain ⟨p6, x6, rfl, ex6, e6⟩ := rB.at hv
          have tk : (inOrder fw).take (i + 1) = (inOrder fw).take i ++ [x6] := by rw [List.take_add_one, ex6]; rfl
          have gm : ∀ x, x ∈ greedy n ((inOrder fw).take i) → x.length = n ∧ Small (73 + n) x := fun x hx => smf (mem (List.mem_of_mem_take (greedy_mem hx)))
          have gl : (greedy n ((inOrder fw).take i)).length ≤ n := greedy_len (Nat.zero_le n)
          have x6m := smf (mem (List.mem_of_getElem? ex6))
          obtain ⟨sB, wt, et, rt⟩ := id L
          rw [tk]
          generalize hst : greedy n ((inOrder fw).take i) = st at *
          have nxt : greedy n ((inOrder fw).take i ++ [x6]) = pickG n st x6 := by rw [greedy_snoc, hst]
          rw [nxt]
          have lt : wt.length = st.length := rt.1
          have la : wa.length = n := by rw [rA.1, hmn]
          refine ⟨_, rfl, t, wt, rfl, .inl (.of et), _, rfl, a, wa, rfl, .inl (L.1.seq (SqL.of aB)), _, _, rfl, rfl, ?_⟩
          refine ⟨_, rfl, ite2 (fun h1 => ?_) (fun h1 => ?_)⟩
          · have h1 : (wt.length : Int) < (wa.length : Int) := of_decide_eq_true h1
            have room : st.length < n := by omega
            refine ⟨_, rfl, _, rfl, by show 1 ≤ sizeLine; decide, fun u nu => ?_⟩
            have s7 := same_upd (o := .lst [.ref p6]) nu
            refine ⟨t, u, wt, [.ref p6], rfl, rfl, s7 _ _ et, upd_same, ?_, fun d nd => ?_⟩
            · show wt.length + 1 ≤ sizeLine
              exact Nat.le_of_lt (small_line (by omega))
            have s8 := same_upd (o := .lst (wt ++ [V.ref p6])) nd
            have s78 := s7.trans s8
            have r6 : RowsV H6 wt st := by
              refine rt.same fun b o e => ?_
              have e : (if b = t then none else H6 b) = some o := e
              by_cases hb : b = t
              · rw [if_pos hb] at e
                cases e
              · rw [if_neg hb] at e
                exact e
            refine ⟨d, st ++ [x6], n, 73 + n, rfl, ⟨_, upd_same, (r6.same s78).concat (s78 _ _ (L.1 _ _ e6))⟩, by rw [List.length_append]; show st.length + 1 ≤ 5; omega, fun x hx => ?_, by omega, fun x hx => ?_, by omega, fun H7 s9 => ⟨_, rfl, ?_⟩⟩
            · rcases List.mem_append.mp hx with hx | hx
              · exact (gm x hx).1
              · rw [List.mem_singleton.mp hx]
                exact x6m.1
            · rcases List.mem_append.mp hx with hx | hx
              · exact (gm x hx).2
              · rw [List.mem_singleton.mp hx]
                exact x6m.2
            have ef : (Si18.det (st ++ [x6]).length (gramOf (st ++ [x6])) != 0) = Si18.freeOf st x6 := rfl
            have s69 := s78.trans s9
            refine ite2 (fun hc => ?_) (fun hc => ?_)
            · obtain ⟨acc, g1, g2, g3⟩ := L.keep tB s69 e6
              refine ⟨_, rfl, .inl ⟨rfl, _, SqL.of g1⟩, _, rfl, t, acc, _, rfl, rfl, g1, ?_, some (.ref p6), y5, rfl, ?_⟩
              · rw [g2]
                exact line_lt (by omega)
              · unfold pickG
                rw [if_pos (by rw [decide_eq_true room, ← ef, Bool.true_and]; exact hc)]
                exact g3
            · refine ⟨some (.ref p6), y5, rfl, ?_⟩
              unfold pickG
              rw [if_neg (by rw [← ef]; intro z; rw [Bool.and_eq_true] at z; exact hc z.2)]
              exact L.on s69
          · have h1 : ¬ (wt.length : Int) < (wa.length : Int) := fun k => h1 (decide_eq_true k)
            refine iteF ⟨some (.ref p6), y5, rfl, ?_⟩
            unfold pickG
            rw [if_neg (by rw [decide_eq_false (show ¬ st.length < n by omega), Bool.false_and]; decide)]
            exact L
        · rintro σ H6 ⟨y4, y5, rfl, L⟩
          rw [rB.1, List.take_length] at L
          have gm : ∀ x, x ∈ greedy n (inOrder fw) → x.length = n ∧ Small (73 + n) x := fun x hx => smf (mem (greedy_mem hx))
          have gl : (greedy n (inOrder fw)).length ≤ n := greedy_len (Nat.zero_le n)
          generalize greedy n (inOrder fw) = st at *
          obtain ⟨wt, et, rt⟩ := L.at.2
          refine ⟨_, rfl, t, rfl, ⟨_, SqL.of et⟩, fun D2 nD2 => ?_⟩
          refine lc_intsL (s := 4) (vs := [4]) (xs := wt) (fun i => Si18.square (Si18.row st i)) nD2 (SqL.of et) (by rw [rt.1]; omega) (fun _ => rfl) (fun i x H7 Q7 hx s7 k7 => ?_) ?_
          · obtain ⟨p4, y, rfl, ey, e4⟩ := rt.at hx
            rw [rowAt ey] at k7
            exact ⟨_, rfl, p4, y, 73 + n, rfl, s7.seq (SqL.of e4), (gm y (List.mem_of_getElem? ey)).2, by omega, k7⟩
          · intro H7 s7 e7
            rw [rt.1, map_rows st Si18.square] at e7
            exact q H7 D2 (fun b xs e => s7 _ _ (L.1 _ _ (kB b xs e))) e7
/-! ### rows_of -/
theorem sc_rows_of : FnScope ["n", "numbers", "k"] ["n", "numbers"] (defScope s_rows_of) := ⟨rfl, rfl, rfl, by decide +kernel, rfl, by decide +kernel, by decide +kernel⟩
def chop (n : Nat) (l : List Int) : List (List Int) := (List.range n).map fun i => (l.drop (i * n)).take n
def sp_rows_of (K : PySem.W.Frag) : Sp := fun vs H Q _ => ∃ (a : Addr) (l : List Int) (n : Nat), vs = [.int n, .ref a] ∧ SqL K H a (iv l) ∧ n ≤ 5 ∧ ∀ H' p, Same H H' → H p = none → RowsAt H' p (chop n l) → Q (.ref p) H'
theorem ok_rows_of (T : Txt K mg) {f : Addr} {fd : FuncData} (F : Dn K mg "rows_of" s_rows_of ["n", "numbers"] f fd) : FnOk P w K mg base CX0 1 f fd ["n", "numbers"] (sp_rows_of K) := by
  refine F.F.ok sc_rows_of (fun vs H Q E h => ?_) (fun cdv A outer s H vs Q E hr h => ?_)
  · obtain ⟨a, l, n, rfl, _⟩ := h
    rfl
  · obtain ⟨a, l, n, rfl, ha, hn, q⟩ := h
    refine ⟨_, pss_one (ps_ret (pe_lc (own := [("k", 2)]) (g := gName 2) (tt := tYes) rfl sc_rows_of.nd (pi_range1 (by rfl) T.b_range (pa_cons (pv 0) pa_nil))
      (blkOk_by (N := ["n", "numbers", "k"]) (sc := defScope s_rows_of) (by decide +kernel)) (fun _ _ _ _ _ => pg_name (i := 2) sc_rows_of.nd rfl (Or.inl rfl)) (fun _ _ _ _ _ => pts_nil)
      (fun _ _ _ _ _ => pe_slice (r := rSlL K) sl_list (pv 1) (po_some (pe_op op_mul (pv 2) (pv 0))) (po_some (pe_op op_add (pe_op op_mul (pv 2) (pv 0)) (pv 0)))))), ?_⟩
    refine ⟨_, rfl, (n : Int), rfl, by omega, by omega, fun D nD => ?_⟩
    refine lc_rowsR (n := n) (s := 2) (vs := [2]) (fun i => (l.drop (i * n)).take n) nD (by omega) (fun _ => rfl) ?_ ?_
    · intro i H2 Q2 hi s2 k2
      refine ⟨_, rfl, _, rfl, _, rfl, _, _, rfl, rfl, .inl ⟨by omega, by omega⟩, _, rfl, _, rfl, _, rfl, _, _, rfl, rfl, .inl ⟨by omega, by omega⟩, _, rfl, _, _, rfl, rfl, _, rfl, a, iv l, rfl, s2.seq ha, fun p np => ?_⟩
      refine k2 _ p (same_upd np) np ?_
      rw [upd_same]
      have e : cutV (iv l) (some ((i : Int) * (n : Int))) (some ((i : Int) * (n : Int) + (n : Int))) = ((iv l).drop (i * n)).take (i * n + n - i * n) := cut_mid (iv l) (i * n) (i * n + n) (by omega)
      rw [e, Nat.add_sub_cancel_left]
      unfold iv
      rw [List.map_take, List.map_drop]
    · intro H2 s2 r2
      exact q H2 D s2 nD r2
/-! ### are_small -/
theorem sc_are_small : FnScope ["numbers", "number"] ["numbers"] (defScope s_are_small) := ⟨rfl, rfl, rfl, by decide +kernel, rfl, by decide +kernel, by decide +kernel⟩
def sp_are_small (K : PySem.W.Frag) : Sp := fun vs H Q _ => ∃ (a : Addr) (l : List Int), vs = [.ref a] ∧ SqL K H a (iv l) ∧ Q (.bl (Si18.small l)) H
theorem small_take {l : List Int} {i : Nat} {z : Int} (h : l[i]? = some z) : Si18.small (l.take (i + 1)) = (Si18.small (l.take i) && Si18.within z (-1000) 1000) := by
  unfold Si18.small
  rw [List.take_add_one, h, List.all_append]
  simp
theorem small_false {l : List Int} {i : Nat} {z : Int} (h : l[i]? = some z) (hz : Si18.within z (-1000) 1000 = false) : Si18.small l = false := by
  unfold Si18.small
  exact List.all_eq_false.mpr ⟨z, List.mem_of_getElem? h, by rw [hz]; simp⟩
theorem ok_are_small (T : Txt K mg) {f : Addr} {fd : FuncData} (F : Dn K mg "are_small" s_are_small ["numbers"] f fd) : FnOk P w K mg base CX0 1 f fd ["numbers"] (sp_are_small K) := by
  refine F.F.ok sc_are_small (fun vs H Q E h => ?_) (fun cdv A outer s H vs Q E hr h => ?_)
  · obtain ⟨a, l, rfl, _⟩ := h
    rfl
  · obtain ⟨a, l, rfl, ha, q⟩ := h
    obtain ⟨t, mM⟩ := T.c_MOST
    refine ⟨_, pss_cons (ps_for PassesOwn.never rfl (pi_list (pv 0)) (pg_name (i := 1) sc_are_small.nd rfl (Or.inl rfl))
        (pss_one (ps_if (pt_not (pt_chain op_le op_le (pe_op op_sub pe_int (pe_glob (v := .int 1000) (by rfl) mM ⟨_, rfl⟩)) (pv 1) (pe_glob (v := .int 1000) (by rfl) mM ⟨_, rfl⟩))) (pss_one (ps_ret pe_bl)) pss_nil)))
      (pss_one (ps_ret pe_bl)), ?_⟩
    refine ⟨_, rfl, a, rfl, ⟨_, ha⟩, for_list (K := K) (a := a) (xs := iv l) (fun i σ H' => ∃ y1, σ = [some (.ref a), y1] ∧ H' = H ∧ Si18.small (l.take i) = true) ⟨none, rfl, rfl, by rfl⟩ ?_ ?_ ?_⟩
    · rintro i σ H2 _ ⟨_, _, rfl, _⟩
      exact ha
    · rintro i x σ H2 hx ⟨y1, rfl, rfl, hs⟩
      obtain ⟨hi, rfl⟩ := iv_get hx
      have hz : l[i]? = some (l.getD i 0) := by
        rw [List.getD_eq_getElem?_getD, List.getElem?_eq_getElem hi]
        rfl
      generalize l.getD i 0 = z at hz ⊢
      refine ⟨_, _, rfl, rfl, _, rfl, _, _, rfl, rfl, _, rfl, ite2 (fun h1 => ?_) (fun h1 => ?_)⟩
      · refine ⟨_, _, rfl, rfl, _, rfl, ?_⟩
        have c1 : (0 : Int) - 1000 ≤ z := of_decide_eq_true h1
        by_cases c2 : z ≤ 1000
        · refine iteNS c2 ⟨_, rfl, rfl, ?_⟩
          rw [small_take hz, hs]
          unfold Si18.within
          simp
          omega
        · rw [decide_eq_false c2]
          refine iteT ?_
          have e : Si18.small l = false := small_false hz (by unfold Si18.within; simp; omega)
          rw [e] at q
          exact q
      · have c1 : ¬ (0 : Int) - 1000 ≤ z := fun k => h1 (decide_eq_true k)
        refine ⟨_, rfl, ?_⟩
        refine iteT ?_
        have e : Si18.small l = false := small_false hz (by unfold Si18.within; simp; omega)
        rw [e] at q
        exact q
    · rintro σ H2 ⟨y1, rfl, rfl, hs⟩
      rw [iv_len, List.take_length] at hs
      rw [hs] at q
      exact q
/-! ### refusal -/
theorem chop_flat (n : Nat) (l : List Int) : ∀ k : Nat, ((List.range k).map fun i => (l.drop (i * n)).take n).flatten = l.take (k * n)
  | 0 => by simp
  | k + 1 => by
    rw [List.range_succ, List.map_append, List.flatten_append, chop_flat n l k, Nat.add_mul, Nat.one_mul, List.take_add]
    simp
theorem all_flat {p : Int → Bool} (m : List (List Int)) : m.flatten.all p = m.all fun x => x.all p := by
  rw [List.all_flatten]
theorem chop_fine {n : Nat} {l : List Int} (h : l.length = n * n) : Si18.fine (chop n l) = Si18.small l := by
  have e : (chop n l).flatten = l := by
    unfold chop
    rw [chop_flat, List.take_of_length_le (by omega)]
  unfold Si18.fine Si18.small
  rw [← all_flat, e]
theorem chop_len {n : Nat} {l : List Int} : (chop n l).length = n := by
  unfold chop
  rw [List.length_map, List.length_range]
theorem chop_wide {n : Nat} {l : List Int} (h : l.length = n * n) : ∀ x, x ∈ chop n l → x.length = n := fun x hx => by
  obtain ⟨i, hi, rfl⟩ := List.mem_map.mp hx
  have hi := List.mem_range.mp hi
  rw [List.length_take, List.length_drop, h]
  have : i * n + n ≤ n * n := by
    have := Nat.mul_le_mul_right n (show i + 1 ≤ n from hi)
    rw [Nat.add_mul, Nat.one_mul] at this
    exact this
  omega
theorem within_iff {z lo hi : Int} : Si18.within z lo hi = true ↔ lo ≤ z ∧ z ≤ hi := by
  unfold Si18.within
  simp
theorem small_pow {l : List Int} (h : Si18.small l = true) : Small 10 l := fun z hz => by
  have a := List.all_eq_true.mp h z hz
  have b := within_iff.mp a
  show z.natAbs ≤ 1024
  omega
theorem fine_pow {m : List (List Int)} (h : Si18.fine m = true) : Smalls 10 m := fun x hx => small_pow (List.all_eq_true.mp h x hx)
theorem size_iff {n : Int} : Si18.size n = true ↔ 1 ≤ n ∧ n ≤ 5 := within_iff
theorem sizeOk_size (n : Int) : Si18Neutral.sizeOk n = Si18.size n := rfl
theorem long_of {n : Int} {b : List Int} (k : Int) (h : Si18Neutral.long b n k = true) (hs : Si18.size n = true) : (b.length : Int) = k := by
  unfold Si18Neutral.long at h
  rw [sizeOk_size, if_pos hs, Bool.and_eq_true] at h
  exact of_decide_eq_true h.2
theorem long_sq {n : Nat} {b : List Int} (h : Si18Neutral.long b n ((n : Int) * (n : Int)) = true) (hs : Si18.size (n : Int) = true) : b.length = n * n := by
  have := long_of _ h hs
  have e : ((n * n : Nat) : Int) = (n : Int) * (n : Int) := by simp
  rw [← e] at this
  exact Int.ofNat.inj this
theorem rows_in {n : Nat} {l : List Int} (hs : Si18.size (n : Int) = true) : Si18Neutral.rowsIn (n : Int) l = chop n l := by
  unfold Si18Neutral.rowsIn
  rw [sizeOk_size, if_pos hs]
  rfl
def told (a : Si18.Ans) : List Int := a.v :: a.l
/-- why rows are refused, or 0 -/
def refuse (n : Int) (l : List Int) : Int := if Si18.size n = false then -2 else if Si18.given n (Si18Neutral.rowsIn n l) = false then -3 else 0
theorem sc_refusal : FnScope ["n", "numbers"] ["n", "numbers"] (defScope s_refusal) := ⟨rfl, rfl, rfl, by decide +kernel, rfl, by decide +kernel, by decide +kernel⟩
def sp_refusal (K : PySem.W.Frag) : Sp := fun vs H Q _ => ∃ (a : Addr) (n : Int) (l : List Int), vs = [.int n, .ref a] ∧ SqL K H a (iv l) ∧ Si18Neutral.long l n (n * n) = true ∧ ∀ H', Same H H' → Q (.int (refuse n l)) H'
theorem ok_refusal (T : Txt K mg) {f : Addr} {fd : FuncData} (F : Dn K mg "refusal" s_refusal ["n", "numbers"] f fd) : FnOk P w K mg base CX0 9 f fd ["n", "numbers"] (sp_refusal K) := by
  refine F.F.ok sc_refusal (fun vs H Q E h => ?_) (fun cdv A outer s H vs Q E hr h => ?_)
  · obtain ⟨a, n, l, rfl, _⟩ := h
    rfl
  · obtain ⟨a, n, l, rfl, ha, hk, q⟩ := h
    obtain ⟨f2, fd2, F2⟩ := T.d_determinant
    obtain ⟨f3, fd3, F3⟩ := T.d_rows_of
    obtain ⟨f4, fd4, F4⟩ := T.d_are_small
    obtain ⟨t1, mB⟩ := T.c_BEYOND
    obtain ⟨t2, mW⟩ := T.c_WRONG
    obtain ⟨t3, mR⟩ := T.c_MOST_ROWS
    have G2 : FnOk P w K mg base CX0 8 f2 fd2 ["rows"] (spd (n.toNat % 6 + 1)) := (ok_determinant T F2 (n.toNat % 6 + 1) (by omega)).mono (by omega)
    have G3 : FnOk P w K mg base CX0 8 f3 fd3 ["n", "numbers"] (sp_rows_of K) := (ok_rows_of T F3).mono (by omega)
    have G4 : FnOk P w K mg base CX0 8 f4 fd4 ["numbers"] (sp_are_small K) := (ok_are_small T F4).mono (by omega)
    refine ⟨_, pss_cons (ps_if (pt_not (pt_chain op_le op_le pe_int (pv 0) (pe_glob (v := .int 5) (by rfl) mR ⟨_, rfl⟩))) (pss_one (ps_ret (pe_glob (v := .int (-2)) (by rfl) mB ⟨_, rfl⟩))) pss_nil)
      (pss_cons (ps_if (PW.pt (pw_or (pt_not (pt_val (pe_call G4 hr (by rfl) F4.g F4.F.kp F4.b .nil pass0 (pa_cons (pv 1) pa_nil))))
          (pw_or1 (pt_cmpR op_eq (pe_call G2 hr (by rfl) F2.g F2.F.kp F2.b .nil pass0 (pa_cons (pe_call G3 hr (by rfl) F3.g F3.F.kp F3.b .nil pass0 (pa_cons (pv 0) (pa_cons (pv 1) pa_nil))) pa_nil)) pe_int (nomark _)))))
        (pss_one (ps_ret (pe_glob (v := .int (-3)) (by rfl) mW ⟨_, rfl⟩))) pss_nil)
      (pss_one (ps_ret pe_int))), ?_⟩
    have beyond : Si18.size n = false → Q (.int (-2)) H := fun hs => by
      have := q H (Same.refl H)
      unfold refuse at this
      rw [if_pos hs] at this
      exact this
    refine ⟨_, rfl, _, _, rfl, rfl, _, rfl, ite2 (fun h1 => ?_) (fun h1 => ?_)⟩
    · refine ⟨_, _, rfl, rfl, _, rfl, ?_⟩
      have c1 : (1 : Int) ≤ n := of_decide_eq_true h1
      by_cases c2 : n ≤ 5
      · refine iteNS c2 ?_
        have hs : Si18.size n = true := size_iff.mpr ⟨c1, c2⟩
        obtain ⟨k, rfl⟩ : ∃ k : Nat, n = (k : Int) := ⟨n.toNat, by omega⟩
        have hl : l.length = k * k := long_sq hk hs
        have hkm : (k : Int).toNat % 6 = k := by
          rw [Int.toNat_natCast]
          omega
        rw [hkm]
        have wrong : Si18.given k (chop k l) = false → ∀ H', Same H H' → Q (.int (-3)) H' := fun hg H' s' => by
          have := q H' s'
          unfold refuse at this
          rw [if_neg (by rw [hs]; decide), rows_in hs, if_pos hg] at this
          exact this
        have eg : Si18.given k (chop k l) = (Si18.small l && Si18.det k (chop k l) != 0) := by
          unfold Si18.given
          rw [chop_fine hl]
          rfl
        refine ⟨_, rfl, a, l, rfl, ha, _, rfl, ?_⟩
        cases hsm : Si18.small l with
        | false =>
          refine iteT (iteT (wrong ?_ H (Same.refl H)))
          rw [eg, hsm, Bool.false_and]
        | true =>
          refine iteF ⟨_, rfl, _, rfl, a, l, k, rfl, ha, by omega, fun H1 p s1 np r1 => ?_⟩
          refine ⟨p, chop k l, 10, rfl, r1, chop_len, chop_wide hl, by omega, fine_pow (by rw [chop_fine hl]; exact hsm), fun H2 s2 => ?_⟩
          refine ⟨rfl, _, rfl, ite2 (fun h0 => ?_) (fun h0 => ?_)⟩
          · have e0 : Si18.det k (chop k l) = 0 := V.int.inj (of_decide_eq_true h0)
            refine wrong ?_ H2 (s1.trans s2)
            rw [eg, e0, hsm]
            rfl
          · have e0 : Si18.det k (chop k l) ≠ 0 := fun z => h0 (decide_eq_true (by rw [z]))
            have := q H2 (s1.trans s2)
            unfold refuse at this
            rw [if_neg (by rw [hs]; decide), rows_in hs, if_neg (by rw [eg, hsm]; simp [e0])] at this
            exact this
      · rw [decide_eq_false c2]
        refine iteT (beyond ?_)
        cases e : Si18.size n with
        | false => rfl
        | true => exact absurd (size_iff.mp e).2 c2
    · refine ⟨_, rfl, iteT (beyond ?_)⟩
      cases e : Si18.size n with
      | false => rfl
      | true => exact absurd (decide_eq_true (size_iff.mp e).1) h1
/-! ### rows that are taken -/
/-- of an argument that isn't refused -/
theorem taken {n : Int} {l : List Int} (hk : Si18Neutral.long l n (n * n) = true) (h : refuse n l = 0) : ∃ k : Nat, n = (k : Int) ∧ 1 ≤ k ∧ k ≤ 5 ∧ l.length = k * k ∧ Si18.size n = true ∧ Si18Neutral.rowsIn n l = chop k l ∧ Si18.given n (chop k l) = true ∧ Si18.fine (chop k l) = true ∧ Si18.det k (chop k l) ≠ 0 := by
  unfold refuse at h
  by_cases hs : Si18.size n = true
  · rw [if_neg (by rw [hs]; decide)] at h
    have c := size_iff.mp hs
    obtain ⟨k, rfl⟩ : ∃ k : Nat, n = (k : Int) := ⟨n.toNat, by omega⟩
    rw [rows_in hs] at h
    by_cases hg : Si18.given k (chop k l) = true
    · have hg' := hg
      unfold Si18.given at hg
      rw [Bool.and_eq_true] at hg
      refine ⟨k, rfl, by omega, by omega, long_sq hk hs, hs, rows_in hs, hg', hg.1, ?_⟩
      have := hg.2
      simp at this
      exact this
    · rw [if_pos (by simpa using hg)] at h
      cases h
  · rw [if_pos (by simpa using hs)] at h
    cases h
theorem refused {n : Int} {l : List Int} (h : refuse n l ≠ 0) : (Si18.size n = false ∧ refuse n l = -2) ∨ (Si18.size n = true ∧ Si18.given n (Si18Neutral.rowsIn n l) = false ∧ refuse n l = -3) := by
  unfold refuse at h ⊢
  by_cases hs : Si18.size n = false
  · rw [if_pos hs]
    exact .inl ⟨hs, rfl⟩
  · rw [if_neg hs] at h ⊢
    by_cases hg : Si18.given n (Si18Neutral.rowsIn n l) = false
    · rw [if_pos hg]
      exact .inr ⟨by simpa using hs, hg, rfl⟩
    · rw [if_neg hg] at h
      exact absurd rfl h
theorem Rw.chop {H : Hp} {p : Addr} {k : Nat} {l : List Int} (hk : k ≤ 5) (hl : l.length = k * k) (hf : Si18.fine (Gw.chop k l) = true) (r : RowsAt H p (Gw.chop k l)) : Rw H p k 10 (Gw.chop k l) := ⟨r, chop_len, chop_wide hl, hk, fine_pow hf, by omega⟩
theorem pick {α : Type} {a b : Bool} {A B C : α} (h1 : a = true) (h2 : b = true) : (if a = false then A else if b = false then B else C) = C := by
  subst h1 h2
  rfl
theorem pick1 {α : Type} {a b : Bool} {A B C : α} (h1 : a = false) : (if a = false then A else if b = false then B else C) = A := by
  subst h1
  rfl
theorem pick2 {α : Type} {a b : Bool} {A B C : α} (h1 : a = true) (h2 : b = false) : (if a = false then A else if b = false then B else C) = B := by
  subst h1 h2
  rfl
/-! ### a search about 0 -/
/-- rows reduced, of numbers up to M: what is known of them -/
structure Rdc (n : Nat) (b c : List (List Int)) (be : Rat) : Prop where
  n1 : 1 ≤ n
  n5 : n ≤ 5
  b5 : be ≤ 5000000
  start : Gst.Rnd n be b 1000 1 b
  redd : Gst.Redd n be c
  fit : Fit n c
  eq : c = Si18.reducedOf n b
theorem be_le {n M : Nat} (h5 : n ≤ 5) (hM : M ≤ 1000) : ((n : Nat) : Rat) * (((M : Nat) : Rat) * ((M : Nat) : Rat)) ≤ 5000000 := by
  rw [← Rat.natCast_mul, ← Rat.natCast_mul]
  have a : n * (M * M) ≤ 5 * (1000 * 1000) := Nat.mul_le_mul h5 (Nat.mul_le_mul hM hM)
  have e : ((5 * (1000 * 1000) : Nat) : Rat) = 5000000 := by decide +kernel
  have c : ((n * (M * M) : Nat) : Rat) ≤ ((5 * (1000 * 1000) : Nat) : Rat) := Rat.natCast_le_natCast.mpr a
  rw [e] at c
  exact c
theorem rdc_of {k M : Nat} {l : List Int} (k1 : 1 ≤ k) (k5 : k ≤ 5) (hl : l.length = k * k) (hd : Si18.det k (chop k l) ≠ 0) (hM : M ≤ 1000) (hm : ∀ x : List Int, x ∈ chop k l → ∀ z, z ∈ x → z.natAbs ≤ M) :
    Rdc k (chop k l) (Si18.reducedOf k (chop k l)) (((k : Nat) : Rat) * (((M : Nat) : Rat) * ((M : Nat) : Rat))) := by
  have St := Gst.Rnd.start (b := chop k l) ⟨chop_len, chop_wide hl⟩ k1 k5 hd (M := M) hm hM
  obtain ⟨t, J⟩ := (Gst.reducedOf_rnd k5 St).2
  exact ⟨k1, k5, be_le k5 hM, St, J.redd (Gst.det_ne ⟨chop_len, chop_wide hl⟩ hd), fit_of (be_le k5 hM) k5 J.P J.short, rfl⟩
theorem fine_1000 {m : List (List Int)} (h : Si18.fine m = true) : ∀ x : List Int, x ∈ m → ∀ z, z ∈ x → z.natAbs ≤ 1000 := fun x hx z hz => by
  have b := within_iff.mp (List.all_eq_true.mp (List.all_eq_true.mp h x hx) z hz)
  omega
theorem up_sq {n : Nat} {c : List (List Int)} (F : Fit n c) {k : Nat} (hk : k < n) : Si18.square (Si18.row (Gst.upL n c) k) ≤ 2 ^ 123 := by
  have hm : Si18.row (Gst.upL n c) k ∈ upL n c := Gst.row_mem (by
    have : (upL n c).length = n := up_len
    show k < (upL n c).length
    omega)
  have s := up_small F.sm F.n5 _ hm
  have w := up_wide _ hm
  have h5 := F.n5
  have d := dot_small s s (by omega)
  have e : ((2 ^ 123 : Nat) : Int) = (2 : Int) ^ 123 := by decide
  have d' : (Si18.square (Si18.row (Gst.upL n c) k)).natAbs ≤ 2 ^ 123 := d
  omega
theorem few_of {n : Nat} {c : List (List Int)} (F : Fit n c) {most : Int} (h0 : 0 ≤ most) (h1 : most ≤ 2 ^ 60) : Gst.Few n c most := ⟨h0, fun k hk => by
  have a := up_sq F hk
  have b := Int.mul_le_mul h1 a (Gst.square_nonneg _) (by decide)
  have e : (2 : Int) ^ 60 * 2 ^ 123 < 2 ^ 199 := by decide
  exact Int.lt_of_le_of_lt b e⟩
theorem zeros_small (n : Nat) : Small 10 (Si18.zeros n) := fun z hz => by
  have : z = 0 := (List.mem_replicate.mp hz).2
  rw [this]
  exact Nat.zero_le _
theorem sea_zero {n : Nat} {b c : List (List Int)} {be : Rat} (R : Rdc n b c be) {r : Nat} (hr : (r : Int) < 2 ^ 60) (box : ∀ j, j ≤ n → Gst.pw (Gst.wd n c (Si18.zeros n) (r : Int)) j ≤ 16000000) : Sea n c (Si18.zeros n) (r : Int) :=
  ⟨R.n1, R.fit, R.redd.det, List.length_replicate .., zeros_small n, few_of R.fit (Int.natCast_nonneg _) (Int.le_of_lt hr), hr, Gst.ends_zero (box n (Nat.le_refl _)), box⟩
theorem cof_few {n : Nat} {c : List (List Int)} (F : Fit n c) {r : Nat} (hr : r ≤ 2 ^ 60) : ∀ k, k < n → r * (Si18.square (Gst.cofR n c k)).toNat < 2 ^ 199 := fun k hk => by
  have a := up_sq F hk
  rw [Gst.square_up hk] at a
  have p := Gst.square_nonneg (Gst.cofR n c k)
  have e : ((2 ^ 123 : Nat) : Int) = (2 : Int) ^ 123 := by decide
  have b : (Si18.square (Gst.cofR n c k)).toNat ≤ 2 ^ 123 := by omega
  exact Nat.lt_of_le_of_lt (Nat.mul_le_mul hr b) (by decide)
/-- the program's points about 0 are the specification's, in some order -/
theorem pts_spec {n : Nat} {b c : List (List Int)} {be : Rat} (R : Rdc n b c be) {r : Nat} (hr : r ≤ 2 ^ 60) : (ptsOf n c (Si18.zeros n) (r : Int)).Perm (Si18.pointsIn n b r) := by
  have p := Gst.pts_perm R.redd.P.sq R.redd.det (cof_few R.fit hr)
  have e1 : ptsOf n c (Si18.zeros n) (r : Int) = (Gst.grows [Si18.zeros n] c (Gst.bnds n c (Si18.zeros n) (r : Int))).filter fun x => decide (Si18.square (Si18.minus x (Si18.zeros n)) ≤ (r : Int)) := by
    unfold ptsOf upto
    rw [List.take_of_length_le (by rw [R.fit.len]; exact Nat.le_refl _), List.take_of_length_le (by rw [bnds_len]; exact Nat.le_refl _)]
  have e2 : Si18.pointsIn n b r = ((Si18.combos (Si18.boxOf n c r)).map fun m => Si18.combo n m c).filter fun x => decide (Si18.square x ≤ (r : Int)) := by
    rw [R.eq]
    rfl
  rw [e1, e2]
  exact p
/-! ### what a search finds -/
theorem pts_grows {n : Nat} {m : List (List Int)} (hl : m.length = n) (place : List Int) (most : Int) : ptsOf n m place most = (Gst.grows [Si18.zeros n] m (Gst.bnds n m place most)).filter fun x => decide (Si18.square (Si18.minus x place) ≤ most) := by
  unfold ptsOf upto
  rw [List.take_of_length_le (by rw [hl]; exact Nat.le_refl _), List.take_of_length_le (by rw [bnds_len]; exact Nat.le_refl _)]
/-! ### rows among the points -/
theorem sq_12 {n : Nat} {c : List (List Int)} (F : Fit n c) {x : List Int} (hx : x ∈ c) : 0 ≤ Si18.square x ∧ Si18.square x ≤ 2 ^ 27 := by
  have s := F.sm x hx
  have d := dot_small s s (by have := F.n5; rw [F.wide x hx]; omega)
  have d' : (Si18.square x).natAbs ≤ 2 ^ 27 := d
  have p := Gst.square_nonneg x
  have e : ((2 ^ 27 : Nat) : Int) = (2 : Int) ^ 27 := by decide
  omega
theorem c_some {n : Nat} {c : List (List Int)} (F : Fit n c) (h : 1 ≤ n) : c ≠ [] := fun z => by
  have := F.len
  rw [z] at this
  rw [← this] at h
  cases h
theorem row_in {n : Nat} {c : List (List Int)} (F : Fit n c) {k : Nat} (h : k < n) : Si18.row c k ∈ c := Gst.row_mem (by rw [F.len]; exact h)
/-- a row is found, forwards -/
theorem fwd_row {n : Nat} {b c : List (List Int)} {be : Rat} (R : Rdc n b c be) {most : Int} (F : Gst.Few n c most) {k : Nat} (hk : k < n) (h : Si18.square (Si18.row c k) ≤ most) : ∃ x, x ∈ fwdOf n c most ∧ Si18.square x = Si18.square (Si18.row c k) := by
  have S := R.redd.P.sq
  have nz : Si18.square (Si18.row c k) ≠ 0 := fun z => by
    have p := R.redd.P.pos k hk
    have l := Gst.N_le (n := n) (b := Gst.mat c) k
    have e := Gst.square_cast (S.row hk)
    rw [z] at e
    have e : (0 : Rat) = Gst.ip n (Gst.mat c k) (Gst.mat c k) := e
    rw [← e] at l
    exact absurd p (Rat.not_lt.mpr l)
  have found : ∀ t : Int, t * t = 1 → Si18.ahead (Si18.times t (Si18.row c k)) = true → ∃ x, x ∈ fwdOf n c most ∧ Si18.square x = Si18.square (Si18.row c k) := fun t ht ha => by
    have sq : Si18.square (Si18.times t (Si18.row c k)) = Si18.square (Si18.row c k) := by
      rw [Gst.square_times, ht, Int.one_mul]
    refine ⟨_, List.mem_filter.mpr ⟨?_, ha⟩, sq⟩
    rw [pts_grows R.fit.len, ← Gst.combo_unit S hk t]
    refine Gst.complete (place := Si18.zeros n) S R.redd.det (List.length_replicate ..) F (by unfold Gst.unit_; simp) ?_
    rw [Gst.minus_zeros (Gst.combo_len S _), Gst.combo_unit S hk t, sq]
    exact h
  rcases Gst.ahead_or nz with a | a
  · refine found 1 (by decide) ?_
    have e : Si18.times 1 (Si18.row c k) = Si18.row c k := by
      unfold Si18.times
      simp
    rw [e]
    exact a
  · exact found (-1) (by decide) a
/-- the forward points, as the specification tells them -/
theorem fwd_mem {n : Nat} {b c : List (List Int)} {be : Rat} (R : Rdc n b c be) {r : Nat} (hr : r ≤ 2 ^ 60) {x : List Int} : x ∈ fwdOf n c (r : Int) ↔ x ∈ (Si18.pointsIn n b r).filter fun x => Si18.square x != 0 && Si18.ahead x := by
  unfold fwdOf
  rw [List.mem_filter, List.mem_filter, (pts_spec R hr).mem_iff]
  constructor
  · rintro ⟨h1, h2⟩
    exact ⟨h1, by rw [h2, Bool.and_true]; simpa using Gst.ahead_square h2⟩
  · rintro ⟨h1, h2⟩
    exact ⟨h1, (Bool.and_eq_true _ _ ▸ h2).2⟩
/-! ### rows that are narrow; the search about a place -/
/-- the greatest number of narrow rows -/
def Mn (k : Nat) : Nat := if k ≤ 2 then 1000 else if k = 3 then 30 else if k = 4 then 9 else 3
theorem Mn_le (k : Nat) : Mn k ≤ 1000 := by
  unfold Mn
  split
  · omega
  · split
    · omega
    · split <;> omega
theorem narrow_Mn {k : Nat} (k5 : k ≤ 5) {m : List (List Int)} (h : Si18.narrow (k : Int) m = true) : ∀ x : List Int, x ∈ m → ∀ z, z ∈ x → z.natAbs ≤ Mn k := fun x hx z hz => by
  unfold Si18.narrow at h
  dsimp only at h
  have b := within_iff.mp (List.all_eq_true.mp (List.all_eq_true.mp h x hx) z hz)
  have e : (if (k : Int) ≤ 2 then (1000 : Int) else if (k : Int) = 3 then 30 else if (k : Int) = 4 then 9 else 3) = ((Mn k : Nat) : Int) := by
    unfold Mn
    by_cases h2 : k ≤ 2
    · rw [if_pos h2, if_pos (by omega)]
      rfl
    · rw [if_neg h2, if_neg (by omega)]
      by_cases h3 : k = 3
      · rw [if_pos h3, if_pos (by omega)]
        rfl
      · rw [if_neg h3, if_neg (by omega)]
        by_cases h4 : k = 4
        · rw [if_pos h4, if_pos (by omega)]
          rfl
        · rw [if_neg h4, if_neg (by omega)]
          rfl
  rw [e] at b
  omega
theorem way_all {k : Nat} (k1 : 1 ≤ k) (k5 : k ≤ 5) {m : List (List Int)} (D : Gst.Redd k (((k : Nat) : Rat) * (((Mn k : Nat) : Rat) * ((Mn k : Nat) : Rat))) m) {most : Int} (F : Gst.Few k m most) (h : Gst.Near45 k m (most : Rat)) (place : List Int) :
    ∀ j, j ≤ k → Gst.pw (Gst.wd k m place most) j ≤ 16000000 := by
  have c : k = 1 ∨ k = 2 ∨ k = 3 ∨ k = 4 ∨ k = 5 := by omega
  rcases c with rfl | rfl | rfl | rfl | rfl
  · exact Gst.way_far1 D (by decide +kernel) F h place
  · exact Gst.way_far2 D (by decide +kernel) F h place
  · exact Gst.way_far3 D (by decide +kernel) F h place
  · exact Gst.way_far4 D (by decide +kernel) F h place
  · exact Gst.way_far5 D (by decide +kernel) F h place
/-! ### minima -/
theorem sc_minima : FnScope ["n", "b"] ["n", "b"] (defScope s_minima) := ⟨rfl, rfl, rfl, by decide +kernel, rfl, by decide +kernel, by decide +kernel⟩
def sp_main (Pt : Addr) (K : PySem.W.Frag) : Sp := fun vs H Q _ => ∃ (a : Addr) (n : Int) (l : List Int), vs = [.int n, .ref a] ∧ SqL K H a (iv l) ∧ H Pt = some (.tbl #[]) ∧ PySi18.minima_asked n l = true ∧ ∀ H' p, H' p = some (.lst (iv (PySi18.minima n l))) → Q (.ref p) H'
theorem asked_long {n : Int} {l : List Int} (h : PySi18.minima_asked n l = true) : Si18Neutral.long l n (n * n) = true ∧ Si18.light (.minima n (Si18Neutral.rowsIn n l)) = true := by
  unfold PySi18.minima_asked Si18Neutral.asked at h
  rw [Bool.and_eq_true] at h
  have h1 := h.1
  rw [List.all_cons, Bool.and_eq_true] at h1
  have h2 : (Si18Neutral.whole32 n && Si18Neutral.long l n (n * n)) = true := h1.1
  rw [Bool.and_eq_true] at h2
  have h3 := h.2
  rw [Bool.and_eq_true] at h3
  have h4 := h3.2
  rw [List.all_cons, Bool.and_eq_true] at h4
  exact ⟨h2.2, h4.1⟩
theorem light_minima {n : Int} {m : List (List Int)} (h : Si18.light (.minima n m) = true) (hs : Si18.size n = true) (hg : Si18.given n m = true) : Si18.narrow n m = true := by
  have e : Si18.light (.minima n m) = (!Si18.size n || (!Si18.given n m || Si18.narrow n m)) := rfl
  rw [e, hs, hg] at h
  simpa using h
theorem w_minima (n : Int) (l : List Int) : PySi18.minima n l = told (if Si18.size n = false then Si18.say (-2) else if Si18.given n (Si18Neutral.rowsIn n l) = false then Si18.say (-3) else ⟨0, (Si18.minimaOf n.toNat (Si18Neutral.rowsIn n l)).map fun (r : Nat) => (r : Int)⟩) := rfl
/-- **the plain law** -/
theorem minima_law {n : Nat} {b c : List (List Int)} {be : Rat} (R : Rdc n b c be) {x0 : List Int} (hx0 : x0 ∈ c) (htop : ∀ y, y ∈ c → Si18.square y ≤ Si18.square x0) (hbig : Si18.square x0 ≤ 2 ^ 27) :
    (Si18.minimaOf n b).map (fun (r : Nat) => (r : Int)) = (greedy n (inOrder (fwdOf n c (Si18.square x0)))).map Si18.square := by
  have S := R.redd.P.sq
  have p0 := Gst.square_nonneg x0
  have eb : Si18.square x0 = (((Si18.square x0).toNat : Nat) : Int) := (Int.toNat_of_nonneg p0).symm
  have few := few_of R.fit p0 (by omega)
  have zl : (Si18.zeros n).length = n := List.length_replicate ..
  have fnd : ∀ x, x ∈ ptsOf n c (Si18.zeros n) (Si18.square x0) ↔ Gst.Grid n c x ∧ Si18.square (Si18.minus x (Si18.zeros n)) ≤ Si18.square x0 := fun x => by
    rw [pts_grows R.fit.len]
    exact Gst.found_iff S R.redd.det zl few
  have spec : (ptsOf n c (Si18.zeros n) (Si18.square x0)).Perm (Si18.pointsIn n b (Si18.square x0).toNat) := by
    have := pts_spec R (r := (Si18.square x0).toNat) (by omega)
    rw [← eb] at this
    exact this
  have wide : ∀ x, x ∈ ptsOf n c (Si18.zeros n) (Si18.square x0) → x.length = n := fun x hx => ((fnd x).mp hx).1.len S
  -- the specification's list
  have e1 : Si18.minimaOf n b = (Gst.greedy n (((Si18.pointsIn n b (Si18.square x0).toNat).filter fun x => Si18.square x != 0).mergeSort fun x y => decide (Si18.square x ≤ Si18.square y))).map fun x => (Si18.square x).toNat := by
    have eb2 : (Si18.reducedOf n b).foldl (fun (m : Nat) (x : Si18.Row) => max m (Si18.square x).toNat) 0 = (Si18.square x0).toNat := by
      rw [← R.eq]
      exact Gst.fold_top hx0 htop
    rw [← eb2]
    rfl
  rw [e1, List.map_map]
  have cast : ((fun (r : Nat) => (r : Int)) ∘ fun x => (Si18.square x).toNat) = Si18.square := funext fun x => Int.toNat_of_nonneg (Gst.square_nonneg x)
  rw [cast]
  have mem1 : ∀ x, x ∈ (((Si18.pointsIn n b (Si18.square x0).toNat).filter fun x => Si18.square x != 0).mergeSort fun x y => decide (Si18.square x ≤ Si18.square y)) ↔ x ∈ ptsOf n c (Si18.zeros n) (Si18.square x0) ∧ Si18.square x ≠ 0 := fun x => by
    rw [(List.mergeSort_perm _ _).mem_iff, List.mem_filter, ← spec.mem_iff, bne_iff_ne]
  have mem2 : ∀ x, x ∈ inOrder (fwdOf n c (Si18.square x0)) ↔ x ∈ ptsOf n c (Si18.zeros n) (Si18.square x0) ∧ Si18.ahead x = true := fun x => by
    unfold inOrder
    rw [(List.mergeSort_perm _ _).mem_iff]
    exact List.mem_filter
  refine Gst.greedy_squares (fun x hx => wide x ((mem1 x).mp hx).1) (fun x hx => wide x ((mem2 x).mp hx).1) ?_ ?_ (fun x hx => ?_) (fun x hx => ?_)
  · refine (List.pairwise_mergeSort (fun a b c h1 h2 => ?_) (fun a b => ?_) _).imp fun h => of_decide_eq_true h
    · have h1 := of_decide_eq_true h1
      have h2 := of_decide_eq_true h2
      exact decide_eq_true (Int.le_trans h1 h2)
    · rw [Bool.or_eq_true]
      rcases Int.le_total (Si18.square a) (Si18.square b) with h | h
      · exact .inl (decide_eq_true h)
      · exact .inr (decide_eq_true h)
  · refine List.Pairwise.imp_of_mem (fun {x y} hx hy h => ?_) (keyLe_sorted (g := sqKey) (fwdOf n c (Si18.square x0)))
    have lx := wide x ((mem2 x).mp hx).1
    have ly := wide y ((mem2 y).mp hy).1
    have q := keyLe_less (g := sqKey) (x := x) (y := y) (by show x.length + 1 = y.length + 1; omega) h
    unfold sqKey at q
    rw [Gst.less_cons, Bool.or_eq_false_iff] at q
    have := of_decide_eq_false q.1
    omega
  · obtain ⟨h1, h2⟩ := (mem1 x).mp hx
    rcases Gst.ahead_or h2 with a | a
    · exact .inl ((mem2 x).mpr ⟨h1, a⟩)
    · refine .inr ((mem2 _).mpr ⟨(fnd _).mpr ⟨((fnd x).mp h1).1.times S (-1), ?_⟩, a⟩)
      have h3 := ((fnd x).mp h1).2
      have lx := wide x h1
      rw [Gst.minus_zeros lx] at h3
      rw [Gst.minus_zeros (by rw [Gst.times_len]; exact lx), Gst.square_times]
      have e : (-1 : Int) * -1 = 1 := by decide
      rw [e, Int.one_mul]
      exact h3
  · obtain ⟨h1, h2⟩ := (mem2 x).mp hx
    exact (mem1 x).mpr ⟨h1, Gst.ahead_square h2⟩
theorem ok_main (T : Txt K mg) {f g c Pt : Addr} {fd gd : FuncData} (F : Dn K mg "minima" s_minima ["n", "b"] f fd) (FL : Dn K mg "least_squares" s_least_squares ["rows"] g gd) (hc : gd.code = .ref c) (TB : TabB base mg c Pt) : FnOk P w K mg base CX0 13 f fd ["n", "b"] (sp_main Pt K) := by
  refine F.F.ok sc_minima (fun vs H Q E h => ?_) (fun cdv A outer s H vs Q E hr h => ?_)
  · obtain ⟨a, n, l, rfl, _⟩ := h
    rfl
  · obtain ⟨a, n, l, rfl, ha, hP, hk, q⟩ := h
    obtain ⟨hk, hlight⟩ := asked_long hk
    obtain ⟨f1, fd1, F1⟩ := T.d_refusal
    obtain ⟨f3, fd3, F3⟩ := T.d_rows_of
    have G1 : FnOk P w K mg base CX0 12 f1 fd1 ["n", "numbers"] (sp_refusal K) := (ok_refusal T F1).mono (by omega)
    have G2 : FnOk P w K mg base CX0 12 g gd ["rows"] (sp_least_squares Pt (((n.toNat : Nat) : Rat) * (((Mn n.toNat : Nat) : Rat) * ((Mn n.toNat : Nat) : Rat)))) := ok_least_squares T _ FL hc TB
    have G3 : FnOk P w K mg base CX0 12 f3 fd3 ["n", "numbers"] (sp_rows_of K) := (ok_rows_of T F3).mono (by omega)
    refine ⟨_, pss_cons (ps_if (pt_cmpR op_ne (pe_call G1 hr (by rfl) F1.g F1.F.kp F1.b .nil pass0 (pa_cons (pv 0) (pa_cons (pv 1) pa_nil))) pe_int (nomark _))
        (pss_one (ps_ret (pe_lst (pa_cons (pe_call G1 hr (by rfl) F1.g F1.F.kp F1.b .nil pass0 (pa_cons (pv 0) (pa_cons (pv 1) pa_nil))) pa_nil)))) pss_nil)
      (pss_one (ps_ret (pe_op op_cat (pe_lst (pa_cons pe_int pa_nil)) (pe_call G2 hr (by rfl) FL.g FL.F.kp FL.b .nil pass0 (pa_cons (pe_call G3 hr (by rfl) F3.g F3.F.kp F3.b .nil pass0 (pa_cons (pv 0) (pa_cons (pv 1) pa_nil))) pa_nil))))), ?_⟩
    refine ⟨_, rfl, _, rfl, a, n, l, rfl, ha, hk, fun H1 s1 => ?_⟩
    refine ⟨rfl, _, rfl, ?_⟩
    by_cases hz : refuse n l = 0
    · rw [hz]
      refine iteF ?_
      obtain ⟨k, rfl, k1, k5, hl, hs, er, hg, hf, hd⟩ := taken hk hz
      rw [er] at hlight
      have R := rdc_of (M := Mn k) k1 k5 hl hd (Mn_le k) (narrow_Mn k5 (light_minima hlight hs hg))
      obtain ⟨x0, hx0, htop⟩ := Gst.top_row (c_some R.fit k1)
      have b0 := sq_12 R.fit hx0
      have e27 : (2 : Int) ^ 27 < 2 ^ 60 := by decide
      have few := few_of R.fit (most := Si18.square x0) b0.1 (by omega)
      have h45 : Gst.Near45 k (Si18.reducedOf k (chop k l)) ((Si18.square x0 : Int) : Rat) := by
        obtain ⟨i, hi⟩ := List.mem_iff_getElem?.mp hx0
        have hi' : i < k := by rw [← R.fit.len]; exact (List.getElem?_eq_some_iff.mp hi).1
        have ei : Si18.row (Si18.reducedOf k (chop k l)) i = x0 := by
          unfold Si18.row
          rw [List.getD_eq_getElem?_getD, hi]
          rfl
        rw [← ei]
        exact Gst.rows_45 R.redd k1 k5 hi'
      have box := way_all k1 k5 R.redd few h45 (Si18.zeros k)
      have S : Sea k (Si18.reducedOf k (chop k l)) (Si18.zeros k) (Si18.square x0) := by
        have et : Si18.square x0 = (((Si18.square x0).toNat : Nat) : Int) := (Int.toNat_of_nonneg b0.1).symm
        rw [et] at box ⊢
        exact sea_zero R (by omega) box
      have law := minima_law R hx0 htop b0.2
      refine ⟨by show 1 ≤ sizeLine; decide, fun o no => ?_⟩
      have s0 := same_upd (o := .lst [.int 0]) no
      refine ⟨_, rfl, _, rfl, a, l, k, rfl, (s1.trans s0).seq ha, k5, fun H2 p s2 np r2 => ?_⟩
      refine ⟨p, chop k l, k, Si18.square x0, rfl, r2, chop_len, k5, R.b5, R.start, s2 _ _ (s0 _ _ (s1 _ _ hP)), ⟨x0, hx0, rfl⟩, htop, S, fun H3 p3 k3 e3 => ?_⟩
      refine ⟨o, p3, _, _, rfl, rfl, k3 _ _ (s2 _ _ upd_same), e3, ?_, fun u nu => q _ u ?_⟩
      · have gl : (greedy k (inOrder (fwdOf k (Si18.reducedOf k (chop k l)) (Si18.square x0)))).length ≤ k := greedy_len (Nat.zero_le k)
        rw [iv_len, List.length_map]
        show 1 + _ ≤ sizeLine
        exact Nat.le_of_lt (small_line (by omega))
      · rw [upd_same, w_minima, er, pick hs hg]
        show some (HO.lst (V.int 0 :: iv ((greedy k (inOrder (fwdOf k (Si18.reducedOf k (chop k l)) (Si18.square x0)))).map Si18.square))) = some (HO.lst (iv (0 :: (Si18.minimaOf k (chop k l)).map fun (r : Nat) => (r : Int))))
        rw [law]
        rfl
    · have hne : (!decide (V.int (refuse n l) = V.int 0)) = true := by
        rw [decide_eq_false fun z => hz (V.int.inj z)]
        rfl
      rw [hne]
      refine iteT ⟨_, rfl, _, rfl, a, n, l, rfl, s1.seq ha, hk, fun H2 s2 => ⟨by show 1 ≤ sizeLine; decide, fun u nu => q _ u ?_⟩⟩
      rw [upd_same, w_minima]
      rcases refused hz with ⟨h1, h2⟩ | ⟨h1, h2, h3⟩
      · rw [pick1 h1, h2]
        rfl
      · rw [pick2 h1 h2, h3]
        rfl
end
theorem all_mk {P : Program} {w : World} {K : PySem.W.Frag} {h : Heap} {mg : Str → Option Value} {fa f0 f1 f2 f3 f4 f5 f6 f7 f8 f9 f10 f11 f12 f13 f14 f15 f16 f17 f18 f19 f20 f21 f22 f23 f24 f25 f26 : Addr} (X : K.In h) (G : h.Ns mainGlobals mg) (hfa : mg "minima" = some (.ref fa))
    {od0 an0 od1 an1 od2 an2 od3 an3 od4 an4 od5 an5 od6 an6 od7 an7 od8 an8 od9 an9 od10 an10 od11 an11 od12 an12 od13 an13 od14 an14 od15 an15 od16 an16 od17 an17 od18 an18 od19 an19 od20 an20 od21 an21 od22 an22 od23 an23 od24 an24 od25 an25 od26 an26 : Option Addr} {sl0 sl1 sl2 sl3 sl4 sl5 sl6 sl7 sl8 sl9 sl10 sl11 sl12 sl13 sl14 sl15 sl16 sl17 sl18 sl19 sl20 sl21 sl22 sl23 sl24 sl25 sl26 : Array (Option Value)} {oc0 kV0 dc0 pm0 cd0 ct0 oc1 kV1 dc1 pm1 cd1 ct1 oc2 kV2 dc2 pm2 cd2 ct2 oc3 kV3 dc3 pm3 cd3 ct3 oc4 kV4 dc4 pm4 cd4 ct4 oc5 kV5 dc5 pm5 cd5 ct5 oc6 kV6 dc6 pm6 cd6 ct6 oc7 kV7 dc7 pm7 cd7 ct7 oc8 kV8 dc8 pm8 cd8 ct8 oc9 kV9 dc9 pm9 cd9 ct9 oc10 kV10 dc10 pm10 cd10 ct10 oc11 kV11 dc11 pm11 cd11 ct11 oc12 kV12 dc12 pm12 cd12 ct12 oc13 kV13 dc13 pm13 cd13 ct13 oc14 kV14 dc14 pm14 cd14 ct14 oc15 kV15 dc15 pm15 cd15 ct15 oc16 kV16 dc16 pm16 cd16 ct16 oc17 kV17 dc17 pm17 cd17 ct17 oc18 kV18 dc18 pm18 cd18 ct18 oc19 kV19 dc19 pm19 cd19 ct19 oc20 kV20 dc20 pm20 cd20 ct20 oc21 kV21 dc21 pm21 cd21 ct21 oc22 kV22 dc22 pm22 cd22 ct22 oc23 kV23 dc23 pm23 cd23 ct23 oc24 kV24 dc24 pm24 cd24 ct24 oc25 kV25 dc25 pm25 cd25 ct25 oc26 kV26 dc26 pm26 cd26 ct26 : Value} {t0 t1 t2 t3 : Tok}
    (a0 : PySem.W.nsIn K mainGlobals "product" = some (some (.ref f0))) (l0 : K.lookup f0 = some ⟨oc0, od0, .func (PySem.W.fnOf "product" "product" (defArgs s_product) (defBody s_product) (defScope s_product) .none kV0 dc0 pm0 an0 cd0 ct0), sl0⟩) (c0 : PySem.W.codeIn K cd0 "product" = true) (k0 : PySem.W.keepIn K (.ref f0) = true)
    (a1 : PySem.W.nsIn K mainGlobals "square" = some (some (.ref f1))) (l1 : K.lookup f1 = some ⟨oc1, od1, .func (PySem.W.fnOf "square" "square" (defArgs s_square) (defBody s_square) (defScope s_square) .none kV1 dc1 pm1 an1 cd1 ct1), sl1⟩) (c1 : PySem.W.codeIn K cd1 "square" = true) (k1 : PySem.W.keepIn K (.ref f1) = true)
    (a2 : PySem.W.nsIn K mainGlobals "with_times" = some (some (.ref f2))) (l2 : K.lookup f2 = some ⟨oc2, od2, .func (PySem.W.fnOf "with_times" "with_times" (defArgs s_with_times) (defBody s_with_times) (defScope s_with_times) .none kV2 dc2 pm2 an2 cd2 ct2), sl2⟩) (c2 : PySem.W.codeIn K cd2 "with_times" = true) (k2 : PySem.W.keepIn K (.ref f2) = true)
    (a3 : PySem.W.nsIn K mainGlobals "less" = some (some (.ref f3))) (l3 : K.lookup f3 = some ⟨oc3, od3, .func (PySem.W.fnOf "less" "less" (defArgs s_less) (defBody s_less) (defScope s_less) .none kV3 dc3 pm3 an3 cd3 ct3), sl3⟩) (c3 : PySem.W.codeIn K cd3 "less" = true) (k3 : PySem.W.keepIn K (.ref f3) = true)
    (a4 : PySem.W.nsIn K mainGlobals "without" = some (some (.ref f4))) (l4 : K.lookup f4 = some ⟨oc4, od4, .func (PySem.W.fnOf "without" "without" (defArgs s_without) (defBody s_without) (defScope s_without) .none kV4 dc4 pm4 an4 cd4 ct4), sl4⟩) (c4 : PySem.W.codeIn K cd4 "without" = true) (k4 : PySem.W.keepIn K (.ref f4) = true)
    (a5 : PySem.W.nsIn K mainGlobals "determinant" = some (some (.ref f5))) (l5 : K.lookup f5 = some ⟨oc5, od5, .func (PySem.W.fnOf "determinant" "determinant" (defArgs s_determinant) (defBody s_determinant) (defScope s_determinant) .none kV5 dc5 pm5 an5 cd5 ct5), sl5⟩) (c5 : PySem.W.codeIn K cd5 "determinant" = true) (k5 : PySem.W.keepIn K (.ref f5) = true)
    (a6 : PySem.W.nsIn K mainGlobals "cofactors" = some (some (.ref f6))) (l6 : K.lookup f6 = some ⟨oc6, od6, .func (PySem.W.fnOf "cofactors" "cofactors" (defArgs s_cofactors) (defBody s_cofactors) (defScope s_cofactors) .none kV6 dc6 pm6 an6 cd6 ct6), sl6⟩) (c6 : PySem.W.codeIn K cd6 "cofactors" = true) (k6 : PySem.W.keepIn K (.ref f6) = true)
    (a7 : PySem.W.nsIn K mainGlobals "are_free" = some (some (.ref f7))) (l7 : K.lookup f7 = some ⟨oc7, od7, .func (PySem.W.fnOf "are_free" "are_free" (defArgs s_are_free) (defBody s_are_free) (defScope s_are_free) .none kV7 dc7 pm7 an7 cd7 ct7), sl7⟩) (c7 : PySem.W.codeIn K cd7 "are_free" = true) (k7 : PySem.W.keepIn K (.ref f7) = true)
    (a8 : PySem.W.nsIn K mainGlobals "mixed" = some (some (.ref f8))) (l8 : K.lookup f8 = some ⟨oc8, od8, .func (PySem.W.fnOf "mixed" "mixed" (defArgs s_mixed) (defBody s_mixed) (defScope s_mixed) .none kV8 dc8 pm8 an8 cd8 ct8), sl8⟩) (c8 : PySem.W.codeIn K cd8 "mixed" = true) (k8 : PySem.W.keepIn K (.ref f8) = true)
    (a9 : PySem.W.nsIn K mainGlobals "corner" = some (some (.ref f9))) (l9 : K.lookup f9 = some ⟨oc9, od9, .func (PySem.W.fnOf "corner" "corner" (defArgs s_corner) (defBody s_corner) (defScope s_corner) .none kV9 dc9 pm9 an9 cd9 ct9), sl9⟩) (c9 : PySem.W.codeIn K cd9 "corner" = true) (k9 : PySem.W.keepIn K (.ref f9) = true)
    (a10 : PySem.W.nsIn K mainGlobals "nearest" = some (some (.ref f10))) (l10 : K.lookup f10 = some ⟨oc10, od10, .func (PySem.W.fnOf "nearest" "nearest" (defArgs s_nearest) (defBody s_nearest) (defScope s_nearest) .none kV10 dc10 pm10 an10 cd10 ct10), sl10⟩) (c10 : PySem.W.codeIn K cd10 "nearest" = true) (k10 : PySem.W.keepIn K (.ref f10) = true)
    (a11 : PySem.W.nsIn K mainGlobals "is_in_turn" = some (some (.ref f11))) (l11 : K.lookup f11 = some ⟨oc11, od11, .func (PySem.W.fnOf "is_in_turn" "is_in_turn" (defArgs s_is_in_turn) (defBody s_is_in_turn) (defScope s_is_in_turn) .none kV11 dc11 pm11 an11 cd11 ct11), sl11⟩) (c11 : PySem.W.codeIn K cd11 "is_in_turn" = true) (k11 : PySem.W.keepIn K (.ref f11) = true)
    (a12 : PySem.W.nsIn K mainGlobals "lowered" = some (some (.ref f12))) (l12 : K.lookup f12 = some ⟨oc12, od12, .func (PySem.W.fnOf "lowered" "lowered" (defArgs s_lowered) (defBody s_lowered) (defScope s_lowered) .none kV12 dc12 pm12 an12 cd12 ct12), sl12⟩) (c12 : PySem.W.codeIn K cd12 "lowered" = true) (k12 : PySem.W.keepIn K (.ref f12) = true)
    (a13 : PySem.W.nsIn K mainGlobals "changed" = some (some (.ref f13))) (l13 : K.lookup f13 = some ⟨oc13, od13, .func (PySem.W.fnOf "changed" "changed" (defArgs s_changed) (defBody s_changed) (defScope s_changed) .none kV13 dc13 pm13 an13 cd13 ct13), sl13⟩) (c13 : PySem.W.codeIn K cd13 "changed" = true) (k13 : PySem.W.keepIn K (.ref f13) = true)
    (a14 : PySem.W.nsIn K mainGlobals "reduced" = some (some (.ref f14))) (l14 : K.lookup f14 = some ⟨oc14, od14, .func (PySem.W.fnOf "reduced" "reduced" (defArgs s_reduced) (defBody s_reduced) (defScope s_reduced) .none kV14 dc14 pm14 an14 cd14 ct14), sl14⟩) (c14 : PySem.W.codeIn K cd14 "reduced" = true) (k14 : PySem.W.keepIn K (.ref f14) = true)
    (a15 : PySem.W.nsIn K mainGlobals "root" = some (some (.ref f15))) (l15 : K.lookup f15 = some ⟨oc15, od15, .func (PySem.W.fnOf "root" "root" (defArgs s_root) (defBody s_root) (defScope s_root) .none kV15 dc15 pm15 an15 cd15 ct15), sl15⟩) (c15 : PySem.W.codeIn K cd15 "root" = true) (k15 : PySem.W.keepIn K (.ref f15) = true)
    (a16 : PySem.W.nsIn K mainGlobals "upright" = some (some (.ref f16))) (l16 : K.lookup f16 = some ⟨oc16, od16, .func (PySem.W.fnOf "upright" "upright" (defArgs s_upright) (defBody s_upright) (defScope s_upright) .none kV16 dc16 pm16 an16 cd16 ct16), sl16⟩) (c16 : PySem.W.codeIn K cd16 "upright" = true) (k16 : PySem.W.keepIn K (.ref f16) = true)
    (a17 : PySem.W.nsIn K mainGlobals "multiples_within" = some (some (.ref f17))) (l17 : K.lookup f17 = some ⟨oc17, od17, .func (PySem.W.fnOf "multiples_within" "multiples_within" (defArgs s_multiples_within) (defBody s_multiples_within) (defScope s_multiples_within) .none kV17 dc17 pm17 an17 cd17 ct17), sl17⟩) (c17 : PySem.W.codeIn K cd17 "multiples_within" = true) (k17 : PySem.W.keepIn K (.ref f17) = true)
    (a18 : PySem.W.nsIn K mainGlobals "points_within" = some (some (.ref f18))) (l18 : K.lookup f18 = some ⟨oc18, od18, .func (PySem.W.fnOf "points_within" "points_within" (defArgs s_points_within) (defBody s_points_within) (defScope s_points_within) .none kV18 dc18 pm18 an18 cd18 ct18), sl18⟩) (c18 : PySem.W.codeIn K cd18 "points_within" = true) (k18 : PySem.W.keepIn K (.ref f18) = true)
    (a19 : PySem.W.nsIn K mainGlobals "nought" = some (some (.ref f19))) (l19 : K.lookup f19 = some ⟨oc19, od19, .func (PySem.W.fnOf "nought" "nought" (defArgs s_nought) (defBody s_nought) (defScope s_nought) .none kV19 dc19 pm19 an19 cd19 ct19), sl19⟩) (c19 : PySem.W.codeIn K cd19 "nought" = true) (k19 : PySem.W.keepIn K (.ref f19) = true)
    (a20 : PySem.W.nsIn K mainGlobals "is_forward" = some (some (.ref f20))) (l20 : K.lookup f20 = some ⟨oc20, od20, .func (PySem.W.fnOf "is_forward" "is_forward" (defArgs s_is_forward) (defBody s_is_forward) (defScope s_is_forward) .none kV20 dc20 pm20 an20 cd20 ct20), sl20⟩) (c20 : PySem.W.codeIn K cd20 "is_forward" = true) (k20 : PySem.W.keepIn K (.ref f20) = true)
    (a21 : PySem.W.nsIn K mainGlobals "forward_points" = some (some (.ref f21))) (l21 : K.lookup f21 = some ⟨oc21, od21, .func (PySem.W.fnOf "forward_points" "forward_points" (defArgs s_forward_points) (defBody s_forward_points) (defScope s_forward_points) .none kV21 dc21 pm21 an21 cd21 ct21), sl21⟩) (c21 : PySem.W.codeIn K cd21 "forward_points" = true) (k21 : PySem.W.keepIn K (.ref f21) = true)
    (a22 : PySem.W.nsIn K mainGlobals "least_squares" = some (some (.ref f22))) (l22 : K.lookup f22 = some ⟨oc22, od22, .func (PySem.W.fnOf "least_squares" "least_squares" (defArgs s_least_squares) (defBody s_least_squares) (defScope s_least_squares) .none kV22 dc22 pm22 an22 cd22 ct22), sl22⟩) (c22 : PySem.W.codeIn K cd22 "least_squares" = true) (k22 : PySem.W.keepIn K (.ref f22) = true)
    (a23 : PySem.W.nsIn K mainGlobals "rows_of" = some (some (.ref f23))) (l23 : K.lookup f23 = some ⟨oc23, od23, .func (PySem.W.fnOf "rows_of" "rows_of" (defArgs s_rows_of) (defBody s_rows_of) (defScope s_rows_of) .none kV23 dc23 pm23 an23 cd23 ct23), sl23⟩) (c23 : PySem.W.codeIn K cd23 "rows_of" = true) (k23 : PySem.W.keepIn K (.ref f23) = true)
    (a24 : PySem.W.nsIn K mainGlobals "are_small" = some (some (.ref f24))) (l24 : K.lookup f24 = some ⟨oc24, od24, .func (PySem.W.fnOf "are_small" "are_small" (defArgs s_are_small) (defBody s_are_small) (defScope s_are_small) .none kV24 dc24 pm24 an24 cd24 ct24), sl24⟩) (c24 : PySem.W.codeIn K cd24 "are_small" = true) (k24 : PySem.W.keepIn K (.ref f24) = true)
    (a25 : PySem.W.nsIn K mainGlobals "refusal" = some (some (.ref f25))) (l25 : K.lookup f25 = some ⟨oc25, od25, .func (PySem.W.fnOf "refusal" "refusal" (defArgs s_refusal) (defBody s_refusal) (defScope s_refusal) .none kV25 dc25 pm25 an25 cd25 ct25), sl25⟩) (c25 : PySem.W.codeIn K cd25 "refusal" = true) (k25 : PySem.W.keepIn K (.ref f25) = true)
    (a26 : PySem.W.nsIn K mainGlobals "minima" = some (some (.ref f26))) (l26 : K.lookup f26 = some ⟨oc26, od26, .func (PySem.W.fnOf "minima" "minima" (defArgs s_minima) (defBody s_minima) (defScope s_minima) .none kV26 dc26 pm26 an26 cd26 ct26), sl26⟩) (c26 : PySem.W.codeIn K cd26 "minima" = true) (k26 : PySem.W.keepIn K (.ref f26) = true)
    (m0 : PySem.W.nsIn K mainGlobals "BEYOND" = some (some (.int (-2) t0)))
    (m1 : PySem.W.nsIn K mainGlobals "WRONG" = some (some (.int (-3) t1)))
    (m2 : PySem.W.nsIn K mainGlobals "MOST_ROWS" = some (some (.int (5) t2)))
    (m3 : PySem.W.nsIn K mainGlobals "MOST" = some (some (.int (1000) t3)))
    (z0 : PySem.W.nsIn K mainGlobals "len" = some none)
    (z1 : PySem.W.nsIn K mainGlobals "range" = some none)
    (z2 : PySem.W.nsIn K mainGlobals "zip" = some none)
    (z3 : PySem.W.nsIn K mainGlobals "reversed" = some none)
    (z4 : PySem.W.nsIn K mainGlobals "list" = some none)
    (z5 : PySem.W.nsIn K mainGlobals "max" = some none)
    (z6 : PySem.W.nsIn K mainGlobals "sorted" = some none)
    (tb : (PySem.W.tabIn K "least_squares").isSome = true) (nt : PySem.W.noTabs K = true)
    : ∃ (fd : FuncData) (c Pt : Addr), PySem.W.noTabs K = true ∧ PySem.W.tabIn K "least_squares" = some (c, Pt) ∧ (∀ (s : Shared) (us : List Value), us.length = (["n", "b"] : List Str).length → BindsTo s fd ⟨us, []⟩ ((["n", "b"] : List Str).zip us)) ∧ ∀ base : Heap, K.In base → base.Ns mainGlobals mg → TabB base mg c Pt → FnOk P w K mg base CX0 13 fa fd ["n", "b"] (sp_main Pt K) := by
  have e := hfa.symm.trans (PySem.W.mg_of X G a26)
  cases e
  have F0 := fun_mk (st := s_product) l0 c0 k0
  have D0 : Dn K mg "product" s_product ["one", "other"] _ _ := ⟨F0, F0.binds (ps := ["one", "other"]) fun _ _ _ _ _ _ us hl => match us, hl with | [_, _], _ => rfl, PySem.W.mg_of X G a0⟩
  have F1 := fun_mk (st := s_square) l1 c1 k1
  have D1 : Dn K mg "square" s_square ["row"] _ _ := ⟨F1, F1.binds (ps := ["row"]) fun _ _ _ _ _ _ us hl => match us, hl with | [_], _ => rfl, PySem.W.mg_of X G a1⟩
  have F2 := fun_mk (st := s_with_times) l2 c2 k2
  have D2 : Dn K mg "with_times" s_with_times ["row", "many", "other"] _ _ := ⟨F2, F2.binds (ps := ["row", "many", "other"]) fun _ _ _ _ _ _ us hl => match us, hl with | [_, _, _], _ => rfl, PySem.W.mg_of X G a2⟩
  have F3 := fun_mk (st := s_less) l3 c3 k3
  have D3 : Dn K mg "less" s_less ["row", "other"] _ _ := ⟨F3, F3.binds (ps := ["row", "other"]) fun _ _ _ _ _ _ us hl => match us, hl with | [_, _], _ => rfl, PySem.W.mg_of X G a3⟩
  have F4 := fun_mk (st := s_without) l4 c4 k4
  have D4 : Dn K mg "without" s_without ["row", "column"] _ _ := ⟨F4, F4.binds (ps := ["row", "column"]) fun _ _ _ _ _ _ us hl => match us, hl with | [_, _], _ => rfl, PySem.W.mg_of X G a4⟩
  have F5 := fun_mk (st := s_determinant) l5 c5 k5
  have D5 : Dn K mg "determinant" s_determinant ["rows"] _ _ := ⟨F5, F5.binds (ps := ["rows"]) fun _ _ _ _ _ _ us hl => match us, hl with | [_], _ => rfl, PySem.W.mg_of X G a5⟩
  have F6 := fun_mk (st := s_cofactors) l6 c6 k6
  have D6 : Dn K mg "cofactors" s_cofactors ["rows", "k"] _ _ := ⟨F6, F6.binds (ps := ["rows", "k"]) fun _ _ _ _ _ _ us hl => match us, hl with | [_, _], _ => rfl, PySem.W.mg_of X G a6⟩
  have F7 := fun_mk (st := s_are_free) l7 c7 k7
  have D7 : Dn K mg "are_free" s_are_free ["rows"] _ _ := ⟨F7, F7.binds (ps := ["rows"]) fun _ _ _ _ _ _ us hl => match us, hl with | [_], _ => rfl, PySem.W.mg_of X G a7⟩
  have F8 := fun_mk (st := s_mixed) l8 c8 k8
  have D8 : Dn K mg "mixed" s_mixed ["rows", "k", "j"] _ _ := ⟨F8, F8.binds (ps := ["rows", "k", "j"]) fun _ _ _ _ _ _ us hl => match us, hl with | [_, _, _], _ => rfl, PySem.W.mg_of X G a8⟩
  have F9 := fun_mk (st := s_corner) l9 c9 k9
  have D9 : Dn K mg "corner" s_corner ["rows", "j"] _ _ := ⟨F9, F9.binds (ps := ["rows", "j"]) fun _ _ _ _ _ _ us hl => match us, hl with | [_, _], _ => rfl, PySem.W.mg_of X G a9⟩
  have F10 := fun_mk (st := s_nearest) l10 c10 k10
  have D10 : Dn K mg "nearest" s_nearest ["top", "bottom"] _ _ := ⟨F10, F10.binds (ps := ["top", "bottom"]) fun _ _ _ _ _ _ us hl => match us, hl with | [_, _], _ => rfl, PySem.W.mg_of X G a10⟩
  have F11 := fun_mk (st := s_is_in_turn) l11 c11 k11
  have D11 : Dn K mg "is_in_turn" s_is_in_turn ["rows", "k"] _ _ := ⟨F11, F11.binds (ps := ["rows", "k"]) fun _ _ _ _ _ _ us hl => match us, hl with | [_, _], _ => rfl, PySem.W.mg_of X G a11⟩
  have F12 := fun_mk (st := s_lowered) l12 c12 k12
  have D12 : Dn K mg "lowered" s_lowered ["rows", "k"] _ _ := ⟨F12, F12.binds (ps := ["rows", "k"]) fun _ _ _ _ _ _ us hl => match us, hl with | [_, _], _ => rfl, PySem.W.mg_of X G a12⟩
  have F13 := fun_mk (st := s_changed) l13 c13 k13
  have D13 : Dn K mg "changed" s_changed ["rows", "k"] _ _ := ⟨F13, F13.binds (ps := ["rows", "k"]) fun _ _ _ _ _ _ us hl => match us, hl with | [_, _], _ => rfl, PySem.W.mg_of X G a13⟩
  have F14 := fun_mk (st := s_reduced) l14 c14 k14
  have D14 : Dn K mg "reduced" s_reduced ["rows"] _ _ := ⟨F14, F14.binds (ps := ["rows"]) fun _ _ _ _ _ _ us hl => match us, hl with | [_], _ => rfl, PySem.W.mg_of X G a14⟩
  have F15 := fun_mk (st := s_root) l15 c15 k15
  have D15 : Dn K mg "root" s_root ["number"] _ _ := ⟨F15, F15.binds (ps := ["number"]) fun _ _ _ _ _ _ us hl => match us, hl with | [_], _ => rfl, PySem.W.mg_of X G a15⟩
  have F16 := fun_mk (st := s_upright) l16 c16 k16
  have D16 : Dn K mg "upright" s_upright ["rows"] _ _ := ⟨F16, F16.binds (ps := ["rows"]) fun _ _ _ _ _ _ us hl => match us, hl with | [_], _ => rfl, PySem.W.mg_of X G a16⟩
  have F17 := fun_mk (st := s_multiples_within) l17 c17 k17
  have D17 : Dn K mg "multiples_within" s_multiples_within ["line", "whole", "place", "most"] _ _ := ⟨F17, F17.binds (ps := ["line", "whole", "place", "most"]) fun _ _ _ _ _ _ us hl => match us, hl with | [_, _, _, _], _ => rfl, PySem.W.mg_of X G a17⟩
  have F18 := fun_mk (st := s_points_within) l18 c18 k18
  have D18 : Dn K mg "points_within" s_points_within ["rows", "place", "most"] _ _ := ⟨F18, F18.binds (ps := ["rows", "place", "most"]) fun _ _ _ _ _ _ us hl => match us, hl with | [_, _, _], _ => rfl, PySem.W.mg_of X G a18⟩
  have F19 := fun_mk (st := s_nought) l19 c19 k19
  have D19 : Dn K mg "nought" s_nought ["rows"] _ _ := ⟨F19, F19.binds (ps := ["rows"]) fun _ _ _ _ _ _ us hl => match us, hl with | [_], _ => rfl, PySem.W.mg_of X G a19⟩
  have F20 := fun_mk (st := s_is_forward) l20 c20 k20
  have D20 : Dn K mg "is_forward" s_is_forward ["point"] _ _ := ⟨F20, F20.binds (ps := ["point"]) fun _ _ _ _ _ _ us hl => match us, hl with | [_], _ => rfl, PySem.W.mg_of X G a20⟩
  have F21 := fun_mk (st := s_forward_points) l21 c21 k21
  have D21 : Dn K mg "forward_points" s_forward_points ["rows", "most"] _ _ := ⟨F21, F21.binds (ps := ["rows", "most"]) fun _ _ _ _ _ _ us hl => match us, hl with | [_, _], _ => rfl, PySem.W.mg_of X G a21⟩
  have F22 := fun_mk (st := s_least_squares) l22 c22 k22
  have D22 : Dn K mg "least_squares" s_least_squares ["rows"] _ _ := ⟨F22, F22.binds (ps := ["rows"]) fun _ _ _ _ _ _ us hl => match us, hl with | [_], _ => rfl, PySem.W.mg_of X G a22⟩
  have F23 := fun_mk (st := s_rows_of) l23 c23 k23
  have D23 : Dn K mg "rows_of" s_rows_of ["n", "numbers"] _ _ := ⟨F23, F23.binds (ps := ["n", "numbers"]) fun _ _ _ _ _ _ us hl => match us, hl with | [_, _], _ => rfl, PySem.W.mg_of X G a23⟩
  have F24 := fun_mk (st := s_are_small) l24 c24 k24
  have D24 : Dn K mg "are_small" s_are_small ["numbers"] _ _ := ⟨F24, F24.binds (ps := ["numbers"]) fun _ _ _ _ _ _ us hl => match us, hl with | [_], _ => rfl, PySem.W.mg_of X G a24⟩
  have F25 := fun_mk (st := s_refusal) l25 c25 k25
  have D25 : Dn K mg "refusal" s_refusal ["n", "numbers"] _ _ := ⟨F25, F25.binds (ps := ["n", "numbers"]) fun _ _ _ _ _ _ us hl => match us, hl with | [_, _], _ => rfl, PySem.W.mg_of X G a25⟩
  have F26 := fun_mk (st := s_minima) l26 c26 k26
  have D26 : Dn K mg "minima" s_minima ["n", "b"] _ _ := ⟨F26, F26.binds (ps := ["n", "b"]) fun _ _ _ _ _ _ us hl => match us, hl with | [_, _], _ => rfl, PySem.W.mg_of X G a26⟩
  have T : Txt K mg := ⟨⟨_, _, D0⟩, ⟨_, _, D1⟩, ⟨_, _, D2⟩, ⟨_, _, D3⟩, ⟨_, _, D4⟩, ⟨_, _, D5⟩, ⟨_, _, D6⟩, ⟨_, _, D7⟩, ⟨_, _, D8⟩, ⟨_, _, D9⟩, ⟨_, _, D10⟩, ⟨_, _, D11⟩, ⟨_, _, D12⟩, ⟨_, _, D13⟩, ⟨_, _, D14⟩, ⟨_, _, D15⟩, ⟨_, _, D16⟩, ⟨_, _, D17⟩, ⟨_, _, D18⟩, ⟨_, _, D19⟩, ⟨_, _, D20⟩, ⟨_, _, D21⟩, ⟨_, _, D22⟩, ⟨_, _, D23⟩, ⟨_, _, D24⟩, ⟨_, _, D25⟩, ⟨_, _, D26⟩, ⟨_, PySem.W.mg_of X G m0⟩, ⟨_, PySem.W.mg_of X G m1⟩, ⟨_, PySem.W.mg_of X G m2⟩, ⟨_, PySem.W.mg_of X G m3⟩, PySem.W.mg_none_of X G z0, PySem.W.mg_none_of X G z1, PySem.W.mg_none_of X G z2, PySem.W.mg_none_of X G z3, PySem.W.mg_none_of X G z4, PySem.W.mg_none_of X G z5, PySem.W.mg_none_of X G z6⟩
  obtain ⟨⟨c, Pt⟩, tb⟩ := Option.isSome_iff_exists.mp tb
  exact ⟨PySem.W.fnOf "minima" "minima" (defArgs s_minima) (defBody s_minima) (defScope s_minima) .none kV26 dc26 pm26 an26 cd26 ct26, c, Pt, nt, tb, fun s us hu => match us, hu with | [_, _], _ => .of_eq rfl, fun base _ _ TB => ok_main T D26 D22 (PySem.W.law_code X G tb D22.g (X _ _ l22) rfl) TB⟩
end Gw
open PySem PySem.W PyProof.Rows
set_option maxRecDepth 100000 in
set_option maxHeartbeats 8000000 in
theorem PySem.Challenge.cw_gridsteps_s04_minima_holds : PySem.Challenge.rw_gridsteps_s04_minima.Holds := by
  w_on; k_headS; (case hw => exact ⟨[.int 0, .list []], by decide +kernel, by decide +kernel⟩)
  k_fillS
  refine Gw.tab_walk (r := PySem.Challenge.rw_gridsteps_s04_minima) (k := 13) (ps := ["n", "b"]) (sp := Gw.sp_main) (x := "least_squares") (by decide +kernel) rfl rfl ⟨rfl, by decide, by decide⟩ (fun w h Y => PySem.W.kIn_of Y) (by decide +kernel) ?F ?S
  case F =>
    intro w mg fa h Y KX G hmg
    refine' Gw.all_mk KX G hmg ?a0 ?l0 ?c0 ?k0 ?a1 ?l1 ?c1 ?k1 ?a2 ?l2 ?c2 ?k2 ?a3 ?l3 ?c3 ?k3 ?a4 ?l4 ?c4 ?k4 ?a5 ?l5 ?c5 ?k5 ?a6 ?l6 ?c6 ?k6 ?a7 ?l7 ?c7 ?k7 ?a8 ?l8 ?c8 ?k8 ?a9 ?l9 ?c9 ?k9 ?a10 ?l10 ?c10 ?k10 ?a11 ?l11 ?c11 ?k11 ?a12 ?l12 ?c12 ?k12 ?a13 ?l13 ?c13 ?k13 ?a14 ?l14 ?c14 ?k14 ?a15 ?l15 ?c15 ?k15 ?a16 ?l16 ?c16 ?k16 ?a17 ?l17 ?c17 ?k17 ?a18 ?l18 ?c18 ?k18 ?a19 ?l19 ?c19 ?k19 ?a20 ?l20 ?c20 ?k20 ?a21 ?l21 ?c21 ?k21 ?a22 ?l22 ?c22 ?k22 ?a23 ?l23 ?c23 ?k23 ?a24 ?l24 ?c24 ?k24 ?a25 ?l25 ?c25 ?k25 ?a26 ?l26 ?c26 ?k26 ?m0 ?m1 ?m2 ?m3 ?z0 ?z1 ?z2 ?z3 ?z4 ?z5 ?z6 ?tb ?nt
    (case a0 => k_is)
    (case l0 => k_is)
    (case c0 => k_is)
    (case k0 => k_is)
    (case a1 => k_is)
    (case l1 => k_is)
    (case c1 => k_is)
    (case k1 => k_is)
    (case a2 => k_is)
    (case l2 => k_is)
    (case c2 => k_is)
    (case k2 => k_is)
    (case a3 => k_is)
    (case l3 => k_is)
    (case c3 => k_is)
    (case k3 => k_is)
    (case a4 => k_is)
    (case l4 => k_is)
    (case c4 => k_is)
    (case k4 => k_is)
    (case a5 => k_is)
    (case l5 => k_is)
    (case c5 => k_is)
    (case k5 => k_is)
    (case a6 => k_is)
    (case l6 => k_is)
    (case c6 => k_is)
    (case k6 => k_is)
    (case a7 => k_is)
    (case l7 => k_is)
    (case c7 => k_is)
    (case k7 => k_is)
    (case a8 => k_is)
    (case l8 => k_is)
    (case c8 => k_is)
    (case k8 => k_is)
    (case a9 => k_is)
    (case l9 => k_is)
    (case c9 => k_is)
    (case k9 => k_is)
    (case a10 => k_is)
    (case l10 => k_is)
    (case c10 => k_is)
    (case k10 => k_is)
    (case a11 => k_is)
    (case l11 => k_is)
    (case c11 => k_is)
    (case k11 => k_is)
    (case a12 => k_is)
    (case l12 => k_is)
    (case c12 => k_is)
    (case k12 => k_is)
    (case a13 => k_is)
    (case l13 => k_is)
    (case c13 => k_is)
    (case k13 => k_is)
    (case a14 => k_is)
    (case l14 => k_is)
    (case c14 => k_is)
    (case k14 => k_is)
    (case a15 => k_is)
    (case l15 => k_is)
    (case c15 => k_is)
    (case k15 => k_is)
    (case a16 => k_is)
    (case l16 => k_is)
    (case c16 => k_is)
    (case k16 => k_is)
    (case a17 => k_is)
    (case l17 => k_is)
    (case c17 => k_is)
    (case k17 => k_is)
    (case a18 => k_is)
    (case l18 => k_is)
    (case c18 => k_is)
    (case k18 => k_is)
    (case a19 => k_is)
    (case l19 => k_is)
    (case c19 => k_is)
    (case k19 => k_is)
    (case a20 => k_is)
    (case l20 => k_is)
    (case c20 => k_is)
    (case k20 => k_is)
    (case a21 => k_is)
    (case l21 => k_is)
    (case c21 => k_is)
    (case k21 => k_is)
    (case a22 => k_is)
    (case l22 => k_is)
    (case c22 => k_is)
    (case k22 => k_is)
    (case a23 => k_is)
    (case l23 => k_is)
    (case c23 => k_is)
    (case k23 => k_is)
    (case a24 => k_is)
    (case l24 => k_is)
    (case c24 => k_is)
    (case k24 => k_is)
    (case a25 => k_is)
    (case l25 => k_is)
    (case c25 => k_is)
    (case k25 => k_is)
    (case a26 => k_is)
    (case l26 => k_is)
    (case c26 => k_is)
    (case k26 => k_is)
    (case m0 => k_is)
    (case m1 => k_is)
    (case m2 => k_is)
    (case m3 => k_is)
    (case z0 => k_is)
    (case z1 => k_is)
    (case z2 => k_is)
    (case z3 => k_is)
    (case z4 => k_is)
    (case z5 => k_is)
    (case z6 => k_is)
    (case tb => kernel_rfl)
    (case nt => kernel_rfl)
  case S =>
    intro Pt K H xs a hT hwi hask hx
    obtain ⟨n, l, u⟩ := a
    cases hx with
    | cons h1 h2 =>
      cases h2 with
      | cons h2 h3 =>
        cases h3
        cases h1
        cases h2 with
        | lst hs ha =>
          have e := L2.ints_dw l _ ha
          subst e
          exact ⟨_, n, l, rfl, hs, hT, hask, fun H' p hp => .lst (L2.SqL.of hp) (L2.dw_ints _)⟩
#print axioms PySem.Challenge.cw_gridsteps_s04_minima_holds
