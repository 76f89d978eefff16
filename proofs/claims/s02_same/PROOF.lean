import PyProof.Rows.All
import Wide.All
import OpenK.AllK
import Wide.FinOn
import Open.SpecLaws
import KE.OsGo
import HandS.ForSpec
import HandS.Comp
import HandS.Iter
import HandS.Zip
import HandS.RevRange
import HandS.Wide
import PySem.Challenge.RW_gridsteps_s02_same
set_option Elab.async false
set_option linter.all false
set_option maxRecDepth 100000
set_option maxHeartbeats 4000000
namespace Gw
open PySem PySem.Spec PyProof.Rows L2
/-! ### heaps -/
theorem same_upd {H : Hp} {p : Addr} {o : HO} (h : H p = none) : Same H (upd H p o) := fun b x e => by
  rw [upd_ne (ne_of_none e h)]
  exact e
abbrev iv (x : List Int) : List V := x.map V.int
/-- a list of rows: each a list of its own -/
def RowsV (H : Hp) (vs : List V) (m : List (List Int)) : Prop := vs.length = m.length ∧ ∀ (i : Nat) (x : List Int), m[i]? = some x → ∃ p : Addr, vs[i]? = some (.ref p) ∧ H p = some (.lst (iv x))
def RowsAt (H : Hp) (a : Addr) (m : List (List Int)) : Prop := ∃ vs, H a = some (.lst vs) ∧ RowsV H vs m
theorem RowsV.same {H H' : Hp} {vs : List V} {m : List (List Int)} (s : Same H H') (h : RowsV H vs m) : RowsV H' vs m := ⟨h.1, fun i x e => by
  obtain ⟨p, e1, e2⟩ := h.2 i x e
  exact ⟨p, e1, s _ _ e2⟩⟩
theorem RowsAt.same {H H' : Hp} {a : Addr} {m : List (List Int)} (s : Same H H') (h : RowsAt H a m) : RowsAt H' a m := by
  obtain ⟨vs, e, r⟩ := h
  exact ⟨vs, s _ _ e, r.same s⟩
theorem RowsV.nil {H : Hp} : RowsV H [] [] := ⟨rfl, fun i x e => by simp at e⟩
theorem RowsV.at {H : Hp} {vs : List V} {m : List (List Int)} (h : RowsV H vs m) {i : Nat} {v : V} (e : vs[i]? = some v) : ∃ p x, v = .ref p ∧ m[i]? = some x ∧ H p = some (.lst (iv x)) := by
  have hi : i < m.length := by rw [← h.1]; exact (List.getElem?_eq_some_iff.mp e).1
  obtain ⟨p, e1, e2⟩ := h.2 i _ (List.getElem?_eq_getElem hi)
  rw [e] at e1
  exact ⟨p, _, Option.some.inj e1, List.getElem?_eq_getElem hi, e2⟩
theorem RowsV.concat {H : Hp} {vs : List V} {m : List (List Int)} {p : Addr} {x : List Int} (h : RowsV H vs m) (e : H p = some (.lst (iv x))) : RowsV H (vs ++ [.ref p]) (m ++ [x]) := by
  refine ⟨by rw [List.length_append, List.length_append, h.1]; rfl, fun i y hy => ?_⟩
  by_cases hi : i < m.length
  · rw [List.getElem?_append_left hi] at hy
    rw [List.getElem?_append_left (by rw [h.1]; exact hi)]
    exact h.2 i y hy
  · rw [List.getElem?_append_right (by omega)] at hy
    rw [List.getElem?_append_right (by rw [h.1]; omega), h.1]
    have z : i - m.length = 0 := by
      have := (List.getElem?_eq_some_iff.mp hy).1
      simp at this
      omega
    rw [z] at hy ⊢
    have ey : x = y := Option.some.inj hy
    subst ey
    exact ⟨p, rfl, e⟩
theorem RowsV.append {H : Hp} {vs ws : List V} {m l : List (List Int)} (h : RowsV H vs m) (k : RowsV H ws l) : RowsV H (vs ++ ws) (m ++ l) := by
  refine ⟨by rw [List.length_append, List.length_append, h.1, k.1], fun i y hy => ?_⟩
  by_cases hi : i < m.length
  · rw [List.getElem?_append_left hi] at hy
    rw [List.getElem?_append_left (by rw [h.1]; exact hi)]
    exact h.2 i y hy
  · rw [List.getElem?_append_right (by omega)] at hy
    rw [List.getElem?_append_right (by rw [h.1]; omega), h.1]
    exact k.2 _ y hy
theorem RowsV.take {H : Hp} {vs : List V} {m : List (List Int)} (h : RowsV H vs m) (n : Nat) : RowsV H (vs.take n) (m.take n) := by
  refine ⟨by rw [List.length_take, List.length_take, h.1], fun i y hy => ?_⟩
  have hi : i < n := by
    have := (List.getElem?_eq_some_iff.mp hy).1
    rw [List.length_take] at this
    omega
  rw [List.getElem?_take_of_lt hi] at hy ⊢
  exact h.2 i y hy
theorem RowsV.drop {H : Hp} {vs : List V} {m : List (List Int)} (h : RowsV H vs m) (n : Nat) : RowsV H (vs.drop n) (m.drop n) := by
  refine ⟨by rw [List.length_drop, List.length_drop, h.1], fun i y hy => ?_⟩
  rw [List.getElem?_drop] at hy ⊢
  exact h.2 _ y hy
theorem RowsV.set {H : Hp} {vs : List V} {m : List (List Int)} (h : RowsV H vs m) {k : Nat} {p : Addr} {x : List Int} (e : H p = some (.lst (iv x))) : RowsV H (vs.set k (.ref p)) (m.set k x) := by
  refine ⟨by rw [List.length_set, List.length_set, h.1], fun i y hy => ?_⟩
  rw [List.getElem?_set] at hy ⊢
  rw [h.1]
  by_cases hk : k = i
  · rw [if_pos hk] at hy ⊢
    by_cases hl : k < m.length
    · rw [if_pos hl] at hy ⊢
      have ey := Option.some.inj hy
      subst ey
      exact ⟨p, rfl, e⟩
    · rw [if_neg hl] at hy
      cases hy
  · rw [if_neg hk] at hy ⊢
    exact h.2 i y hy
theorem iv_at {x : List Int} {i : Nat} (h : i < x.length) : (iv x)[i]? = some (.int (x.getD i 0)) := by
  unfold iv
  rw [List.getElem?_map, List.getD_eq_getElem?_getD, List.getElem?_eq_getElem h]
  rfl
theorem iv_get {x : List Int} {i : Nat} {v : V} (h : (iv x)[i]? = some v) : i < x.length ∧ v = .int (x.getD i 0) := by
  have hi : i < x.length := by
    have := (List.getElem?_eq_some_iff.mp h).1
    unfold iv at this
    rw [List.length_map] at this
    exact this
  rw [iv_at hi] at h
  exact ⟨hi, (Option.some.inj h).symm⟩
theorem iv_len {x : List Int} : (iv x).length = x.length := List.length_map _
/-! ### slices -/
theorem cut_to (xs : List V) (j : Nat) : cutV xs none (some (j : Int)) = xs.take j := by
  unfold cutV
  rw [HT.sIx_none, HT.sIx_nat]
  show (xs.drop 0).take (min j xs.length - 0) = xs.take j
  rw [List.drop_zero, Nat.sub_zero, List.take_eq_take_iff]
  omega
theorem cut_from (xs : List V) (i : Nat) : cutV xs (some (i : Int)) none = xs.drop i := by
  unfold cutV
  rw [HT.sIx_none, HT.sIx_nat]
  by_cases h : i ≤ xs.length
  · rw [Nat.min_eq_left h, List.take_of_length_le (by rw [List.length_drop]; omega)]
  · rw [Nat.min_eq_right (by omega), List.drop_of_length_le (Nat.le_refl _), List.drop_of_length_le (by omega)]
    simp
theorem cut_mid (xs : List V) (i j : Nat) (h : i ≤ j) : cutV xs (some (i : Int)) (some (j : Int)) = (xs.drop i).take (j - i) := by
  unfold cutV
  rw [HT.sIx_nat, HT.sIx_nat]
  by_cases hi : i ≤ xs.length
  · rw [Nat.min_eq_left hi, List.take_eq_take_iff, List.length_drop]
    omega
  · rw [Nat.min_eq_right (show xs.length ≤ i by omega), List.drop_of_length_le (Nat.le_refl _), List.drop_of_length_le (show xs.length ≤ i by omega)]
    simp
theorem small_line {n : Nat} (h : n ≤ 2000) : n < sizeLine := Nat.lt_of_le_of_lt h (by decide)
theorem line_lt {n : Nat} (h : n ≤ 1000) : n < sizeLine := small1000 h
/-! ### how great -/
def Small (e : Nat) (x : List Int) : Prop := ∀ z, z ∈ x → z.natAbs ≤ 2 ^ e
def Smalls (e : Nat) (m : List (List Int)) : Prop := ∀ x, x ∈ m → Small e x
theorem Small.getD {e : Nat} {x : List Int} (h : Small e x) (i : Nat) : (x.getD i 0).natAbs ≤ 2 ^ e := by
  rw [List.getD_eq_getElem?_getD]
  cases q : x[i]? with
  | none =>
    show (0 : Int).natAbs ≤ _
    exact Nat.zero_le _
  | some z => exact h z (List.mem_of_getElem? q)
theorem Small.erase {e : Nat} {x : List Int} (h : Small e x) (i : Nat) : Small e (x.eraseIdx i) := fun z hz => h z (List.mem_of_mem_eraseIdx hz)
theorem Smalls.erase {e : Nat} {m : List (List Int)} (h : Smalls e m) (i : Nat) : Smalls e (m.map fun (x : List Int) => x.eraseIdx i) := fun x hx => by
  obtain ⟨y, hy, rfl⟩ := List.mem_map.mp hx
  exact (h y hy).erase i
theorem abs_add_le (a b : Int) : (a + b).natAbs ≤ a.natAbs + b.natAbs := Int.natAbs_add_le a b
theorem sum_abs {f : Nat → Int} {B : Nat} : ∀ {n : Nat}, (∀ j, j < n → (f j).natAbs ≤ B) → (((List.range n).map f).sum).natAbs ≤ n * B
  | 0, _ => by simp
  | n + 1, h => by
    rw [List.range_succ, List.map_append, List.sum_append]
    have a := sum_abs (f := f) (n := n) fun j hj => h j (by omega)
    have b := h n (by omega)
    simp only [List.map_cons, List.map_nil, List.sum_cons, List.sum_nil, Int.add_zero]
    have c := abs_add_le ((List.map f (List.range n)).sum) (f n)
    rw [Nat.add_mul, Nat.one_mul]
    omega
theorem det_small {e : Nat} : ∀ {n : Nat} {m : List (List Int)}, n ≤ 8 → Smalls e m → (Si18.det n m).natAbs ≤ 2 ^ ((e + 3) * n)
  | 0, m, _, _ => by
    show (1 : Int).natAbs ≤ 2 ^ ((e + 3) * 0)
    simp
  | n + 1, [], _, _ => by
    show (0 : Int).natAbs ≤ _
    exact Nat.zero_le _
  | n + 1, r :: l, hn, h => by
    show ((((List.range (n + 1)).map fun j => (if j % 2 = 0 then (1 : Int) else -1) * r.getD j 0 * Si18.det n (l.map fun (x : Si18.Row) => x.eraseIdx j)).sum : Int)).natAbs ≤ _
    have b := sum_abs (n := n + 1) (f := fun j => (if j % 2 = 0 then (1 : Int) else -1) * r.getD j 0 * Si18.det n (l.map fun (x : Si18.Row) => x.eraseIdx j)) (B := 2 ^ e * 2 ^ ((e + 3) * n)) fun j _ => by
      rw [Int.natAbs_mul, Int.natAbs_mul]
      have h1 := (h r List.mem_cons_self).getD j
      have h2 := det_small (e := e) (n := n) (m := l.map fun (x : Si18.Row) => x.eraseIdx j) (by omega) (Smalls.erase (fun x hx => h x (List.mem_cons_of_mem _ hx)) j)
      have s : (if j % 2 = 0 then (1 : Int) else -1).natAbs = 1 := by split <;> rfl
      rw [s, Nat.one_mul]
      exact Nat.mul_le_mul h1 h2
    refine Nat.le_trans b ?_
    have e1 : (e + 3) * (n + 1) = 3 + (e + (e + 3) * n) := by
      rw [Nat.mul_add, Nat.mul_one]
      omega
    rw [e1, Nat.pow_add, Nat.pow_add]
    exact Nat.mul_le_mul_right _ (by omega)
theorem lt_pow {a e : Nat} (h : a ≤ 2 ^ e) : a < 2 ^ (e + 1) := Nat.lt_of_le_of_lt h (Nat.pow_lt_pow_right (by decide) (by omega))
theorem mul_ok {i j : Int} {a b : Nat} (ha : i.natAbs ≤ 2 ^ a) (hb : j.natAbs ≤ 2 ^ b) (h : a + b + 2 ≤ 1000000) : CMulW i j := wide_mul (lt_pow ha) (lt_pow hb) (by omega) (by omega) (by omega)
/-! ### comprehensions -/
section
variable {K : PySem.W.Frag} {te : TE} {σ : L2.St} {H1 : Hp} {D : Addr} {Qd : Hp → Prop} {s : Nat} {vs : List Nat}
/-- what the new list at D and the rows made so far are -/
def Lcd (H1 : Hp) (D : Addr) (m : List (List Int)) (H : Hp) : Prop := Same H1 H ∧ ∃ ws, H D = some (.lst ws) ∧ RowsV (fun b => if b = D then none else H b) ws m
theorem Lcd.zero (hD : H1 D = none) : Lcd H1 D [] (upd H1 D (.lst [])) := ⟨same_upd hD, [], upd_same, RowsV.nil⟩
theorem Lcd.step {m : List (List Int)} {H H4 : Hp} {p : Addr} {x : List Int} (hD : H1 D = none) (L : Lcd H1 D m H) (s : Same H H4) (np : H p = none) (e : H4 p = some (.lst (iv x))) :
    ∃ acc, H4 D = some (.lst acc) ∧ acc.length = m.length ∧ Lcd H1 D (m ++ [x]) (upd H4 D (.lst (acc ++ [.ref p]))) := by
  obtain ⟨s1, ws, e1, r⟩ := L
  have hp : p ≠ D := fun z => by
    rw [z, e1] at np
    cases np
  refine ⟨ws, s _ _ e1, r.1, fun b o q => ?_, _, upd_same, ?_⟩
  · rw [upd_ne (ne_of_none q hD)]
    exact s _ _ (s1 _ _ q)
  · refine RowsV.concat (RowsV.same (fun b o q => ?_) r) ?_
    · by_cases hb : b = D
      · rw [if_pos hb] at q
        cases q
      · rw [if_neg hb] at q ⊢
        rw [upd_ne hb]
        exact s _ _ q
    · rw [if_neg hp, upd_ne hp]
      exact e
theorem Lcd.at {m : List (List Int)} {H : Hp} (L : Lcd H1 D m H) : Same H1 H ∧ RowsAt H D m := by
  obtain ⟨s1, ws, e1, r⟩ := L
  refine ⟨s1, ws, e1, r.same fun b o q => ?_⟩
  have q : (if b = D then none else H b) = some o := q
  by_cases hb : b = D
  · rw [if_pos hb] at q
    cases q
  · rw [if_neg hb] at q
    exact q
/-- [a row for each item of a list] -/
theorem lc_rows {a : Addr} {xs : List V} (F : Nat → List Int) (hD : H1 D = none) (hxs : SqL K H1 a xs) (hlen : xs.length ≤ 1000) (hw : ∀ x, wipe ((wipe σ vs).set s (some x)) vs = wipe σ vs)
    (step : ∀ i x H Q, xs[i]? = some x → Same H1 H → (∀ H' p, Same H H' → H p = none → H' p = some (.lst (iv (F i))) → Q (.ref p) H') → te ((wipe σ vs).set s (some x)) H Q)
    (hd : ∀ H, Same H1 H → RowsAt H D ((List.range xs.length).map F) → Qd H) :
    ∃ W : Nat → Nat → Hp → Prop, (∃ m, W 0 m (upd H1 D (.lst []))) ∧ ∀ i m H, W i m H →
      ((Itl K a).stop i H ∧ Qd H) ∨ ((Itl K a).go i H ∧ ∃ Nx : Hp → Prop, (∀ H', Nx H' → ∃ m', m' < m ∧ W (i + 1) m' H') ∧ ∀ x H', (Itl K a).yld i H x H' → gName s x (wipe σ vs) H' fun σ2 H2 => wipe σ2 vs = wipe σ vs ∧ tYes σ2 H2 fun b H3 =>
        if b = true then te σ2 H3 fun y H4 => ∃ acc, H4 D = some (.lst acc) ∧ acc.length < sizeLine ∧ Nx (upd H4 D (.lst (acc ++ [y]))) else Nx H3) := by
  refine lc_list (K := K) (a := a) (xs := xs) (g := gName s) (tt := tYes) (te := te) (vs := vs) (σ := σ) (Qd := Qd) (fun i H => Lcd H1 D ((List.range i).map F) H) (Lcd.zero hD) (fun i H _ L => L.1.seq hxs) (fun i x H hx L => ?_) (fun H L => hd H L.at.1 L.at.2)
  refine ⟨hw x, ?_⟩
  show te ((wipe σ vs).set s (some x)) H _
  refine step i x H _ hx L.1 fun H' p s' np e => ?_
  obtain ⟨acc, e1, e2, e3⟩ := L.step hD s' np e
  refine ⟨acc, e1, ?_, ?_⟩
  · have hi := (List.getElem?_eq_some_iff.mp hx).1
    rw [e2, List.length_map, List.length_range]
    exact line_lt (by omega)
  · rw [List.range_succ, List.map_append]
    exact e3
/-- [a row for each number of a range] -/
theorem lc_rowsR {n : Nat} (F : Nat → List Int) (hD : H1 D = none) (hlen : n ≤ 1000) (hw : ∀ x, wipe ((wipe σ vs).set s (some x)) vs = wipe σ vs)
    (step : ∀ i H Q, i < n → Same H1 H → (∀ H' p, Same H H' → H p = none → H' p = some (.lst (iv (F i))) → Q (.ref p) H') → te ((wipe σ vs).set s (some (.int (i : Int)))) H Q)
    (hd : ∀ H, Same H1 H → RowsAt H D ((List.range n).map F) → Qd H) :
    ∃ W : Nat → Nat → Hp → Prop, (∃ m, W 0 m (upd H1 D (.lst []))) ∧ ∀ i m H, W i m H →
      ((Itr 0 n).stop i H ∧ Qd H) ∨ ((Itr 0 n).go i H ∧ ∃ Nx : Hp → Prop, (∀ H', Nx H' → ∃ m', m' < m ∧ W (i + 1) m' H') ∧ ∀ x H', (Itr 0 n).yld i H x H' → gName s x (wipe σ vs) H' fun σ2 H2 => wipe σ2 vs = wipe σ vs ∧ tYes σ2 H2 fun b H3 =>
        if b = true then te σ2 H3 fun y H4 => ∃ acc, H4 D = some (.lst acc) ∧ acc.length < sizeLine ∧ Nx (upd H4 D (.lst (acc ++ [y]))) else Nx H3) := by
  refine lc_range (lo := 0) (n := n) (g := gName s) (tt := tYes) (te := te) (vs := vs) (σ := σ) (Qd := Qd) (fun i H => Lcd H1 D ((List.range i).map F) H) (Lcd.zero hD) (fun i H hi L => ?_) (fun H L => hd H L.at.1 L.at.2)
  have z : (0 : Int) + (i : Int) = (i : Int) := Int.zero_add _
  rw [z]
  refine ⟨hw _, ?_⟩
  show te ((wipe σ vs).set s (some (.int (i : Int)))) H _
  refine step i H _ hi L.1 fun H' p s' np e => ?_
  obtain ⟨acc, e1, e2, e3⟩ := L.step hD s' np e
  refine ⟨acc, e1, ?_, ?_⟩
  · rw [e2, List.length_map, List.length_range]
    exact line_lt (by omega)
  · rw [List.range_succ, List.map_append]
    exact e3
end
section
variable {K : PySem.W.Frag} {te : TE} {σ : L2.St} {H1 : Hp} {D : Addr} {Qd : Hp → Prop} {s : Nat} {vs : List Nat}
/-- [a whole number for each number of a range] -/
theorem lc_intsR {n : Nat} (F : Nat → Int) (hD : H1 D = none) (hlen : n ≤ 1000) (hw : ∀ x, wipe ((wipe σ vs).set s (some x)) vs = wipe σ vs)
    (step : ∀ i H Q, i < n → Same H1 H → (∀ H', Same H H' → Q (.int (F i)) H') → te ((wipe σ vs).set s (some (.int (i : Int)))) H Q)
    (hd : ∀ H, Same H1 H → H D = some (.lst (iv ((List.range n).map F))) → Qd H) :
    ∃ W : Nat → Nat → Hp → Prop, (∃ m, W 0 m (upd H1 D (.lst []))) ∧ ∀ i m H, W i m H →
      ((Itr 0 n).stop i H ∧ Qd H) ∨ ((Itr 0 n).go i H ∧ ∃ Nx : Hp → Prop, (∀ H', Nx H' → ∃ m', m' < m ∧ W (i + 1) m' H') ∧ ∀ x H', (Itr 0 n).yld i H x H' → gName s x (wipe σ vs) H' fun σ2 H2 => wipe σ2 vs = wipe σ vs ∧ tYes σ2 H2 fun b H3 =>
        if b = true then te σ2 H3 fun y H4 => ∃ acc, H4 D = some (.lst acc) ∧ acc.length < sizeLine ∧ Nx (upd H4 D (.lst (acc ++ [y]))) else Nx H3) := by
  refine lc_range (lo := 0) (n := n) (g := gName s) (tt := tYes) (te := te) (vs := vs) (σ := σ) (Qd := Qd) (fun i H => Same H1 H ∧ H D = some (.lst (iv ((List.range i).map F)))) ⟨same_upd hD, upd_same⟩ (fun i H hi L => ?_) (fun H L => hd H L.1 L.2)
  have z : (0 : Int) + (i : Int) = (i : Int) := Int.zero_add _
  rw [z]
  refine ⟨hw _, ?_⟩
  show te ((wipe σ vs).set s (some (.int (i : Int)))) H _
  refine step i H _ hi L.1 fun H' s' => ⟨_, s' _ _ L.2, ?_, fun b o q => ?_, ?_⟩
  · rw [iv_len, List.length_map, List.length_range]
    exact line_lt (by omega)
  · rw [upd_ne (ne_of_none q hD)]
    exact s' _ _ (L.1 _ _ q)
  · rw [upd_same, List.range_succ, List.map_append]
    unfold iv
    rw [List.map_append]
    rfl
/-- [a whole number for each item of a list] -/
theorem lc_intsL {a : Addr} {xs : List V} (F : Nat → Int) (hD : H1 D = none) (hxs : SqL K H1 a xs) (hlen : xs.length ≤ 1000) (hw : ∀ x, wipe ((wipe σ vs).set s (some x)) vs = wipe σ vs)
    (step : ∀ i x H Q, xs[i]? = some x → Same H1 H → (∀ H', Same H H' → Q (.int (F i)) H') → te ((wipe σ vs).set s (some x)) H Q)
    (hd : ∀ H, Same H1 H → H D = some (.lst (iv ((List.range xs.length).map F))) → Qd H) :
    ∃ W : Nat → Nat → Hp → Prop, (∃ m, W 0 m (upd H1 D (.lst []))) ∧ ∀ i m H, W i m H →
      ((Itl K a).stop i H ∧ Qd H) ∨ ((Itl K a).go i H ∧ ∃ Nx : Hp → Prop, (∀ H', Nx H' → ∃ m', m' < m ∧ W (i + 1) m' H') ∧ ∀ x H', (Itl K a).yld i H x H' → gName s x (wipe σ vs) H' fun σ2 H2 => wipe σ2 vs = wipe σ vs ∧ tYes σ2 H2 fun b H3 =>
        if b = true then te σ2 H3 fun y H4 => ∃ acc, H4 D = some (.lst acc) ∧ acc.length < sizeLine ∧ Nx (upd H4 D (.lst (acc ++ [y]))) else Nx H3) := by
  refine lc_list (K := K) (a := a) (xs := xs) (g := gName s) (tt := tYes) (te := te) (vs := vs) (σ := σ) (Qd := Qd) (fun i H => Same H1 H ∧ H D = some (.lst (iv ((List.range i).map F)))) ⟨same_upd hD, upd_same⟩ (fun i H _ L => L.1.seq hxs) (fun i x H hx L => ?_) (fun H L => hd H L.1 L.2)
  refine ⟨hw x, ?_⟩
  show te ((wipe σ vs).set s (some x)) H _
  refine step i x H _ hx L.1 fun H' s' => ⟨_, s' _ _ L.2, ?_, fun b o q => ?_, ?_⟩
  · have hi := (List.getElem?_eq_some_iff.mp hx).1
    rw [iv_len, List.length_map, List.length_range]
    exact line_lt (by omega)
  · rw [upd_ne (ne_of_none q hD)]
    exact s' _ _ (L.1 _ _ q)
  · rw [upd_same, List.range_succ, List.map_append]
    unfold iv
    rw [List.map_append]
    rfl
end
theorem sum_range_succ {f : Nat → Int} {n : Nat} : ((List.range (n + 1)).map f).sum = ((List.range n).map f).sum + f n := by
  rw [List.range_succ, List.map_append, List.sum_append]
  simp
theorem map_range_getD {f : List Int → List Int} (l : List (List Int)) : (List.range l.length).map (fun i => f (l.getD i [])) = l.map f := by
  apply List.ext_getElem
  · simp
  · intro i h1 h2
    simp at h1 h2
    simp [h1]
/-- at most five rows of as many numbers, none too great -/
structure Rw (H : Hp) (a : Addr) (n e : Nat) (m : List (List Int)) : Prop where
  rat : RowsAt H a m
  len : m.length = n
  wide : ∀ x, x ∈ m → x.length = n
  n5 : n ≤ 5
  sm : Smalls e m
  he : e ≤ 40000
theorem Rw.same {H H' : Hp} {a : Addr} {n e : Nat} {m : List (List Int)} (s : Same H H') (h : Rw H a n e m) : Rw H' a n e m := ⟨h.rat.same s, h.len, h.wide, h.n5, h.sm, h.he⟩
/-- the k-th row: where it stands -/
theorem Rw.row {H : Hp} {a : Addr} {n e : Nat} {m : List (List Int)} (h : Rw H a n e m) {k : Nat} (hk : k < n) : ∃ ws p, H a = some (.lst ws) ∧ ws[k]? = some (.ref p) ∧ H p = some (.lst (iv (Si18.row m k))) ∧ (Si18.row m k).length = n ∧ Small e (Si18.row m k) := by
  obtain ⟨ws, e1, r⟩ := h.rat
  have hl := h.len
  have hk' : k < m.length := by omega
  obtain ⟨p, e2, e3⟩ := r.2 k _ (List.getElem?_eq_getElem hk')
  have g : Si18.row m k = m[k] := by
    unfold Si18.row
    rw [List.getD_eq_getElem?_getD, List.getElem?_eq_getElem hk']
    rfl
  rw [g]
  exact ⟨ws, p, e1, e2, e3, h.wide _ (List.getElem_mem hk'), h.sm _ (List.getElem_mem hk')⟩
theorem sum_small {B : Nat} : ∀ {l : List Int}, (∀ z, z ∈ l → z.natAbs ≤ B) → l.sum.natAbs ≤ l.length * B
  | [], _ => by simp
  | a :: l, h => by
    have ih := sum_small (l := l) fun z hz => h z (List.mem_cons_of_mem _ hz)
    have ha := h a List.mem_cons_self
    have c := abs_add_le a l.sum
    rw [List.sum_cons, List.length_cons, Nat.add_mul, Nat.one_mul]
    omega
theorem zipWith_mem {f : Int → Int → Int} : ∀ {x y : List Int} {z : Int}, z ∈ List.zipWith f x y → ∃ a b, a ∈ x ∧ b ∈ y ∧ z = f a b
  | [], _, z, h => by simp at h
  | _ :: _, [], z, h => by simp at h
  | a :: x, b :: y, z, h => by
    rw [List.zipWith_cons_cons] at h
    rcases List.mem_cons.mp h with e | h
    · exact ⟨a, b, List.mem_cons_self, List.mem_cons_self, e⟩
    · obtain ⟨a', b', h1, h2, h3⟩ := zipWith_mem h
      exact ⟨a', b', List.mem_cons_of_mem _ h1, List.mem_cons_of_mem _ h2, h3⟩
theorem dot_small {e f : Nat} {x y : List Int} (hx : Small e x) (hy : Small f y) (hl : x.length ≤ 8) : (Si18.dot x y).natAbs ≤ 2 ^ (e + f + 3) := by
  unfold Si18.dot
  have b := sum_small (B := 2 ^ e * 2 ^ f) (l := List.zipWith (fun (a b : Int) => a * b) x y) fun z hz => by
    obtain ⟨a, c, h1, h2, rfl⟩ := zipWith_mem hz
    rw [Int.natAbs_mul]
    exact Nat.mul_le_mul (hx a h1) (hy c h2)
  refine Nat.le_trans b ?_
  rw [Nat.pow_add, Nat.pow_add, Nat.mul_comm (2 ^ e * 2 ^ f)]
  refine Nat.mul_le_mul_right _ ?_
  rw [List.length_zipWith]
  omega
theorem range_map_mem {f : Nat → List Int} {n : Nat} {x : List Int} (h : x ∈ (List.range n).map f) : ∃ i, i < n ∧ x = f i := by
  obtain ⟨i, hi, rfl⟩ := List.mem_map.mp h
  exact ⟨i, List.mem_range.mp hi, rfl⟩
theorem range_map_memZ {f : Nat → Int} {n : Nat} {x : Int} (h : x ∈ (List.range n).map f) : ∃ i, i < n ∧ x = f i := by
  obtain ⟨i, hi, rfl⟩ := List.mem_map.mp h
  exact ⟨i, List.mem_range.mp hi, rfl⟩
/-- a def as it stands behind the top -/
structure Dn (K : PySem.W.Frag) (mg : Str → Option Value) (x : Str) (st : Stmt) (ps : List Str) (f : Addr) (fd : FuncData) : Prop where
  F : Fun K x x st f fd
  b : Binds K fd ps []
  g : mg x = some (.ref f)
def Dx (K : PySem.W.Frag) (mg : Str → Option Value) (x : Str) (st : Stmt) (ps : List Str) : Prop := ∃ (f : Addr) (fd : FuncData), Dn K mg x st ps f fd
/-- a number of the module's own -/
def Cn (mg : Str → Option Value) (x : Str) (i : Int) : Prop := ∃ t : Tok, mg x = some (.int i t)
def topS (i : Nat) : Stmt := PySem.Challenge.pw_gridsteps_s02_same.main.body.getD i (.Pass ⟨0, 0, 0, 0⟩)
abbrev s_product : Stmt := topS 1
abbrev s_without : Stmt := topS 2
abbrev s_determinant : Stmt := topS 3
abbrev s_cofactors : Stmt := topS 4
abbrev s_upright : Stmt := topS 6
abbrev s_lies_in : Stmt := topS 7
abbrev s_are_same : Stmt := topS 9
abbrev s_rows_of : Stmt := topS 15
abbrev s_are_small : Stmt := topS 16
abbrev s_refusal : Stmt := topS 17
abbrev s_same : Stmt := topS 18
/-- what the top has written -/
structure Txt (K : PySem.W.Frag) (mg : Str → Option Value) : Prop where
  d_product : Dx K mg "product" s_product ["one", "other"]
  d_without : Dx K mg "without" s_without ["row", "column"]
  d_determinant : Dx K mg "determinant" s_determinant ["rows"]
  d_cofactors : Dx K mg "cofactors" s_cofactors ["rows", "k"]
  d_upright : Dx K mg "upright" s_upright ["rows"]
  d_lies_in : Dx K mg "lies_in" s_lies_in ["rows", "row"]
  d_are_same : Dx K mg "are_same" s_are_same ["rows", "others"]
  d_rows_of : Dx K mg "rows_of" s_rows_of ["n", "numbers"]
  d_are_small : Dx K mg "are_small" s_are_small ["numbers"]
  d_refusal : Dx K mg "refusal" s_refusal ["n", "numbers"]
  d_same : Dx K mg "same" s_same ["n", "a", "b"]
  c_BEYOND : Cn mg "BEYOND" (-2)
  c_WRONG : Cn mg "WRONG" (-3)
  c_MOST_ROWS : Cn mg "MOST_ROWS" (5)
  c_MOST : Cn mg "MOST" (1000)
  b_len : mg "len" = none
  b_range : mg "range" = none
  b_zip : mg "zip" = none
  b_int : mg "int" = none
section
variable {P : Program} {w : World} {K : PySem.W.Frag} {mg : Str → Option Value} {base : Heap}
/-! ### product -/
theorem sc_product : FnScope ["one", "other", "told", "a", "b"] ["one", "other"] (defScope s_product) := ⟨rfl, rfl, rfl, by decide +kernel, rfl, by decide +kernel, by decide +kernel⟩
def sp_product (K : PySem.W.Frag) : Sp := fun vs H Q _ => ∃ (a b : Addr) (x y : List Int) (e f : Nat), vs = [.ref a, .ref b] ∧ SqL K H a (iv x) ∧ SqL K H b (iv y) ∧ x.length = y.length ∧ Small e x ∧ Small f y ∧ e + f ≤ 900000 ∧ ∀ H', Same H H' → Q (.int (Si18.dot x y)) H'
theorem ok_product (T : Txt K mg) {f : Addr} {fd : FuncData} (F : Dn K mg "product" s_product ["one", "other"] f fd) : FnOk P w K mg base CX0 1 f fd ["one", "other"] (sp_product K) := by
  refine F.F.ok sc_product (fun vs H Q E h => ?_) (fun cdv A outer s H vs Q E hr h => ?_)
  · obtain ⟨a, b, x, y, e, f, rfl, _⟩ := h
    rfl
  · obtain ⟨a, b, x, y, e, f, rfl, ha, hb, hl, hx, hy, he, q⟩ := h
    refine ⟨_, pss_cons (ps_set (i := 2) sc_product.nd rfl (.inl rfl) pe_int)
      (pss_cons (ps_for PassesOwn.never rfl (pi_zip (by rfl) T.b_zip (pa_cons (pv 0) (pa_cons (pv 1) pa_nil)))
          (pg_tup rfl (pgs_cons (pg_name (i := 3) sc_product.nd rfl (.inl rfl)) (pgs_cons (pg_name (i := 4) sc_product.nd rfl (.inl rfl)) pgs_nil)))
        (pss_one (ps_aug (i := 2) sc_product.nd rfl (.inl rfl) (pe_op op_mulW (pv 3) (pv 4)) ip_add)))
      (pss_one (ps_ret (pv 2)))), ?_⟩
    refine ⟨_, rfl, _, rfl, a, b, iv x, iv y, rfl, ha, hb, ?_⟩
    have hz : ∀ i, i < x.length → (List.zipWith (fun (a b : Int) => a * b) x y)[i]? = some (x.getD i 0 * y.getD i 0) := fun i hi => by
      rw [List.getElem?_zipWith, List.getD_eq_getElem?_getD, List.getD_eq_getElem?_getD, List.getElem?_eq_getElem hi, List.getElem?_eq_getElem (by omega)]
      rfl
    refine RZ.for_zipL (xs := iv x) (ys := iv y) (by rw [iv_len, iv_len, hl]) (fun i σ H' => ∃ y3 y4, σ = [some (.ref a), some (.ref b), some (.int ((List.zipWith (fun (a b : Int) => a * b) x y).take i).sum), y3, y4] ∧ Same H H')
      ⟨none, none, rfl, Same.refl H⟩ ?_ ?_ ?_
    · rintro i σ H2 ⟨y3, y4, rfl, s2⟩
      exact ⟨s2.seq ha, s2.seq hb⟩
    · rintro i u v t σ H2 hu hv ⟨y3, y4, rfl, s2⟩ nt
      obtain ⟨hi, rfl⟩ := iv_get hu
      obtain ⟨hj, rfl⟩ := iv_get hv
      refine ⟨t, _, rfl, SqT.of upd_same, rfl, _, _, rfl, _, _, rfl, rfl, ?_⟩
      refine ⟨_, rfl, _, rfl, _, rfl, _, _, rfl, rfl, ?_, _, _, rfl, rfl, some (.int (x.getD i 0)), some (.int (y.getD i 0)), ?_, s2.trans (same_upd nt)⟩
      · exact mul_ok (hx.getD i) (hy.getD i) (by omega)
      · rw [L2.sum_take (hz i hi)]
        rfl
    · rintro σ H2 ⟨y3, y4, rfl, s2⟩
      refine ⟨_, rfl, ?_⟩
      have e1 : (List.zipWith (fun (a b : Int) => a * b) x y).take (iv x).length = List.zipWith (fun (a b : Int) => a * b) x y := List.take_of_length_le (by rw [List.length_zipWith, iv_len]; omega)
      rw [e1]
      exact q H2 s2
/-! ### without -/
theorem sc_without : FnScope ["row", "column"] ["row", "column"] (defScope s_without) := ⟨rfl, rfl, rfl, by decide +kernel, rfl, by decide +kernel, by decide +kernel⟩
def sp_without : Sp := fun vs H Q _ => ∃ (a : Addr) (x : List Int) (j : Nat), vs = [.ref a, .int j] ∧ H a = some (.lst (iv x)) ∧ x.length ≤ 1000 ∧ ∀ H' p, Same H H' → H p = none → H' p = some (.lst (iv (x.eraseIdx j))) → Q (.ref p) H'
theorem ok_without (T : Txt K mg) {f : Addr} {fd : FuncData} (F : Dn K mg "without" s_without ["row", "column"] f fd) : FnOk P w K mg base CX0 1 f fd ["row", "column"] sp_without := by
  refine F.F.ok sc_without (fun vs H Q E h => ?_) (fun cdv A outer s H vs Q E hr h => ?_)
  · obtain ⟨a, x, j, rfl, _⟩ := h
    rfl
  · obtain ⟨a, x, j, rfl, ha, hl, q⟩ := h
    refine ⟨_, pss_one (ps_ret (pe_op op_cat (pe_slice sl_list (pv 0) po_none (po_some (pv 1))) (pe_slice sl_list (pv 0) (po_some (pe_op op_add (pv 1) pe_int)) po_none))), ?_⟩
    refine ⟨.ref a, rfl, .int j, rfl, j, rfl, a, iv x, rfl, SqL.of ha, fun c nc => ?_⟩
    have s1 := same_upd (o := .lst (cutV (iv x) none (some (j : Int)))) nc
    refine ⟨.ref a, rfl, .int j, rfl, j, 1, rfl, rfl, _, rfl, a, iv x, rfl, s1.seq (SqL.of ha), fun d nd => ?_⟩
    have s2 := same_upd (o := .lst (cutV (iv x) (some ((j : Int) + 1)) none)) nd
    refine ⟨c, d, _, _, rfl, rfl, s2 _ _ upd_same, upd_same, ?_, fun p np => ?_⟩
    · refine Nat.le_trans (Nat.add_le_add (cutV_length _ _ _) (cutV_length _ _ _)) ?_
      rw [iv_len]
      exact Nat.le_of_lt (small_line (by omega))
    · refine q _ p (s1.trans (s2.trans (same_upd np))) (s1.free (s2.free np)) ?_
      rw [upd_same, show (j : Int) + 1 = ((j + 1 : Nat) : Int) from rfl, cut_to, cut_from, List.eraseIdx_eq_take_drop_succ]
      unfold iv
      rw [List.map_append, List.map_take, List.map_drop]
/-! ### determinant -/
theorem sc_determinant : FnScope ["rows", "told", "sign", "column", "below", "row"] ["rows"] (defScope s_determinant) := ⟨rfl, rfl, rfl, by decide +kernel, rfl, by decide +kernel, by decide +kernel⟩
def sp_det (d : Nat) : Sp := fun vs H Q _ => ∃ (a : Addr) (m : List (List Int)) (e : Nat), vs = [.ref a] ∧ RowsAt H a m ∧ m.length = d ∧ (∀ x, x ∈ m → x.length = d) ∧ e ≤ 100000 ∧ Smalls e m ∧ ∀ H', Same H H' → Q (.int (Si18.det d m)) H'
def spd : Nat → Sp
  | 0 => fun _ _ _ _ => False
  | d + 1 => sp_det d
def dterm (m : List (List Int)) (d j : Nat) : Int := (if j % 2 = 0 then (1 : Int) else -1) * (m.getD 0 []).getD j 0 * Si18.det d ((m.drop 1).map fun (x : List Int) => x.eraseIdx j)
theorem det_terms {m : List (List Int)} {d : Nat} (h : m.length = d + 1) : Si18.det (d + 1) m = ((List.range (d + 1)).map (dterm m d)).sum := by
  cases m with
  | nil => cases h
  | cons r l => rfl
theorem sgn_int (j : Nat) : (if (j + 1) % 2 = 0 then (1 : Int) else -1) = 0 - (if j % 2 = 0 then (1 : Int) else -1) := by
  by_cases h : j % 2 = 0
  · rw [if_pos h, if_neg (by omega)]
    rfl
  · rw [if_neg h, if_pos (by omega)]
    rfl
theorem ok_determinant (T : Txt K mg) {f : Addr} {fd : FuncData} (F : Dn K mg "determinant" s_determinant ["rows"] f fd) :
    ∀ d : Nat, d ≤ 7 → FnOk P w K mg base CX0 (d + 1) f fd ["rows"] (spd d)
  | 0, _ => ⟨fun _ _ _ _ h => h.elim, fun _ _ _ _ _ _ _ _ _ _ _ _ _ h => h.elim⟩
  | d + 1, hd => by
    have IH := ok_determinant T F d (by omega)
    obtain ⟨f1, fd1, F1⟩ := T.d_without
    have G1 : FnOk P w K mg base CX0 1 f1 fd1 ["row", "column"] sp_without := ok_without T F1
    refine F.F.ok sc_determinant (fun vs H Q E h => ?_) (fun cdv A outer s H vs Q E hr h => ?_)
    · obtain ⟨a, m, e, rfl, _⟩ := h
      rfl
    · obtain ⟨a, m, e, rfl, ⟨ws, ha, hR⟩, hm, hx, he, hs, q⟩ := h
      have hr1 : Room 1 _ := hr.mono (by omega)
      refine ⟨_, pss_cons (ps_if (pt_cmpR op_eq (pe_callB call_len_seq (by rfl) T.b_len PySem.boot_len (pa_cons (pv 0) pa_nil)) pe_int (nomark _)) (pss_one (ps_ret pe_int)) pss_nil)
        (pss_cons (ps_set (i := 1) sc_determinant.nd rfl (.inl rfl) pe_int)
        (pss_cons (ps_set (i := 2) sc_determinant.nd rfl (.inl rfl) pe_int)
        (pss_cons (ps_for PassesOwn.never rfl (pi_range1 (by rfl) T.b_range (pa_cons (pe_callB call_len_seq (by rfl) T.b_len PySem.boot_len (pa_cons (pv 0) pa_nil)) pa_nil)) (pg_name (i := 3) sc_determinant.nd rfl (Or.inr rfl))
          (pss_cons (ps_setLc (i := 4) (own := [("row", 5)]) (g := gName 5) (tt := tYes) rfl sc_determinant.nd rfl rfl (sw_true rfl rfl rfl (by decide +kernel)) (pi_list (pe_slice sl_list (pv 0) (po_some pe_int) po_none))
              (blkOk_by (N := ["rows", "told", "sign", "column", "below", "row"]) (sc := defScope s_determinant) (by decide +kernel)) (fun _ _ _ _ _ => pg_name (i := 5) sc_determinant.nd rfl (Or.inl rfl)) (fun _ _ _ _ _ => pts_nil)
              (fun _ _ _ _ _ => pe_call G1 hr1 (by rfl) F1.g F1.F.kp F1.b .nil pass0 (pa_cons (pv 5) (pa_cons (pv 3) pa_nil))))
          (pss_cons (ps_aug (i := 1) sc_determinant.nd rfl (.inl rfl) (pe_op op_mulW (pe_op op_mul (pv 2) (pe_ix ix_list (pe_ix ix_list (pv 0) pe_int (fun _ _ => rfl)) (pv 3) (fun _ _ => rfl)))
              (pe_call IH hr (by rfl) F.g F.F.kp F.b .nil pass0 (pa_cons (pv 4) pa_nil))) ip_add)
          (pss_one (ps_set (i := 2) sc_determinant.nd rfl (.inl rfl) (pe_op op_sub pe_int (pv 2)))))))
        (pss_one (ps_ret (pv 1)))))), ?_⟩
      refine ⟨.ref a, rfl, a, ws, rfl, .inl (SqL.of ha), rfl, _, rfl, ite2 (fun h0 => ?_) (fun h0 => ?_)⟩
      · have e0 : (ws.length : Int) = 0 := V.int.inj (of_decide_eq_true h0)
        have e1 : d = 0 := by rw [← hm, ← hR.1]; omega
        subst e1
        exact q H (Same.refl H)
      · have e0 : ws.length ≠ 0 := fun z => h0 (decide_eq_true (by rw [z]; rfl))
        have el := hR.1
        obtain ⟨n, rfl⟩ : ∃ n, d = n + 1 := ⟨d - 1, by omega⟩
        refine ⟨.ref a, rfl, a, ws, rfl, .inl (SqL.of ha), (ws.length : Int), rfl, by omega, by omega, ?_⟩
        refine for_range (lo := 0) (n := ws.length) (fun i σ H' => ∃ y3 y4 y5, σ = [some (.ref a), some (.int ((List.range i).map (dterm m n)).sum), some (.int (if i % 2 = 0 then (1 : Int) else -1)), y3, y4, y5] ∧ Same H H')
          ⟨none, none, none, rfl, Same.refl H⟩ ?_ ?_
        · rintro i σ H2 hi ⟨y3, y4, y5, rfl, s2⟩
          have z : (0 : Int) + (i : Int) = (i : Int) := Int.zero_add _
          rw [z]
          refine ⟨.ref a, rfl, 1, rfl, a, ws, rfl, (s2.seq (SqL.of ha)), fun c nc => ?_⟩
          have e1 : cutV ws (some 1) none = ws.drop 1 := cut_from ws 1
          rw [e1]
          have s3 := same_upd (o := .lst (ws.drop 1)) nc
          refine ⟨c, rfl, ⟨_, SqL.of upd_same⟩, fun D nD => ?_⟩
          have hD1 := hR.drop 1
          refine lc_rows (s := 5) (vs := [5]) (xs := ws.drop 1) (fun j => ((m.drop 1).getD j []).eraseIdx i) nD (SqL.of upd_same) (by rw [List.length_drop]; omega) (fun _ => rfl) ?_ ?_
          · intro j x H4 Q4 hx4 s4 k4
            obtain ⟨p, y, rfl, ey, ep⟩ := hD1.at hx4
            refine ⟨_, rfl, _, rfl, p, y, i, rfl, s4 _ _ (s3 _ _ (s2 _ _ ep)), ?_, fun H5 p5 s5 np5 e5 => k4 H5 p5 s5 np5 ?_⟩
            · rw [hx y (List.mem_of_mem_drop (List.mem_of_getElem? ey))]
              omega
            · rw [e5, List.getD_eq_getElem?_getD, ey]
              rfl
          · intro H4 s4 r4
            have el1 : (ws.drop 1).length = (m.drop 1).length := hD1.1
            rw [el1, map_range_getD (f := fun x => x.eraseIdx i)] at r4
            have s24 : Same H H4 := s2.trans (s3.trans s4)
            -- told += sign * rows[0][column] * determinant(below)
            obtain ⟨p0, hp0, ep0⟩ := hR.2 0 _ (List.getElem?_eq_getElem (by omega))
            have hm0 : m[0]'(by omega) ∈ m := List.getElem_mem _
            have l0 := hx _ hm0
            have g0 : m.getD 0 [] = m[0]'(by omega) := by
              rw [List.getD_eq_getElem?_getD, List.getElem?_eq_getElem (by omega)]
              rfl
            have sg : (if i % 2 = 0 then (1 : Int) else -1) = 1 ∨ (if i % 2 = 0 then (1 : Int) else -1) = -1 := by split <;> simp
            refine ⟨_, rfl, _, rfl, .ref a, rfl, a, ws, 0, _, rfl, rfl, s24.seq (SqL.of ha), atI_nat (j := 0) hp0, _, rfl, p0, _, _, .int ((m.getD 0 []).getD i 0), rfl, rfl, s24.seq (SqL.of ep0), atI_nat ?_, ?_⟩
            · rw [iv_at (by rw [l0]; omega), g0]
            refine ⟨_, _, rfl, rfl, .inl ?_, ?_⟩
            · rcases sg with h | h <;> rw [h] <;> decide
            refine ⟨_, rfl, D, _, e, rfl, r4, ?_, ?_, he, Smalls.erase (fun x hx' => hs x (List.mem_of_mem_drop hx')) i, fun H5 s5 => ?_⟩
            · rw [List.length_map, List.length_drop]
              omega
            · intro x hx'
              obtain ⟨y, hy, rfl⟩ := List.mem_map.mp hx'
              have := hx y (List.mem_of_mem_drop hy)
              rw [List.length_eraseIdx, this]
              rw [if_pos (by omega)]
              omega
            refine ⟨_, _, rfl, rfl, ?_, _, _, rfl, rfl, ?_⟩
            · have b1 := (hs _ hm0).getD i
              rw [← g0] at b1
              have b2 := det_small (e := e) (n := n) (m := (m.drop 1).map fun (x : List Int) => x.eraseIdx i) (by omega) (Smalls.erase (fun x hx' => hs x (List.mem_of_mem_drop hx')) i)
              refine mul_ok (a := e) (b := (e + 3) * n) ?_ b2 ?_
              · rw [Int.natAbs_mul]
                rcases sg with h | h <;> rw [h]
                · simpa using b1
                · simpa using b1
              · have : (e + 3) * n ≤ (e + 3) * 6 := Nat.mul_le_mul_left _ (by omega)
                omega
            · refine ⟨_, rfl, _, _, rfl, rfl, some (.int i), some (.ref D), y5, ?_, s24.trans s5⟩
              rw [sum_range_succ, sgn_int]
              rfl
        · rintro σ H2 ⟨y3, y4, y5, rfl, s2⟩
          refine ⟨_, rfl, ?_⟩
          rw [show ws.length = n + 1 by omega, ← det_terms hm]
          exact q H2 s2
/-! ### cofactors -/
theorem sc_cofactors : FnScope ["rows", "k", "told", "sign", "others", "column", "row"] ["rows", "k"] (defScope s_cofactors) := ⟨rfl, rfl, rfl, by decide +kernel, rfl, by decide +kernel, by decide +kernel⟩
def cofT (n : Nat) (m : List (List Int)) (k j : Nat) : Int := (if (k + j) % 2 = 0 then (1 : Int) else -1) * Si18.det (n - 1) ((m.eraseIdx k).map fun (x : Si18.Row) => x.eraseIdx j)
def cofR (n : Nat) (m : List (List Int)) (k : Nat) : List Int := (List.range n).map (cofT n m k)
theorem other_cofR (n : Nat) (m : List (List Int)) : Si18.other n m = (List.range n).map (cofR n m) := rfl
theorem erase_cut (m : List (List Int)) (k : Nat) : m.eraseIdx k = m.take k ++ m.drop (k + 1) := List.eraseIdx_eq_take_drop_succ ..
theorem cofR_len {n : Nat} {m : List (List Int)} {k : Nat} : (cofR n m k).length = n := by
  unfold cofR
  rw [List.length_map, List.length_range]
theorem cofT_small {e n : Nat} {m : List (List Int)} (h : Smalls e m) (h5 : n ≤ 5) (k j : Nat) : (cofT n m k j).natAbs ≤ 2 ^ ((e + 3) * 4) := by
  unfold cofT
  rw [Int.natAbs_mul]
  have s : (if (k + j) % 2 = 0 then (1 : Int) else -1).natAbs = 1 := by split <;> rfl
  rw [s, Nat.one_mul]
  exact Nat.le_trans (det_small (e := e) (by omega) (Smalls.erase (fun x hx => h x (List.mem_of_mem_eraseIdx hx)) j)) (Nat.pow_le_pow_right (by decide) (Nat.mul_le_mul_left _ (by omega)))
theorem cofR_small {e n : Nat} {m : List (List Int)} (h : Smalls e m) (h5 : n ≤ 5) {k : Nat} : Small ((e + 3) * 4) (cofR n m k) := fun z hz => by
  obtain ⟨j, hj, rfl⟩ := range_map_memZ hz
  exact cofT_small h h5 k j
theorem sgn_first (k : Nat) : (1 : Int) - (k : Int) % 2 * 2 = if (k + 0) % 2 = 0 then (1 : Int) else -1 := by
  by_cases h : k % 2 = 0
  · rw [if_pos (by omega)]
    omega
  · rw [if_neg (by omega)]
    omega
def sp_cofactors : Sp := fun vs H Q _ => ∃ (a : Addr) (m : List (List Int)) (n e k : Nat), vs = [.ref a, .int k] ∧ Rw H a n e m ∧ k < n ∧ ∀ H' p, Same H H' → H p = none → H' p = some (.lst (iv (cofR n m k))) → Q (.ref p) H'
theorem ok_cofactors (T : Txt K mg) {f : Addr} {fd : FuncData} (F : Dn K mg "cofactors" s_cofactors ["rows", "k"] f fd) : FnOk P w K mg base CX0 8 f fd ["rows", "k"] sp_cofactors := by
  refine F.F.ok sc_cofactors (fun vs H Q E h => ?_) (fun cdv A outer s H vs Q E hr h => ?_)
  · obtain ⟨a, m, n, e, k, rfl, _⟩ := h
    rfl
  · obtain ⟨a, m, n, e, k, rfl, hm, hk, q⟩ := h
    obtain ⟨f1, fd1, F1⟩ := T.d_without
    obtain ⟨f2, fd2, F2⟩ := T.d_determinant
    have h5 := hm.n5
    have he := hm.he
    have hlen := hm.len
    have G1 : FnOk P w K mg base CX0 1 f1 fd1 ["row", "column"] sp_without := ok_without T F1
    have G2 : FnOk P w K mg base CX0 7 f2 fd2 ["rows"] (spd ((n - 1) + 1)) := (ok_determinant T F2 ((n - 1) + 1) (by omega)).mono (by omega)
    have hr1 : Room 1 _ := hr.mono (by omega)
    refine ⟨_, pss_cons (ps_set (i := 2) sc_cofactors.nd rfl (.inl rfl) (pe_lst pa_nil))
      (pss_cons (ps_set (i := 3) sc_cofactors.nd rfl (.inl rfl) (pe_op op_sub pe_int (pe_op op_mul (pe_op op_mod (pv 1) pe_int) pe_int)))
      (pss_cons (ps_set (i := 4) sc_cofactors.nd rfl (.inl rfl) (pe_op op_cat (pe_slice sl_list (pv 0) po_none (po_some (pv 1))) (pe_slice sl_list (pv 0) (po_some (pe_op op_add (pv 1) pe_int)) po_none)))
      (pss_cons (ps_for PassesOwn.never rfl (pi_range1 (by rfl) T.b_range (pa_cons (pe_callB call_len_seq (by rfl) T.b_len PySem.boot_len (pa_cons (pv 0) pa_nil)) pa_nil)) (pg_name (i := 5) sc_cofactors.nd rfl (Or.inr rfl))
        (pss_cons (ps_expr (pe_bm PySem.F.plainAttrs_list PySem.F.slot_list_append PySem.F.type_list_append mt_append (pv 2) (pa_cons (pe_op op_mul (pv 3)
            (pe_call G2 hr (by rfl) F2.g F2.F.kp F2.b .nil pass0 (pa_cons (pe_lc (own := [("row", 6)]) (g := gName 6) (tt := tYes) rfl sc_cofactors.nd (pi_list (pv 4))
              (blkOk_by (N := ["rows", "k", "told", "sign", "others", "column", "row"]) (sc := defScope s_cofactors) (by decide +kernel)) (fun _ _ _ _ _ => pg_name (i := 6) sc_cofactors.nd rfl (Or.inl rfl)) (fun _ _ _ _ _ => pts_nil)
              (fun _ _ _ _ _ => pe_call G1 hr1 (by rfl) F1.g F1.F.kp F1.b .nil pass0 (pa_cons (pv 6) (pa_cons (pv 5) pa_nil)))) pa_nil))) pa_nil)))
        (pss_one (ps_set (i := 3) sc_cofactors.nd rfl (.inl rfl) (pe_op op_sub pe_int (pv 3))))))
      (pss_one (ps_ret (pv 2)))))), ?_⟩
    obtain ⟨ws, ea, hR⟩ := hm.rat
    have hlw := hR.1
    refine ⟨Nat.zero_le _, fun t nt => ?_⟩
    have s0 := same_upd (o := .lst []) nt
    refine ⟨_, rfl, _, _, rfl, rfl, (by show (0 : Int) < 2; decide), _, _, rfl, rfl, .inl ⟨by omega, by omega⟩, _, _, rfl, rfl, ?_⟩
    refine ⟨_, rfl, _, rfl, k, rfl, a, ws, rfl, SqL.of (s0 _ _ ea), fun c nc => ?_⟩
    have e1 : cutV ws none (some (k : Int)) = ws.take k := cut_to ws k
    rw [e1]
    have s1 := same_upd (o := .lst (ws.take k)) nc
    refine ⟨_, rfl, _, rfl, _, _, rfl, rfl, _, rfl, a, ws, rfl, SqL.of (s1 _ _ (s0 _ _ ea)), fun d nd => ?_⟩
    have e2 : cutV ws (some ((k : Int) + 1)) none = ws.drop (k + 1) := cut_from ws (k + 1)
    rw [e2]
    have s2 := same_upd (o := .lst (ws.drop (k + 1))) nd
    refine ⟨c, d, _, _, rfl, rfl, s2 _ _ upd_same, upd_same, ?_, fun u nu => ?_⟩
    · rw [List.length_take, List.length_drop]
      exact Nat.le_of_lt (small_line (by omega))
    have s3 := same_upd (o := .lst (ws.take k ++ ws.drop (k + 1))) nu
    have nut : u ≠ t := (ne_of_none ((s1.trans s2) _ _ (upd_same (H := H) (a := t) (o := .lst []))) nu).symm
    have s03 : Same H _ := s0.trans (s1.trans (s2.trans s3))
    have hO : RowsV H (ws.take k ++ ws.drop (k + 1)) (m.eraseIdx k) := by
      rw [erase_cut]
      exact (hR.take k).append (hR.drop (k + 1))
    refine ⟨_, rfl, a, ws, rfl, .inl (SqL.of (s03 _ _ ea)), (ws.length : Int), rfl, by omega, by omega, ?_⟩
    rw [show ((ws.length : Int)).toNat = n by rw [Int.toNat_natCast]; omega]
    refine for_range (lo := 0) (n := n) (fun i σ H' => ∃ y5 y6, σ = [some (.ref a), some (.int k), some (.ref t), some (.int (if (k + i) % 2 = 0 then (1 : Int) else -1)), some (.ref u), y5, y6] ∧ Same H H' ∧ H' u = some (.lst (ws.take k ++ ws.drop (k + 1))) ∧ H' t = some (.lst (iv ((List.range i).map (cofT n m k)))))
      ⟨none, none, ?_, s03, upd_same, ?_⟩ ?_ ?_
    · show _ = [some (V.ref a), some (V.int (k : Int)), some (V.ref t), some (V.int (if (k + 0) % 2 = 0 then (1 : Int) else -1)), some (V.ref u), none, none]
      rw [← sgn_first]
      rfl
    · exact s3 _ _ (s2 _ _ (s1 _ _ upd_same))
    · rintro i σ H2 hi ⟨y5, y6, rfl, sH, eu, et⟩
      have z : (0 : Int) + (i : Int) = (i : Int) := Int.zero_add _
      rw [z]
      refine ⟨_, rfl, .inl ⟨rfl, _, SqL.of et⟩, _, rfl, _, rfl, u, rfl, ⟨_, SqL.of eu⟩, fun D nD => ?_⟩
      refine lc_rows (s := 6) (vs := [6]) (xs := ws.take k ++ ws.drop (k + 1)) (fun j => ((m.eraseIdx k).getD j []).eraseIdx i) nD (SqL.of eu) (by rw [List.length_append, List.length_take, List.length_drop]; omega) (fun _ => rfl) ?_ ?_
      · intro j x H4 Q4 hx4 s4 k4
        obtain ⟨p, y, rfl, ey, ep⟩ := hO.at hx4
        refine ⟨_, rfl, _, rfl, p, y, i, rfl, s4 _ _ (sH _ _ ep), ?_, fun H5 p5 s5 np5 e5 => k4 H5 p5 s5 np5 ?_⟩
        · rw [hm.wide y (List.mem_of_mem_eraseIdx (List.mem_of_getElem? ey))]
          omega
        · rw [e5, List.getD_eq_getElem?_getD, ey]
          rfl
      · intro H4 s4 r4
        rw [hO.1, map_range_getD (f := fun x => x.eraseIdx i)] at r4
        refine ⟨D, _, e, rfl, r4, ?_, ?_, by omega, Smalls.erase (fun x hx' => hm.sm x (List.mem_of_mem_eraseIdx hx')) i, fun H5 s5 => ?_⟩
        · rw [List.length_map, List.length_eraseIdx, hlen, if_pos hk]
        · intro x hx'
          obtain ⟨y, hy, rfl⟩ := List.mem_map.mp hx'
          have := hm.wide y (List.mem_of_mem_eraseIdx hy)
          rw [List.length_eraseIdx, this, if_pos hi]
        refine ⟨_, _, rfl, rfl, .inl ?_, t, _, _, rfl, rfl, s5 _ _ (s4 _ _ et), ?_, _, rfl, _, _, rfl, rfl, some (.int i), y6, ?_, fun b o eb => ?_, ?_, ?_⟩
        · split <;> decide
        · rw [iv_len, List.length_map, List.length_range]
          exact line_lt (by omega)
        · rw [show k + (i + 1) = (k + i) + 1 from rfl, sgn_int]
          rfl
        · rw [upd_ne (ne_of_none eb nt)]
          exact s5 _ _ (s4 _ _ (sH _ _ eb))
        · rw [upd_ne nut]
          exact s5 _ _ (s4 _ _ eu)
        · rw [upd_same, List.range_succ, List.map_append]
          unfold iv
          rw [List.map_append]
          rfl
    · rintro σ H2 ⟨y5, y6, rfl, sH, eu, et⟩
      exact ⟨_, rfl, q H2 t sH nt et⟩
/-! ### upright -/
theorem sc_upright : FnScope ["rows", "whole", "lines", "k", "line", "number"] ["rows"] (defScope s_upright) := ⟨rfl, rfl, rfl, by decide +kernel, rfl, by decide +kernel, by decide +kernel⟩
/-- the outer block's names -/
def scLine : Scope := { kind := .function, names := [(".0", .local), ("line", .local)], isGenerator := false, isCoroutine := false, more := [] }
def upL (n : Nat) (m : List (List Int)) : List (List Int) := if Si18.det n m < 0 then (Si18.other n m).map fun x => x.map fun z => 0 - z else Si18.other n m
def upW (n : Nat) (m : List (List Int)) : Int := if Si18.det n m < 0 then 0 - Si18.det n m else Si18.det n m
def sp_upright : Sp := fun vs H Q _ => ∃ (a : Addr) (m : List (List Int)) (n e : Nat), vs = [.ref a] ∧ Rw H a n e m ∧ ∀ H' p u, Same H H' → H' p = some (.tup [.ref u, .int (upW n m)]) → RowsAt H' u (upL n m) → Q (.ref p) H'
theorem map_range_getI {f : Int → Int} (l : List Int) : (List.range l.length).map (fun i => f (l.getD i 0)) = l.map f := by
  apply List.ext_getElem
  · simp
  · intro i h1 h2
    simp at h1 h2
    simp [h1]
theorem ok_upright (T : Txt K mg) {f : Addr} {fd : FuncData} (F : Dn K mg "upright" s_upright ["rows"] f fd) : FnOk P w K mg base CX0 9 f fd ["rows"] sp_upright := by
  refine F.F.ok sc_upright (fun vs H Q E h => ?_) (fun cdv A outer s H vs Q E hr h => ?_)
  · obtain ⟨a, m, n, e, rfl, _⟩ := h
    rfl
  · obtain ⟨a, m, n, e, rfl, hm, q⟩ := h
    obtain ⟨f1, fd1, F1⟩ := T.d_determinant
    obtain ⟨f2, fd2, F2⟩ := T.d_cofactors
    have h5 := hm.n5
    have he := hm.he
    have hlen := hm.len
    have G1 : FnOk P w K mg base CX0 8 f1 fd1 ["rows"] (spd (n + 1)) := (ok_determinant T F1 (n + 1) (by omega)).mono (by omega)
    have G2 : FnOk P w K mg base CX0 8 f2 fd2 ["rows", "k"] sp_cofactors := ok_cofactors T F2
    refine ⟨_, pss_cons (ps_set (i := 1) sc_upright.nd rfl (.inl rfl) (pe_call G1 hr (by rfl) F1.g F1.F.kp F1.b .nil pass0 (pa_cons (pv 0) pa_nil)))
      (pss_cons (ps_setLc (i := 2) (own := [("k", 3)]) (g := gName 3) (tt := tYes) rfl sc_upright.nd rfl rfl (sw_true rfl rfl rfl (by decide +kernel)) (pi_range1 (by rfl) T.b_range (pa_cons (pe_callB call_len_seq (by rfl) T.b_len PySem.boot_len (pa_cons (pv 0) pa_nil)) pa_nil))
          (blkOk_by (N := ["rows", "whole", "lines", "k", "line", "number"]) (sc := defScope s_upright) (by decide +kernel)) (fun _ _ _ _ _ => pg_name (i := 3) sc_upright.nd rfl (Or.inl rfl)) (fun _ _ _ _ _ => pts_nil)
          (fun _ _ _ _ _ => pe_call G2 hr (by rfl) F2.g F2.F.kp F2.b .nil pass0 (pa_cons (pv 0) (pa_cons (pv 3) pa_nil))))
      (pss_cons (ps_if (pt_cmpR op_lt (pv 1) pe_int (nomark _))
        (pss_one (ps_ret (pe_tup (pa_cons (pe_lc (own := [("line", 4)]) (g := gName 4) (tt := tYes) rfl sc_upright.nd (pi_list (pv 2))
            (blkOk_by (N := ["rows", "whole", "lines", "k", "line", "number"]) (sc := defScope s_upright) (by decide +kernel)) (fun _ _ _ _ _ => pg_name (i := 4) sc_upright.nd rfl (Or.inl rfl)) (fun _ _ _ _ _ => pts_nil)
            (fun _ _ _ _ _ => pe_lc (wi := iList K (tVar 4)) (own := [("number", 5)]) (g := gName 5) (tt := tYes) rfl sc_upright.nd (pi_list (pv 4)) (blkOk_by (N := ["rows", "whole", "lines", "k", "line", "number"]) (sc := scLine) (by decide +kernel)) (fun _ _ _ _ _ => pg_name (i := 5) sc_upright.nd rfl (Or.inl rfl)) (fun _ _ _ _ _ => pts_nil)
              (fun _ _ _ _ _ => pe_op op_sub pe_int (pv 5))))
          (pa_cons (pe_op op_sub pe_int (pv 1)) pa_nil))))) pss_nil)
      (pss_one (ps_ret (pe_tup (pa_cons (pv 2) (pa_cons (pv 1) pa_nil))))))), ?_⟩
    obtain ⟨ws, ea, hR⟩ := hm.rat
    have hlw := hR.1
    refine ⟨_, rfl, a, m, e, rfl, ⟨ws, ea, hR⟩, hlen, hm.wide, by omega, hm.sm, fun H1 s1 => ?_⟩
    refine ⟨_, rfl, a, ws, rfl, .inl (s1.seq (SqL.of ea)), (ws.length : Int), rfl, by omega, by omega, fun D nD => ?_⟩
    rw [show ((ws.length : Int)).toNat = n by rw [Int.toNat_natCast]; omega]
    refine lc_rowsR (n := n) (s := 3) (vs := [3]) (cofR n m) nD (by omega) (fun _ => rfl) ?_ ?_
    · intro k H2 Q2 hk s2 k2
      exact ⟨_, rfl, _, rfl, a, m, n, e, k, rfl, (hm.same (s1.trans s2)), hk, fun H3 p s3 np e3 => k2 H3 p s3 np e3⟩
    · intro H2 s2 r2
      rw [← other_cofR] at r2
      have s12 := s1.trans s2
      refine ⟨_, rfl, _, _, rfl, rfl, _, rfl, ite2 (fun hneg => ?_) (fun hneg => ?_)⟩
      · have hn : Si18.det n m < 0 := of_decide_eq_true hneg
        obtain ⟨wl, el, rl⟩ := r2
        have hol : (Si18.other n m).length = n := by
          rw [other_cofR, List.length_map, List.length_range]
        have hwl := rl.1
        refine ⟨_, rfl, D, rfl, ⟨_, SqL.of el⟩, fun D2 nD2 => ?_⟩
        refine lc_rows (s := 4) (vs := [4]) (xs := wl) (fun j => ((Si18.other n m).getD j []).map fun z => 0 - z) nD2 (SqL.of el) (by omega) (fun _ => rfl) ?_ ?_
        · intro j x H3 Q3 hx3 s3 k3
          obtain ⟨p, y, rfl, ey, ep⟩ := rl.at hx3
          refine ⟨_, rfl, p, rfl, ⟨_, SqL.of (s3 _ _ ep)⟩, fun D3 nD3 => ?_⟩
          have hyl : y.length = n := by
            have := List.mem_of_getElem? ey
            rw [other_cofR] at this
            obtain ⟨i, hi, rfl⟩ := range_map_mem this
            exact cofR_len
          refine lc_intsL (s := 5) (vs := [5]) (xs := iv y) (fun i => 0 - y.getD i 0) nD3 (SqL.of (s3 _ _ ep)) (by rw [iv_len]; omega) (fun _ => rfl) ?_ ?_
          · intro i v H4 Q4 hv s4 k4
            obtain ⟨hi, rfl⟩ := iv_get hv
            exact ⟨_, rfl, _, _, rfl, rfl, k4 H4 (Same.refl H4)⟩
          · intro H4 s4 e4
            rw [iv_len, map_range_getI (f := fun z => 0 - z)] at e4
            refine k3 H4 D3 s4 nD3 ?_
            rw [List.getD_eq_getElem?_getD, ey]
            exact e4
        · intro H3 s3 r3
          rw [hwl, map_range_getD (f := fun x => x.map fun z => 0 - z)] at r3
          refine ⟨_, rfl, _, _, rfl, rfl, by show 2 ≤ sizeLine; decide, fun t nt => ?_⟩
          refine q _ t D2 (s12.trans (s3.trans (same_upd nt))) ?_ ?_
          · rw [upd_same]
            unfold upW
            rw [if_pos hn]
          · unfold upL
            rw [if_pos hn]
            exact r3.same (same_upd nt)
      · have hn : ¬ Si18.det n m < 0 := fun z => hneg (decide_eq_true z)
        refine ⟨_, rfl, _, rfl, by show 2 ≤ sizeLine; decide, fun t nt => ?_⟩
        refine q _ t D (s12.trans (same_upd nt)) ?_ ?_
        · rw [upd_same]
          unfold upW
          rw [if_neg hn]
        · unfold upL
          rw [if_neg hn]
          exact r2.same (same_upd nt)
/-! ### what upright tells -/
theorem up_len {n : Nat} {m : List (List Int)} : (upL n m).length = n := by
  unfold upL
  split
  · rw [List.length_map, other_cofR, List.length_map, List.length_range]
  · rw [other_cofR, List.length_map, List.length_range]
theorem up_mem {n : Nat} {m : List (List Int)} {x : List Int} (h : x ∈ upL n m) : ∃ k, k < n ∧ (x = cofR n m k ∨ (Si18.det n m < 0 ∧ x = (cofR n m k).map fun z => 0 - z)) ∧ (Si18.det n m < 0 → x = (cofR n m k).map fun z => 0 - z) := by
  unfold upL at h
  split at h
  · rename_i hn
    obtain ⟨y, hy, rfl⟩ := List.mem_map.mp h
    rw [other_cofR] at hy
    obtain ⟨k, hk, rfl⟩ := range_map_mem hy
    exact ⟨k, hk, .inr ⟨hn, rfl⟩, fun _ => rfl⟩
  · rename_i hn
    rw [other_cofR] at h
    obtain ⟨k, hk, rfl⟩ := range_map_mem h
    exact ⟨k, hk, .inl rfl, fun z => absurd z hn⟩
theorem up_wide {n : Nat} {m : List (List Int)} : ∀ x, x ∈ upL n m → x.length = n := fun x hx => by
  obtain ⟨k, hk, h, _⟩ := up_mem hx
  rcases h with rfl | ⟨_, rfl⟩
  · exact cofR_len
  · rw [List.length_map]
    exact cofR_len
theorem up_small {e n : Nat} {m : List (List Int)} (h : Smalls e m) (h5 : n ≤ 5) : Smalls ((e + 3) * 4) (upL n m) := fun x hx => by
  obtain ⟨k, hk, hh, _⟩ := up_mem hx
  rcases hh with rfl | ⟨_, rfl⟩
  · exact cofR_small h h5
  · intro z hz
    obtain ⟨y, hy, rfl⟩ := List.mem_map.mp hz
    have := cofR_small h h5 y hy
    rw [Int.zero_sub, Int.natAbs_neg]
    exact this
theorem up_pos {n : Nat} {m : List (List Int)} (h : Si18.det n m ≠ 0) : 0 < upW n m := by
  unfold upW
  split <;> omega
theorem upW_small {e n : Nat} {m : List (List Int)} (h : Smalls e m) (h5 : n ≤ 5) : (upW n m).natAbs ≤ 2 ^ ((e + 3) * 5) := by
  have : (upW n m).natAbs = (Si18.det n m).natAbs := by
    unfold upW
    split <;> omega
  rw [this]
  exact Nat.le_trans (det_small (e := e) (by omega) h) (Nat.pow_le_pow_right (by decide) (Nat.mul_le_mul_left _ h5))
/-! ### lies_in -/
theorem sc_lies_in : FnScope ["rows", "row", "lines", "whole", "line"] ["rows", "row"] (defScope s_lies_in) := ⟨rfl, rfl, rfl, by decide +kernel, rfl, by decide +kernel, by decide +kernel⟩
theorem dot_comm : ∀ (x y : List Int), Si18.dot x y = Si18.dot y x
  | [], [] => rfl
  | [], _ :: _ => rfl
  | _ :: _, [] => rfl
  | a :: x, b :: y => by
    have h := dot_comm x y
    unfold Si18.dot at h ⊢
    rw [List.zipWith_cons_cons, List.zipWith_cons_cons, List.sum_cons, List.sum_cons, h, Int.mul_comm]
theorem dot_neg : ∀ (x y : List Int), Si18.dot (x.map fun z => 0 - z) y = - Si18.dot x y
  | [], [] => rfl
  | [], _ :: _ => rfl
  | _ :: _, [] => rfl
  | a :: x, b :: y => by
    have h := dot_neg x y
    unfold Si18.dot at h ⊢
    rw [List.map_cons, List.zipWith_cons_cons, List.zipWith_cons_cons, List.sum_cons, List.sum_cons, h, Int.zero_sub, Int.neg_mul, Int.neg_add]
/-- whether the products are multiples -/
def gridB (n : Nat) (m : List (List Int)) (x : List Int) (l : List (List Int)) : Bool := l.all fun o => Si18.dot o x % upW n m == 0
theorem grid_eq {n : Nat} {m : List (List Int)} {x : List Int} : gridB n m x (upL n m) = Si18.onGrid n m x := by
  unfold gridB upL upW Si18.onGrid
  split
  · rw [List.all_map]
    congr 1
    funext o
    show (Si18.dot (o.map fun z => 0 - z) x % (0 - Si18.det n m) == 0) = (Si18.dot x o % Si18.det n m == 0)
    rw [dot_neg, Int.zero_sub, Int.emod_neg, dot_comm x o]
    have e : (- Si18.dot o x % Si18.det n m = 0) ↔ (Si18.dot o x % Si18.det n m = 0) := by
      rw [← Int.dvd_iff_emod_eq_zero, ← Int.dvd_iff_emod_eq_zero, Int.dvd_neg]
    exact Bool.eq_iff_iff.mpr (by rw [beq_iff_eq, beq_iff_eq]; exact e)
  · congr 1
    funext o
    rw [dot_comm]
def sp_lies_in : Sp := fun vs H Q _ => ∃ (a b : Addr) (m : List (List Int)) (x : List Int) (n e : Nat), vs = [.ref a, .ref b] ∧ Rw H a n e m ∧ Si18.det n m ≠ 0 ∧ H b = some (.lst (iv x)) ∧ x.length = n ∧ Small e x ∧ ∀ H', Same H H' → Q (.bl (Si18.onGrid n m x)) H'
theorem ok_lies_in (T : Txt K mg) {f : Addr} {fd : FuncData} (F : Dn K mg "lies_in" s_lies_in ["rows", "row"] f fd) : FnOk P w K mg base CX0 10 f fd ["rows", "row"] sp_lies_in := by
  refine F.F.ok sc_lies_in (fun vs H Q E h => ?_) (fun cdv A outer s H vs Q E hr h => ?_)
  · obtain ⟨a, b, m, x, n, e, rfl, _⟩ := h
    rfl
  · obtain ⟨a, b, m, x, n, e, rfl, hm, hd, hb, hx, hs, q⟩ := h
    obtain ⟨f1, fd1, F1⟩ := T.d_upright
    obtain ⟨f2, fd2, F2⟩ := T.d_product
    have h5 := hm.n5
    have he := hm.he
    have G1 : FnOk P w K mg base CX0 9 f1 fd1 ["rows"] sp_upright := ok_upright T F1
    have G2 : FnOk P w K mg base CX0 9 f2 fd2 ["one", "other"] (sp_product K) := (ok_product T F2).mono (by omega)
    refine ⟨_, pss_cons (ps_asg (pe_call G1 hr (by rfl) F1.g F1.F.kp F1.b .nil pass0 (pa_cons (pv 0) pa_nil)) (pg_tup rfl (pgs_cons (pg_name (i := 2) sc_lies_in.nd rfl (.inl rfl)) (pgs_cons (pg_name (i := 3) sc_lies_in.nd rfl (.inl rfl)) pgs_nil))))
      (pss_cons (ps_for PassesOwn.never rfl (pi_list (pv 2)) (pg_name (i := 4) sc_lies_in.nd rfl (.inl rfl))
        (pss_one (ps_if (pt_cmpR op_ne (pe_op op_mod (pe_call G2 hr (by rfl) F2.g F2.F.kp F2.b .nil pass0 (pa_cons (pv 4) (pa_cons (pv 1) pa_nil))) (pv 3)) pe_int (nomark _)) (pss_one (ps_ret pe_bl)) pss_nil)))
      (pss_one (ps_ret pe_bl))), ?_⟩
    refine ⟨_, rfl, a, m, n, e, rfl, hm, fun H1 p u s1 ep ru => ?_⟩
    obtain ⟨wu, eu, rU⟩ := ru
    refine ⟨p, _, rfl, SqT.of ep, rfl, _, _, rfl, _, _, rfl, rfl, ?_⟩
    refine ⟨_, rfl, u, rfl, ⟨_, SqL.of eu⟩, for_list (K := K) (a := u) (xs := wu) (fun i σ H' => ∃ y4, σ = [some (.ref a), some (.ref b), some (.ref u), some (.int (upW n m)), y4] ∧ Same H1 H' ∧ gridB n m x ((upL n m).take i) = true) ⟨none, rfl, Same.refl H1, rfl⟩ ?_ ?_ ?_⟩
    · rintro i σ H2 _ ⟨y4, rfl, s2, _⟩
      exact s2.seq (SqL.of eu)
    · rintro i v σ H2 hv ⟨y4, rfl, s2, hg⟩
      obtain ⟨p4, y, rfl, ey, e4⟩ := rU.at hv
      have hym := List.mem_of_getElem? ey
      refine ⟨_, rfl, _, rfl, p4, b, y, x, (e + 3) * 4, e, rfl, s2.seq (SqL.of e4), s2.seq (s1.seq (SqL.of hb)), by rw [up_wide y hym, hx], up_small hm.sm h5 y hym, hs, by omega, fun H3 s3 => ?_⟩
      refine ⟨_, rfl, _, _, rfl, rfl, up_pos hd, rfl, _, rfl, ?_⟩
      refine ite2 (fun hne => ?_) (fun hne => ?_)
      · have hne : (!decide (V.int (Si18.dot y x % upW n m) = V.int 0)) = true := hne
        have hz : ¬ Si18.dot y x % upW n m = 0 := fun z => by
          rw [decide_eq_true (by rw [z])] at hne
          cases hne
        have := q H3 (s1.trans (s2.trans s3))
        rw [← grid_eq] at this
        have f0 : gridB n m x (upL n m) = false := List.all_eq_false.mpr ⟨y, hym, by simpa using hz⟩
        rw [f0] at this
        exact this
      · have hne : ¬ (!decide (V.int (Si18.dot y x % upW n m) = V.int 0)) = true := hne
        have hz : Si18.dot y x % upW n m = 0 := by
          by_cases z : Si18.dot y x % upW n m = 0
          · exact z
          · rw [decide_eq_false fun w => z (V.int.inj w)] at hne
            exact absurd rfl hne
        refine ⟨some (.ref p4), rfl, s2.trans s3, ?_⟩
        unfold gridB at hg ⊢
        rw [List.take_add_one, ey, List.all_append, hg]
        simp [hz]
    · rintro σ H2 ⟨y4, rfl, s2, hg⟩
      rw [rU.1, List.take_length] at hg
      have := q H2 (s1.trans s2)
      rw [← grid_eq, hg] at this
      exact this
/-! ### are_same -/
theorem sc_are_same : FnScope ["rows", "others", "row"] ["rows", "others"] (defScope s_are_same) := ⟨rfl, rfl, rfl, by decide +kernel, rfl, by decide +kernel, by decide +kernel⟩
def sp_are_same : Sp := fun vs H Q _ => ∃ (a b : Addr) (m l : List (List Int)) (n e : Nat), vs = [.ref a, .ref b] ∧ Rw H a n e m ∧ Si18.det n m ≠ 0 ∧ Rw H b n e l ∧ Si18.det n l ≠ 0 ∧ ∀ H', Same H H' → Q (.bl (Si18.sameB n m l)) H'
theorem all_take {p : List Int → Bool} {l : List (List Int)} {i : Nat} {y : List Int} (h : l[i]? = some y) : (l.take (i + 1)).all p = ((l.take i).all p && p y) := by
  rw [List.take_add_one, h, List.all_append]
  simp
theorem ok_are_same (T : Txt K mg) {f : Addr} {fd : FuncData} (F : Dn K mg "are_same" s_are_same ["rows", "others"] f fd) : FnOk P w K mg base CX0 11 f fd ["rows", "others"] sp_are_same := by
  refine F.F.ok sc_are_same (fun vs H Q E h => ?_) (fun cdv A outer s H vs Q E hr h => ?_)
  · obtain ⟨a, b, m, l, n, e, rfl, _⟩ := h
    rfl
  · obtain ⟨a, b, m, l, n, e, rfl, hm, hdm, hl, hdl, q⟩ := h
    obtain ⟨f1, fd1, F1⟩ := T.d_lies_in
    have G1 : FnOk P w K mg base CX0 10 f1 fd1 ["rows", "row"] sp_lies_in := ok_lies_in T F1
    refine ⟨_, pss_cons (ps_for PassesOwn.never rfl (pi_list (pv 0)) (pg_name (i := 2) sc_are_same.nd rfl (.inl rfl))
        (pss_one (ps_if (pt_not (pt_val (pe_call G1 hr (by rfl) F1.g F1.F.kp F1.b .nil pass0 (pa_cons (pv 1) (pa_cons (pv 2) pa_nil))))) (pss_one (ps_ret pe_bl)) pss_nil)))
      (pss_cons (ps_for PassesOwn.never rfl (pi_list (pv 1)) (pg_name (i := 2) sc_are_same.nd rfl (.inl rfl))
        (pss_one (ps_if (pt_not (pt_val (pe_call G1 hr (by rfl) F1.g F1.F.kp F1.b .nil pass0 (pa_cons (pv 0) (pa_cons (pv 2) pa_nil))))) (pss_one (ps_ret pe_bl)) pss_nil)))
      (pss_one (ps_ret pe_bl))), ?_⟩
    obtain ⟨wa, ea, rA⟩ := hm.rat
    obtain ⟨wb, eb', rB⟩ := hl.rat
    have bad : ∀ H', Same H H' → Si18.sameB n m l = false → Q (.bl false) H' := fun H' s' hf => by
      have := q H' s'
      rw [hf] at this
      exact this
    refine ⟨_, rfl, a, rfl, ⟨_, SqL.of ea⟩, for_list (K := K) (a := a) (xs := wa) (fun i σ H' => ∃ y2, σ = [some (.ref a), some (.ref b), y2] ∧ Same H H' ∧ (m.take i).all (Si18.onGrid n l) = true) ⟨none, rfl, Same.refl H, rfl⟩ ?_ ?_ ?_⟩
    · rintro i σ H2 _ ⟨y2, rfl, s2, _⟩
      exact s2.seq (SqL.of ea)
    · rintro i v σ H2 hv ⟨y2, rfl, s2, hg⟩
      obtain ⟨p, y, rfl, ey, ep⟩ := rA.at hv
      have hym := List.mem_of_getElem? ey
      refine ⟨_, rfl, _, rfl, b, p, l, y, n, e, rfl, hl.same s2, hdl, s2 _ _ ep, hm.wide y hym, hm.sm y hym, fun H3 s3 => ⟨_, rfl, ?_⟩⟩
      cases hon : Si18.onGrid n l y with
      | true => exact iteF ⟨some (.ref p), rfl, s2.trans s3, by rw [all_take ey, hg, hon]; rfl⟩
      | false =>
        refine iteT (bad H3 (s2.trans s3) ?_)
        unfold Si18.sameB
        rw [show m.all (Si18.onGrid n l) = false from List.all_eq_false.mpr ⟨y, hym, by rw [hon]; simp⟩, Bool.false_and]
    · rintro σ H2 ⟨y2, rfl, s2, hg⟩
      rw [rA.1, List.take_length] at hg
      refine ⟨_, rfl, b, rfl, ⟨_, s2.seq (SqL.of eb')⟩, for_list (K := K) (a := b) (xs := wb) (fun i σ H' => ∃ y2, σ = [some (.ref a), some (.ref b), y2] ∧ Same H H' ∧ (l.take i).all (Si18.onGrid n m) = true) ⟨y2, rfl, s2, rfl⟩ ?_ ?_ ?_⟩
      · rintro i σ H3 _ ⟨y2, rfl, s3, _⟩
        exact s3.seq (SqL.of eb')
      · rintro i v σ H3 hv ⟨y2, rfl, s3, hg3⟩
        obtain ⟨p, y, rfl, ey, ep⟩ := rB.at hv
        have hym := List.mem_of_getElem? ey
        refine ⟨_, rfl, _, rfl, a, p, m, y, n, e, rfl, hm.same s3, hdm, s3 _ _ ep, hl.wide y hym, hl.sm y hym, fun H4 s4 => ⟨_, rfl, ?_⟩⟩
        cases hon : Si18.onGrid n m y with
        | true => exact iteF ⟨some (.ref p), rfl, s3.trans s4, by rw [all_take ey, hg3, hon]; rfl⟩
        | false =>
          refine iteT (bad H4 (s3.trans s4) ?_)
          unfold Si18.sameB
          rw [show l.all (Si18.onGrid n m) = false from List.all_eq_false.mpr ⟨y, hym, by rw [hon]; simp⟩, Bool.and_false]
      · rintro σ H3 ⟨y2, rfl, s3, hg3⟩
        rw [rB.1, List.take_length] at hg3
        have := q H3 s3
        unfold Si18.sameB at this
        rw [hg, hg3] at this
        exact this
/-! ### rows_of -/
theorem sc_rows_of : FnScope ["n", "numbers", "k"] ["n", "numbers"] (defScope s_rows_of) := ⟨rfl, rfl, rfl, by decide +kernel, rfl, by decide +kernel, by decide +kernel⟩
def chop (n : Nat) (l : List Int) : List (List Int) := (List.range n).map fun i => (l.drop (i * n)).take n
def sp_rows_of (K : PySem.W.Frag) : Sp := fun vs H Q _ => ∃ (a : Addr) (l : List Int) (n : Nat), vs = [.int n, .ref a] ∧ SqL K H a (iv l) ∧ n ≤ 5 ∧ ∀ H' p, Same H H' → H p = none → RowsAt H' p (chop n l) → Q (.ref p) H'
theorem ok_rows_of (T : Txt K mg) {f : Addr} {fd : FuncData} (F : Dn K mg "rows_of" s_rows_of ["n", "numbers"] f fd) : FnOk P w K mg base CX0 1 f fd ["n", "numbers"] (sp_rows_of K) := by
  refine F.F.ok sc_rows_of (fun vs H Q E h => ?_) (fun cdv A outer s H vs Q E hr h => ?_)
  · obtain ⟨a, l, n, rfl, _⟩ := h
    rfl
  · obtain ⟨a, l, n, rfl, ha, hn, q⟩ := h
    refine ⟨_, pss_one (ps_ret (pe_lc (own := [("k", 2)]) (g := gName 2) (tt := tYes) rfl sc_rows_of.nd (pi_range1 (by rfl) T.b_range (pa_cons (pv 0) pa_nil))
      (blkOk_by (N := ["n", "numbers", "k"]) (sc := defScope s_rows_of) (by decide +kernel)) (fun _ _ _ _ _ => pg_name (i := 2) sc_rows_of.nd rfl (Or.inl rfl)) (fun _ _ _ _ _ => pts_nil)
      (fun _ _ _ _ _ => pe_slice (r := rSlL K) sl_list (pv 1) (po_some (pe_op op_mul (pv 2) (pv 0))) (po_some (pe_op op_add (pe_op op_mul (pv 2) (pv 0)) (pv 0)))))), ?_⟩
    refine ⟨_, rfl, (n : Int), rfl, by omega, by omega, fun D nD => ?_⟩
    refine lc_rowsR (n := n) (s := 2) (vs := [2]) (fun i => (l.drop (i * n)).take n) nD (by omega) (fun _ => rfl) ?_ ?_
    · intro i H2 Q2 hi s2 k2
      refine ⟨_, rfl, _, rfl, _, rfl, _, _, rfl, rfl, .inl ⟨by omega, by omega⟩, _, rfl, _, rfl, _, rfl, _, _, rfl, rfl, .inl ⟨by omega, by omega⟩, _, rfl, _, _, rfl, rfl, _, rfl, a, iv l, rfl, s2.seq ha, fun p np => ?_⟩
      refine k2 _ p (same_upd np) np ?_
      rw [upd_same]
      have e : cutV (iv l) (some ((i : Int) * (n : Int))) (some ((i : Int) * (n : Int) + (n : Int))) = ((iv l).drop (i * n)).take (i * n + n - i * n) := cut_mid (iv l) (i * n) (i * n + n) (by omega)
      rw [e, Nat.add_sub_cancel_left]
      unfold iv
      rw [List.map_take, List.map_drop]
    · intro H2 s2 r2
      exact q H2 D s2 nD r2
/-! ### are_small -/
theorem sc_are_small : FnScope ["numbers", "number"] ["numbers"] (defScope s_are_small) := ⟨rfl, rfl, rfl, by decide +kernel, rfl, by decide +kernel, by decide +kernel⟩
def sp_are_small (K : PySem.W.Frag) : Sp := fun vs H Q _ => ∃ (a : Addr) (l : List Int), vs = [.ref a] ∧ SqL K H a (iv l) ∧ Q (.bl (Si18.small l)) H
theorem small_take {l : List Int} {i : Nat} {z : Int} (h : l[i]? = some z) : Si18.small (l.take (i + 1)) = (Si18.small (l.take i) && Si18.within z (-1000) 1000) := by
  unfold Si18.small
  rw [List.take_add_one, h, List.all_append]
  simp
theorem small_false {l : List Int} {i : Nat} {z : Int} (h : l[i]? = some z) (hz : Si18.within z (-1000) 1000 = false) : Si18.small l = false := by
  unfold Si18.small
  exact List.all_eq_false.mpr ⟨z, List.mem_of_getElem? h, by rw [hz]; simp⟩
theorem ok_are_small (T : Txt K mg) {f : Addr} {fd : FuncData} (F : Dn K mg "are_small" s_are_small ["numbers"] f fd) : FnOk P w K mg base CX0 1 f fd ["numbers"] (sp_are_small K) := by
  refine F.F.ok sc_are_small (fun vs H Q E h => ?_) (fun cdv A outer s H vs Q E hr h => ?_)
  · obtain ⟨a, l, rfl, _⟩ := h
    rfl
  · obtain ⟨a, l, rfl, ha, q⟩ := h
    obtain ⟨t, mM⟩ := T.c_MOST
    refine ⟨_, pss_cons (ps_for PassesOwn.never rfl (pi_list (pv 0)) (pg_name (i := 1) sc_are_small.nd rfl (Or.inl rfl))
        (pss_one (ps_if (pt_not (pt_chain op_le op_le (pe_op op_sub pe_int (pe_glob (v := .int 1000) (by rfl) mM ⟨_, rfl⟩)) (pv 1) (pe_glob (v := .int 1000) (by rfl) mM ⟨_, rfl⟩))) (pss_one (ps_ret pe_bl)) pss_nil)))
      (pss_one (ps_ret pe_bl)), ?_⟩
    refine ⟨_, rfl, a, rfl, ⟨_, ha⟩, for_list (K := K) (a := a) (xs := iv l) (fun i σ H' => ∃ y1, σ = [some (.ref a), y1] ∧ H' = H ∧ Si18.small (l.take i) = true) ⟨none, rfl, rfl, by rfl⟩ ?_ ?_ ?_⟩
    · rintro i σ H2 _ ⟨_, _, rfl, _⟩
      exact ha
    · rintro i x σ H2 hx ⟨y1, rfl, rfl, hs⟩
      obtain ⟨hi, rfl⟩ := iv_get hx
      have hz : l[i]? = some (l.getD i 0) := by
        rw [List.getD_eq_getElem?_getD, List.getElem?_eq_getElem hi]
        rfl
      generalize l.getD i 0 = z at hz ⊢
      refine ⟨_, _, rfl, rfl, _, rfl, _, _, rfl, rfl, _, rfl, ite2 (fun h1 => ?_) (fun h1 => ?_)⟩
      · refine ⟨_, _, rfl, rfl, _, rfl, ?_⟩
        have c1 : (0 : Int) - 1000 ≤ z := of_decide_eq_true h1
        by_cases c2 : z ≤ 1000
        · refine iteNS c2 ⟨_, rfl, rfl, ?_⟩
          rw [small_take hz, hs]
          unfold Si18.within
          simp
          omega
        · rw [decide_eq_false c2]
          refine iteT ?_
          have e : Si18.small l = false := small_false hz (by unfold Si18.within; simp; omega)
          rw [e] at q
          exact q
      · have c1 : ¬ (0 : Int) - 1000 ≤ z := fun k => h1 (decide_eq_true k)
        refine ⟨_, rfl, ?_⟩
        refine iteT ?_
        have e : Si18.small l = false := small_false hz (by unfold Si18.within; simp; omega)
        rw [e] at q
        exact q
    · rintro σ H2 ⟨y1, rfl, rfl, hs⟩
      rw [iv_len, List.take_length] at hs
      rw [hs] at q
      exact q
/-! ### refusal -/
theorem chop_flat (n : Nat) (l : List Int) : ∀ k : Nat, ((List.range k).map fun i => (l.drop (i * n)).take n).flatten = l.take (k * n)
  | 0 => by simp
  | k + 1 => by
    rw [List.range_succ, List.map_append, List.flatten_append, chop_flat n l k, Nat.add_mul, Nat.one_mul, List.take_add]
    simp
theorem all_flat {p : Int → Bool} (m : List (List Int)) : m.flatten.all p = m.all fun x => x.all p := by
  rw [List.all_flatten]
theorem chop_fine {n : Nat} {l : List Int} (h : l.length = n * n) : Si18.fine (chop n l) = Si18.small l := by
  have e : (chop n l).flatten = l := by
    unfold chop
    rw [chop_flat, List.take_of_length_le (by omega)]
  unfold Si18.fine Si18.small
  rw [← all_flat, e]
theorem chop_len {n : Nat} {l : List Int} : (chop n l).length = n := by
  unfold chop
  rw [List.length_map, List.length_range]
theorem chop_wide {n : Nat} {l : List Int} (h : l.length = n * n) : ∀ x, x ∈ chop n l → x.length = n := fun x hx => by
  obtain ⟨i, hi, rfl⟩ := List.mem_map.mp hx
  have hi := List.mem_range.mp hi
  rw [List.length_take, List.length_drop, h]
  have : i * n + n ≤ n * n := by
    have := Nat.mul_le_mul_right n (show i + 1 ≤ n from hi)
    rw [Nat.add_mul, Nat.one_mul] at this
    exact this
  omega
theorem within_iff {z lo hi : Int} : Si18.within z lo hi = true ↔ lo ≤ z ∧ z ≤ hi := by
  unfold Si18.within
  simp
theorem small_pow {l : List Int} (h : Si18.small l = true) : Small 10 l := fun z hz => by
  have a := List.all_eq_true.mp h z hz
  have b := within_iff.mp a
  show z.natAbs ≤ 1024
  omega
theorem fine_pow {m : List (List Int)} (h : Si18.fine m = true) : Smalls 10 m := fun x hx => small_pow (List.all_eq_true.mp h x hx)
theorem size_iff {n : Int} : Si18.size n = true ↔ 1 ≤ n ∧ n ≤ 5 := within_iff
theorem sizeOk_size (n : Int) : Si18Neutral.sizeOk n = Si18.size n := rfl
theorem long_of {n : Int} {b : List Int} (k : Int) (h : Si18Neutral.long b n k = true) (hs : Si18.size n = true) : (b.length : Int) = k := by
  unfold Si18Neutral.long at h
  rw [sizeOk_size, if_pos hs, Bool.and_eq_true] at h
  exact of_decide_eq_true h.2
theorem long_sq {n : Nat} {b : List Int} (h : Si18Neutral.long b n ((n : Int) * (n : Int)) = true) (hs : Si18.size (n : Int) = true) : b.length = n * n := by
  have := long_of _ h hs
  have e : ((n * n : Nat) : Int) = (n : Int) * (n : Int) := by simp
  rw [← e] at this
  exact Int.ofNat.inj this
theorem rows_in {n : Nat} {l : List Int} (hs : Si18.size (n : Int) = true) : Si18Neutral.rowsIn (n : Int) l = chop n l := by
  unfold Si18Neutral.rowsIn
  rw [sizeOk_size, if_pos hs]
  rfl
def told (a : Si18.Ans) : List Int := a.v :: a.l
/-- why rows are refused, or 0 -/
def refuse (n : Int) (l : List Int) : Int := if Si18.size n = false then -2 else if Si18.given n (Si18Neutral.rowsIn n l) = false then -3 else 0
theorem sc_refusal : FnScope ["n", "numbers"] ["n", "numbers"] (defScope s_refusal) := ⟨rfl, rfl, rfl, by decide +kernel, rfl, by decide +kernel, by decide +kernel⟩
def sp_refusal (K : PySem.W.Frag) : Sp := fun vs H Q _ => ∃ (a : Addr) (n : Int) (l : List Int), vs = [.int n, .ref a] ∧ SqL K H a (iv l) ∧ Si18Neutral.long l n (n * n) = true ∧ ∀ H', Same H H' → Q (.int (refuse n l)) H'
theorem ok_refusal (T : Txt K mg) {f : Addr} {fd : FuncData} (F : Dn K mg "refusal" s_refusal ["n", "numbers"] f fd) : FnOk P w K mg base CX0 9 f fd ["n", "numbers"] (sp_refusal K) := by
  refine F.F.ok sc_refusal (fun vs H Q E h => ?_) (fun cdv A outer s H vs Q E hr h => ?_)
  · obtain ⟨a, n, l, rfl, _⟩ := h
    rfl
  · obtain ⟨a, n, l, rfl, ha, hk, q⟩ := h
    obtain ⟨f2, fd2, F2⟩ := T.d_determinant
    obtain ⟨f3, fd3, F3⟩ := T.d_rows_of
    obtain ⟨f4, fd4, F4⟩ := T.d_are_small
    obtain ⟨t1, mB⟩ := T.c_BEYOND
    obtain ⟨t2, mW⟩ := T.c_WRONG
    obtain ⟨t3, mR⟩ := T.c_MOST_ROWS
    have G2 : FnOk P w K mg base CX0 8 f2 fd2 ["rows"] (spd (n.toNat % 6 + 1)) := (ok_determinant T F2 (n.toNat % 6 + 1) (by omega)).mono (by omega)
    have G3 : FnOk P w K mg base CX0 8 f3 fd3 ["n", "numbers"] (sp_rows_of K) := (ok_rows_of T F3).mono (by omega)
    have G4 : FnOk P w K mg base CX0 8 f4 fd4 ["numbers"] (sp_are_small K) := (ok_are_small T F4).mono (by omega)
    refine ⟨_, pss_cons (ps_if (pt_not (pt_chain op_le op_le pe_int (pv 0) (pe_glob (v := .int 5) (by rfl) mR ⟨_, rfl⟩))) (pss_one (ps_ret (pe_glob (v := .int (-2)) (by rfl) mB ⟨_, rfl⟩))) pss_nil)
      (pss_cons (ps_if (PW.pt (pw_or (pt_not (pt_val (pe_call G4 hr (by rfl) F4.g F4.F.kp F4.b .nil pass0 (pa_cons (pv 1) pa_nil))))
          (pw_or1 (pt_cmpR op_eq (pe_call G2 hr (by rfl) F2.g F2.F.kp F2.b .nil pass0 (pa_cons (pe_call G3 hr (by rfl) F3.g F3.F.kp F3.b .nil pass0 (pa_cons (pv 0) (pa_cons (pv 1) pa_nil))) pa_nil)) pe_int (nomark _)))))
        (pss_one (ps_ret (pe_glob (v := .int (-3)) (by rfl) mW ⟨_, rfl⟩))) pss_nil)
      (pss_one (ps_ret pe_int))), ?_⟩
    have beyond : Si18.size n = false → Q (.int (-2)) H := fun hs => by
      have := q H (Same.refl H)
      unfold refuse at this
      rw [if_pos hs] at this
      exact this
    refine ⟨_, rfl, _, _, rfl, rfl, _, rfl, ite2 (fun h1 => ?_) (fun h1 => ?_)⟩
    · refine ⟨_, _, rfl, rfl, _, rfl, ?_⟩
      have c1 : (1 : Int) ≤ n := of_decide_eq_true h1
      by_cases c2 : n ≤ 5
      · refine iteNS c2 ?_
        have hs : Si18.size n = true := size_iff.mpr ⟨c1, c2⟩
        obtain ⟨k, rfl⟩ : ∃ k : Nat, n = (k : Int) := ⟨n.toNat, by omega⟩
        have hl : l.length = k * k := long_sq hk hs
        have hkm : (k : Int).toNat % 6 = k := by
          rw [Int.toNat_natCast]
          omega
        rw [hkm]
        have wrong : Si18.given k (chop k l) = false → ∀ H', Same H H' → Q (.int (-3)) H' := fun hg H' s' => by
          have := q H' s'
          unfold refuse at this
          rw [if_neg (by rw [hs]; decide), rows_in hs, if_pos hg] at this
          exact this
        have eg : Si18.given k (chop k l) = (Si18.small l && Si18.det k (chop k l) != 0) := by
          unfold Si18.given
          rw [chop_fine hl]
          rfl
        refine ⟨_, rfl, a, l, rfl, ha, _, rfl, ?_⟩
        cases hsm : Si18.small l with
        | false =>
          refine iteT (iteT (wrong ?_ H (Same.refl H)))
          rw [eg, hsm, Bool.false_and]
        | true =>
          refine iteF ⟨_, rfl, _, rfl, a, l, k, rfl, ha, by omega, fun H1 p s1 np r1 => ?_⟩
          refine ⟨p, chop k l, 10, rfl, r1, chop_len, chop_wide hl, by omega, fine_pow (by rw [chop_fine hl]; exact hsm), fun H2 s2 => ?_⟩
          refine ⟨rfl, _, rfl, ite2 (fun h0 => ?_) (fun h0 => ?_)⟩
          · have e0 : Si18.det k (chop k l) = 0 := V.int.inj (of_decide_eq_true h0)
            refine wrong ?_ H2 (s1.trans s2)
            rw [eg, e0, hsm]
            rfl
          · have e0 : Si18.det k (chop k l) ≠ 0 := fun z => h0 (decide_eq_true (by rw [z]))
            have := q H2 (s1.trans s2)
            unfold refuse at this
            rw [if_neg (by rw [hs]; decide), rows_in hs, if_neg (by rw [eg, hsm]; simp [e0])] at this
            exact this
      · rw [decide_eq_false c2]
        refine iteT (beyond ?_)
        cases e : Si18.size n with
        | false => rfl
        | true => exact absurd (size_iff.mp e).2 c2
    · refine ⟨_, rfl, iteT (beyond ?_)⟩
      cases e : Si18.size n with
      | false => rfl
      | true => exact absurd (decide_eq_true (size_iff.mp e).1) h1
/-! ### rows that are taken -/
/-- of an argument that isn't refused -/
theorem taken {n : Int} {l : List Int} (hk : Si18Neutral.long l n (n * n) = true) (h : refuse n l = 0) : ∃ k : Nat, n = (k : Int) ∧ 1 ≤ k ∧ k ≤ 5 ∧ l.length = k * k ∧ Si18.size n = true ∧ Si18Neutral.rowsIn n l = chop k l ∧ Si18.given n (chop k l) = true ∧ Si18.fine (chop k l) = true ∧ Si18.det k (chop k l) ≠ 0 := by
  unfold refuse at h
  by_cases hs : Si18.size n = true
  · rw [if_neg (by rw [hs]; decide)] at h
    have c := size_iff.mp hs
    obtain ⟨k, rfl⟩ : ∃ k : Nat, n = (k : Int) := ⟨n.toNat, by omega⟩
    rw [rows_in hs] at h
    by_cases hg : Si18.given k (chop k l) = true
    · have hg' := hg
      unfold Si18.given at hg
      rw [Bool.and_eq_true] at hg
      refine ⟨k, rfl, by omega, by omega, long_sq hk hs, hs, rows_in hs, hg', hg.1, ?_⟩
      have := hg.2
      simp at this
      exact this
    · rw [if_pos (by simpa using hg)] at h
      cases h
  · rw [if_pos (by simpa using hs)] at h
    cases h
theorem refused {n : Int} {l : List Int} (h : refuse n l ≠ 0) : (Si18.size n = false ∧ refuse n l = -2) ∨ (Si18.size n = true ∧ Si18.given n (Si18Neutral.rowsIn n l) = false ∧ refuse n l = -3) := by
  unfold refuse at h ⊢
  by_cases hs : Si18.size n = false
  · rw [if_pos hs]
    exact .inl ⟨hs, rfl⟩
  · rw [if_neg hs] at h ⊢
    by_cases hg : Si18.given n (Si18Neutral.rowsIn n l) = false
    · rw [if_pos hg]
      exact .inr ⟨by simpa using hs, hg, rfl⟩
    · rw [if_neg hg] at h
      exact absurd rfl h
theorem Rw.chop {H : Hp} {p : Addr} {k : Nat} {l : List Int} (hk : k ≤ 5) (hl : l.length = k * k) (hf : Si18.fine (Gw.chop k l) = true) (r : RowsAt H p (Gw.chop k l)) : Rw H p k 10 (Gw.chop k l) := ⟨r, chop_len, chop_wide hl, hk, fine_pow hf, by omega⟩
theorem pick {α : Type} {a b : Bool} {A B C : α} (h1 : a = true) (h2 : b = true) : (if a = false then A else if b = false then B else C) = C := by
  subst h1 h2
  rfl
theorem pick1 {α : Type} {a b : Bool} {A B C : α} (h1 : a = false) : (if a = false then A else if b = false then B else C) = A := by
  subst h1
  rfl
theorem pick2 {α : Type} {a b : Bool} {A B C : α} (h1 : a = true) (h2 : b = false) : (if a = false then A else if b = false then B else C) = B := by
  subst h1 h2
  rfl
/-! ### same -/
theorem sc_same : FnScope ["n", "a", "b", "numbers"] ["n", "a", "b"] (defScope s_same) := ⟨rfl, rfl, rfl, by decide +kernel, rfl, by decide +kernel, by decide +kernel⟩
def sp_main (K : PySem.W.Frag) : Sp := fun vs H Q _ => ∃ (a b : Addr) (n : Int) (l k : List Int), vs = [.int n, .ref a, .ref b] ∧ SqL K H a (iv l) ∧ SqL K H b (iv k) ∧ PySi18.same_asked n l k = true ∧ ∀ H' p, H' p = some (.lst (iv (PySi18.same n l k))) → Q (.ref p) H'
theorem asked_long {n : Int} {l k : List Int} (h : PySi18.same_asked n l k = true) : Si18Neutral.long l n (n * n) = true ∧ Si18Neutral.long k n (n * n) = true := by
  unfold PySi18.same_asked Si18Neutral.asked at h
  rw [Bool.and_eq_true] at h
  have h1 := h.1
  rw [List.all_cons, Bool.and_eq_true] at h1
  have h2 : (Si18Neutral.whole32 n && (Si18Neutral.long l n (n * n) && Si18Neutral.long k n (n * n))) = true := h1.1
  rw [Bool.and_eq_true, Bool.and_eq_true] at h2
  exact h2.2
theorem w_same (n : Int) (l k : List Int) : PySi18.same n l k = told (if Si18.size n = false then Si18.say (-2) else if (Si18.given n (Si18Neutral.rowsIn n l) && Si18.given n (Si18Neutral.rowsIn n k)) = false then Si18.say (-3) else Si18.say (if Si18.sameB n.toNat (Si18Neutral.rowsIn n l) (Si18Neutral.rowsIn n k) = true then 1 else 0)) := rfl
theorem ok_main (T : Txt K mg) {f : Addr} {fd : FuncData} (F : Dn K mg "same" s_same ["n", "a", "b"] f fd) : FnOk P w K mg base CX0 12 f fd ["n", "a", "b"] (sp_main K) := by
  refine F.F.ok sc_same (fun vs H Q E h => ?_) (fun cdv A outer s H vs Q E hr h => ?_)
  · obtain ⟨a, b, n, l, k, rfl, _⟩ := h
    rfl
  · obtain ⟨a, b, n, l, k, rfl, ha, hb, hk, q⟩ := h
    obtain ⟨hk1, hk2⟩ := asked_long hk
    obtain ⟨f1, fd1, F1⟩ := T.d_refusal
    obtain ⟨f2, fd2, F2⟩ := T.d_are_same
    obtain ⟨f3, fd3, F3⟩ := T.d_rows_of
    have G1 : FnOk P w K mg base CX0 11 f1 fd1 ["n", "numbers"] (sp_refusal K) := (ok_refusal T F1).mono (by omega)
    have G2 : FnOk P w K mg base CX0 11 f2 fd2 ["rows", "others"] sp_are_same := ok_are_same T F2
    have G3 : FnOk P w K mg base CX0 11 f3 fd3 ["n", "numbers"] (sp_rows_of K) := (ok_rows_of T F3).mono (by omega)
    refine ⟨_, pss_cons (ps_for PassesOwn.never rfl (pi_tup (pe_tup (pa_cons (pv 1) (pa_cons (pv 2) pa_nil)))) (pg_name (i := 3) sc_same.nd rfl (.inl rfl))
        (pss_one (ps_if (pt_cmpR op_ne (pe_call G1 hr (by rfl) F1.g F1.F.kp F1.b .nil pass0 (pa_cons (pv 0) (pa_cons (pv 3) pa_nil))) pe_int (nomark _))
          (pss_one (ps_ret (pe_lst (pa_cons (pe_call G1 hr (by rfl) F1.g F1.F.kp F1.b .nil pass0 (pa_cons (pv 0) (pa_cons (pv 3) pa_nil))) pa_nil)))) pss_nil)))
      (pss_one (ps_ret (pe_lst (pa_cons (pe_callTy call_int1 (by rfl) T.b_int (by decide +kernel) (pa_cons (pe_call G2 hr (by rfl) F2.g F2.F.kp F2.b .nil pass0
        (pa_cons (pe_call G3 hr (by rfl) F3.g F3.F.kp F3.b .nil pass0 (pa_cons (pv 0) (pa_cons (pv 1) pa_nil)))
        (pa_cons (pe_call G3 hr (by rfl) F3.g F3.F.kp F3.b .nil pass0 (pa_cons (pv 0) (pa_cons (pv 2) pa_nil))) pa_nil))) pa_nil)) pa_nil)))), ?_⟩
    refine ⟨_, rfl, _, rfl, by show 2 ≤ sizeLine; decide, fun t nt => ?_⟩
    have s0 := same_upd (o := .tup [.ref a, .ref b]) nt
    have no : ∀ x : List Int, (!decide (V.int (refuse n x) = V.int 0)) = true → refuse n x ≠ 0 := fun x h z => by
      rw [z] at h
      cases h
    have yes : ∀ x : List Int, ¬ (!decide (V.int (refuse n x) = V.int 0)) = true → refuse n x = 0 := fun x h => by
      by_cases z : refuse n x = 0
      · exact z
      · rw [decide_eq_false fun w => z (V.int.inj w)] at h
        exact absurd rfl h
    have out : ∀ (x : List Int) (v : V) (H3 : Hp), (∃ p, v = V.ref p ∧ H3 p = some (.lst [.int (refuse n x)])) → PySi18.same n l k = [refuse n x] → Q v H3 := fun x v H3 ⟨p, e1, e2⟩ e3 => by
      subst e1
      refine q H3 p ?_
      rw [e2, e3]
      rfl
    refine ⟨t, rfl, ⟨_, SqT.of upd_same⟩, for_tup (K := K) (a := t) (xs := [.ref a, .ref b]) (fun i σ H' => ∃ y3, σ = [some (.int n), some (.ref a), some (.ref b), y3] ∧ Same H H' ∧ H' t = some (.tup [.ref a, .ref b]) ∧ (1 ≤ i → refuse n l = 0) ∧ (2 ≤ i → refuse n k = 0)) ⟨none, rfl, s0, upd_same, fun z => by omega, fun z => by omega⟩ ?_ ?_ ?_⟩
    · rintro i σ H2 _ ⟨y3, rfl, s2, e2, _⟩
      exact SqT.of e2
    · rintro i v σ H2 hv ⟨y3, rfl, s2, e2, h1, h2⟩
      rcases i with _ | _ | i
      · obtain rfl : V.ref a = v := Option.some.inj hv
        refine ⟨_, rfl, _, rfl, a, n, l, rfl, s2.seq ha, hk1, fun H3 s3 => ⟨rfl, _, rfl, ?_⟩⟩
        refine ite2 (fun hne => ?_) (fun hne => ?_)
        · have hz := no l hne
          refine ⟨_, rfl, _, rfl, a, n, l, rfl, s3.seq (s2.seq ha), hk1, fun H4 s4 => ⟨by show 1 ≤ sizeLine; decide, fun p np => out l _ _ ⟨p, rfl, upd_same⟩ ?_⟩⟩
          rw [w_same]
          rcases refused hz with ⟨c1, c2⟩ | ⟨c1, c2, c3⟩
          · rw [pick1 c1, c2]
            rfl
          · rw [pick2 c1 (by rw [c2, Bool.false_and]), c3]
            rfl
        · have hz := yes l hne
          exact ⟨some (.ref a), rfl, s2.trans s3, s3 _ _ e2, fun _ => hz, fun z => by omega⟩
      · obtain rfl : V.ref b = v := Option.some.inj hv
        refine ⟨_, rfl, _, rfl, b, n, k, rfl, s2.seq hb, hk2, fun H3 s3 => ⟨rfl, _, rfl, ?_⟩⟩
        refine ite2 (fun hne => ?_) (fun hne => ?_)
        · have hz := no k hne
          refine ⟨_, rfl, _, rfl, b, n, k, rfl, s3.seq (s2.seq hb), hk2, fun H4 s4 => ⟨by show 1 ≤ sizeLine; decide, fun p np => out k _ _ ⟨p, rfl, upd_same⟩ ?_⟩⟩
          rw [w_same]
          rcases refused hz with ⟨c1, c2⟩ | ⟨c1, c2, c3⟩
          · rw [pick1 c1, c2]
            rfl
          · rw [pick2 c1 (by rw [c2, Bool.and_false]), c3]
            rfl
        · have hz := yes k hne
          exact ⟨some (.ref b), rfl, s2.trans s3, s3 _ _ e2, fun _ => h1 (by omega), fun _ => hz⟩
      · cases hv
    · rintro σ H2 ⟨y3, rfl, s2, e2, h1, h2⟩
      have z1 := h1 (by show 1 ≤ 2; omega)
      have z2 := h2 (by show 2 ≤ 2; omega)
      obtain ⟨u, rfl, u1, u5, hl, hs, er, hg, hf, hd⟩ := taken hk1 z1
      obtain ⟨u', eu, _, _, hl', _, er', hg', hf', hd'⟩ := taken hk2 z2
      obtain rfl : u' = u := by omega
      refine ⟨_, rfl, _, rfl, a, l, u', rfl, s2.seq ha, u5, fun H3 p s3 np r3 => ?_⟩
      refine ⟨_, rfl, _, rfl, b, k, u', rfl, s3.seq (s2.seq hb), u5, fun H4 p4 s4 np4 r4 => ?_⟩
      refine ⟨p, p4, chop u' l, chop u' k, u', 10, rfl, Rw.chop u5 hl hf (r3.same s4), hd, Rw.chop u5 hl' hf' r4, hd', fun H5 s5 => ?_⟩
      refine .inr ⟨_, rfl, by show 1 ≤ sizeLine; decide, fun v nv => q _ v ?_⟩
      rw [upd_same, w_same, er, er', pick hs (by rw [hg, hg']; rfl)]
      rfl
end
theorem all_mk {P : Program} {w : World} {K : PySem.W.Frag} {h : Heap} {mg : Str → Option Value} {fa f0 f1 f2 f3 f4 f5 f6 f7 f8 f9 f10 : Addr} (X : K.In h) (G : h.Ns mainGlobals mg) (hfa : mg "same" = some (.ref fa))
    {od0 an0 od1 an1 od2 an2 od3 an3 od4 an4 od5 an5 od6 an6 od7 an7 od8 an8 od9 an9 od10 an10 : Option Addr} {sl0 sl1 sl2 sl3 sl4 sl5 sl6 sl7 sl8 sl9 sl10 : Array (Option Value)} {oc0 kV0 dc0 pm0 cd0 ct0 oc1 kV1 dc1 pm1 cd1 ct1 oc2 kV2 dc2 pm2 cd2 ct2 oc3 kV3 dc3 pm3 cd3 ct3 oc4 kV4 dc4 pm4 cd4 ct4 oc5 kV5 dc5 pm5 cd5 ct5 oc6 kV6 dc6 pm6 cd6 ct6 oc7 kV7 dc7 pm7 cd7 ct7 oc8 kV8 dc8 pm8 cd8 ct8 oc9 kV9 dc9 pm9 cd9 ct9 oc10 kV10 dc10 pm10 cd10 ct10 : Value} {t0 t1 t2 t3 : Tok}
    (a0 : PySem.W.nsIn K mainGlobals "product" = some (some (.ref f0))) (l0 : K.lookup f0 = some ⟨oc0, od0, .func (PySem.W.fnOf "product" "product" (defArgs s_product) (defBody s_product) (defScope s_product) .none kV0 dc0 pm0 an0 cd0 ct0), sl0⟩) (c0 : PySem.W.codeIn K cd0 "product" = true) (k0 : PySem.W.keepIn K (.ref f0) = true)
    (a1 : PySem.W.nsIn K mainGlobals "without" = some (some (.ref f1))) (l1 : K.lookup f1 = some ⟨oc1, od1, .func (PySem.W.fnOf "without" "without" (defArgs s_without) (defBody s_without) (defScope s_without) .none kV1 dc1 pm1 an1 cd1 ct1), sl1⟩) (c1 : PySem.W.codeIn K cd1 "without" = true) (k1 : PySem.W.keepIn K (.ref f1) = true)
    (a2 : PySem.W.nsIn K mainGlobals "determinant" = some (some (.ref f2))) (l2 : K.lookup f2 = some ⟨oc2, od2, .func (PySem.W.fnOf "determinant" "determinant" (defArgs s_determinant) (defBody s_determinant) (defScope s_determinant) .none kV2 dc2 pm2 an2 cd2 ct2), sl2⟩) (c2 : PySem.W.codeIn K cd2 "determinant" = true) (k2 : PySem.W.keepIn K (.ref f2) = true)
    (a3 : PySem.W.nsIn K mainGlobals "cofactors" = some (some (.ref f3))) (l3 : K.lookup f3 = some ⟨oc3, od3, .func (PySem.W.fnOf "cofactors" "cofactors" (defArgs s_cofactors) (defBody s_cofactors) (defScope s_cofactors) .none kV3 dc3 pm3 an3 cd3 ct3), sl3⟩) (c3 : PySem.W.codeIn K cd3 "cofactors" = true) (k3 : PySem.W.keepIn K (.ref f3) = true)
    (a4 : PySem.W.nsIn K mainGlobals "upright" = some (some (.ref f4))) (l4 : K.lookup f4 = some ⟨oc4, od4, .func (PySem.W.fnOf "upright" "upright" (defArgs s_upright) (defBody s_upright) (defScope s_upright) .none kV4 dc4 pm4 an4 cd4 ct4), sl4⟩) (c4 : PySem.W.codeIn K cd4 "upright" = true) (k4 : PySem.W.keepIn K (.ref f4) = true)
    (a5 : PySem.W.nsIn K mainGlobals "lies_in" = some (some (.ref f5))) (l5 : K.lookup f5 = some ⟨oc5, od5, .func (PySem.W.fnOf "lies_in" "lies_in" (defArgs s_lies_in) (defBody s_lies_in) (defScope s_lies_in) .none kV5 dc5 pm5 an5 cd5 ct5), sl5⟩) (c5 : PySem.W.codeIn K cd5 "lies_in" = true) (k5 : PySem.W.keepIn K (.ref f5) = true)
    (a6 : PySem.W.nsIn K mainGlobals "are_same" = some (some (.ref f6))) (l6 : K.lookup f6 = some ⟨oc6, od6, .func (PySem.W.fnOf "are_same" "are_same" (defArgs s_are_same) (defBody s_are_same) (defScope s_are_same) .none kV6 dc6 pm6 an6 cd6 ct6), sl6⟩) (c6 : PySem.W.codeIn K cd6 "are_same" = true) (k6 : PySem.W.keepIn K (.ref f6) = true)
    (a7 : PySem.W.nsIn K mainGlobals "rows_of" = some (some (.ref f7))) (l7 : K.lookup f7 = some ⟨oc7, od7, .func (PySem.W.fnOf "rows_of" "rows_of" (defArgs s_rows_of) (defBody s_rows_of) (defScope s_rows_of) .none kV7 dc7 pm7 an7 cd7 ct7), sl7⟩) (c7 : PySem.W.codeIn K cd7 "rows_of" = true) (k7 : PySem.W.keepIn K (.ref f7) = true)
    (a8 : PySem.W.nsIn K mainGlobals "are_small" = some (some (.ref f8))) (l8 : K.lookup f8 = some ⟨oc8, od8, .func (PySem.W.fnOf "are_small" "are_small" (defArgs s_are_small) (defBody s_are_small) (defScope s_are_small) .none kV8 dc8 pm8 an8 cd8 ct8), sl8⟩) (c8 : PySem.W.codeIn K cd8 "are_small" = true) (k8 : PySem.W.keepIn K (.ref f8) = true)
    (a9 : PySem.W.nsIn K mainGlobals "refusal" = some (some (.ref f9))) (l9 : K.lookup f9 = some ⟨oc9, od9, .func (PySem.W.fnOf "refusal" "refusal" (defArgs s_refusal) (defBody s_refusal) (defScope s_refusal) .none kV9 dc9 pm9 an9 cd9 ct9), sl9⟩) (c9 : PySem.W.codeIn K cd9 "refusal" = true) (k9 : PySem.W.keepIn K (.ref f9) = true)
    (a10 : PySem.W.nsIn K mainGlobals "same" = some (some (.ref f10))) (l10 : K.lookup f10 = some ⟨oc10, od10, .func (PySem.W.fnOf "same" "same" (defArgs s_same) (defBody s_same) (defScope s_same) .none kV10 dc10 pm10 an10 cd10 ct10), sl10⟩) (c10 : PySem.W.codeIn K cd10 "same" = true) (k10 : PySem.W.keepIn K (.ref f10) = true)
    (m0 : PySem.W.nsIn K mainGlobals "BEYOND" = some (some (.int (-2) t0)))
    (m1 : PySem.W.nsIn K mainGlobals "WRONG" = some (some (.int (-3) t1)))
    (m2 : PySem.W.nsIn K mainGlobals "MOST_ROWS" = some (some (.int (5) t2)))
    (m3 : PySem.W.nsIn K mainGlobals "MOST" = some (some (.int (1000) t3)))
    (z0 : PySem.W.nsIn K mainGlobals "len" = some none)
    (z1 : PySem.W.nsIn K mainGlobals "range" = some none)
    (z2 : PySem.W.nsIn K mainGlobals "zip" = some none)
    (z3 : PySem.W.nsIn K mainGlobals "int" = some none)
    : ∃ fd : FuncData, (∀ (s : Shared) (us : List Value), us.length = (["n", "a", "b"] : List Str).length → BindsTo s fd ⟨us, []⟩ ((["n", "a", "b"] : List Str).zip us)) ∧ ∀ base : Heap, K.In base → base.Ns mainGlobals mg → FnOk P w K mg base CX0 12 fa fd ["n", "a", "b"] (sp_main K) := by
  have e := hfa.symm.trans (PySem.W.mg_of X G a10)
  cases e
  have F0 := fun_mk (st := s_product) l0 c0 k0
  have D0 : Dn K mg "product" s_product ["one", "other"] _ _ := ⟨F0, F0.binds (ps := ["one", "other"]) fun _ _ _ _ _ _ us hl => match us, hl with | [_, _], _ => rfl, PySem.W.mg_of X G a0⟩
  have F1 := fun_mk (st := s_without) l1 c1 k1
  have D1 : Dn K mg "without" s_without ["row", "column"] _ _ := ⟨F1, F1.binds (ps := ["row", "column"]) fun _ _ _ _ _ _ us hl => match us, hl with | [_, _], _ => rfl, PySem.W.mg_of X G a1⟩
  have F2 := fun_mk (st := s_determinant) l2 c2 k2
  have D2 : Dn K mg "determinant" s_determinant ["rows"] _ _ := ⟨F2, F2.binds (ps := ["rows"]) fun _ _ _ _ _ _ us hl => match us, hl with | [_], _ => rfl, PySem.W.mg_of X G a2⟩
  have F3 := fun_mk (st := s_cofactors) l3 c3 k3
  have D3 : Dn K mg "cofactors" s_cofactors ["rows", "k"] _ _ := ⟨F3, F3.binds (ps := ["rows", "k"]) fun _ _ _ _ _ _ us hl => match us, hl with | [_, _], _ => rfl, PySem.W.mg_of X G a3⟩
  have F4 := fun_mk (st := s_upright) l4 c4 k4
  have D4 : Dn K mg "upright" s_upright ["rows"] _ _ := ⟨F4, F4.binds (ps := ["rows"]) fun _ _ _ _ _ _ us hl => match us, hl with | [_], _ => rfl, PySem.W.mg_of X G a4⟩
  have F5 := fun_mk (st := s_lies_in) l5 c5 k5
  have D5 : Dn K mg "lies_in" s_lies_in ["rows", "row"] _ _ := ⟨F5, F5.binds (ps := ["rows", "row"]) fun _ _ _ _ _ _ us hl => match us, hl with | [_, _], _ => rfl, PySem.W.mg_of X G a5⟩
  have F6 := fun_mk (st := s_are_same) l6 c6 k6
  have D6 : Dn K mg "are_same" s_are_same ["rows", "others"] _ _ := ⟨F6, F6.binds (ps := ["rows", "others"]) fun _ _ _ _ _ _ us hl => match us, hl with | [_, _], _ => rfl, PySem.W.mg_of X G a6⟩
  have F7 := fun_mk (st := s_rows_of) l7 c7 k7
  have D7 : Dn K mg "rows_of" s_rows_of ["n", "numbers"] _ _ := ⟨F7, F7.binds (ps := ["n", "numbers"]) fun _ _ _ _ _ _ us hl => match us, hl with | [_, _], _ => rfl, PySem.W.mg_of X G a7⟩
  have F8 := fun_mk (st := s_are_small) l8 c8 k8
  have D8 : Dn K mg "are_small" s_are_small ["numbers"] _ _ := ⟨F8, F8.binds (ps := ["numbers"]) fun _ _ _ _ _ _ us hl => match us, hl with | [_], _ => rfl, PySem.W.mg_of X G a8⟩
  have F9 := fun_mk (st := s_refusal) l9 c9 k9
  have D9 : Dn K mg "refusal" s_refusal ["n", "numbers"] _ _ := ⟨F9, F9.binds (ps := ["n", "numbers"]) fun _ _ _ _ _ _ us hl => match us, hl with | [_, _], _ => rfl, PySem.W.mg_of X G a9⟩
  have F10 := fun_mk (st := s_same) l10 c10 k10
  have D10 : Dn K mg "same" s_same ["n", "a", "b"] _ _ := ⟨F10, F10.binds (ps := ["n", "a", "b"]) fun _ _ _ _ _ _ us hl => match us, hl with | [_, _, _], _ => rfl, PySem.W.mg_of X G a10⟩
  have T : Txt K mg := ⟨⟨_, _, D0⟩, ⟨_, _, D1⟩, ⟨_, _, D2⟩, ⟨_, _, D3⟩, ⟨_, _, D4⟩, ⟨_, _, D5⟩, ⟨_, _, D6⟩, ⟨_, _, D7⟩, ⟨_, _, D8⟩, ⟨_, _, D9⟩, ⟨_, _, D10⟩, ⟨_, PySem.W.mg_of X G m0⟩, ⟨_, PySem.W.mg_of X G m1⟩, ⟨_, PySem.W.mg_of X G m2⟩, ⟨_, PySem.W.mg_of X G m3⟩, PySem.W.mg_none_of X G z0, PySem.W.mg_none_of X G z1, PySem.W.mg_none_of X G z2, PySem.W.mg_none_of X G z3⟩
  exact ⟨PySem.W.fnOf "same" "same" (defArgs s_same) (defBody s_same) (defScope s_same) .none kV10 dc10 pm10 an10 cd10 ct10, fun s us hu => match us, hu with | [_, _, _], _ => .of_eq rfl, fun base _ _ => ok_main T D10⟩
end Gw
open PySem PySem.W PyProof.Rows
set_option maxRecDepth 100000 in
set_option maxHeartbeats 8000000 in
theorem PySem.Challenge.cw_gridsteps_s02_same_holds : PySem.Challenge.rw_gridsteps_s02_same.Holds := by
  w_on; k_headS; (case hw => exact ⟨[.int 0, .list [], .list []], by decide +kernel, by decide +kernel⟩)
  k_fillS
  refine L2.walk_specK (r := PySem.Challenge.rw_gridsteps_s02_same) (k := 12) (CX := L2.CX0) (ps := ["n", "a", "b"]) (sp := Gw.sp_main) (by decide +kernel) rfl rfl ⟨rfl, by decide, by decide⟩ (fun w h Y => PySem.W.kIn_of Y) ?F ?S (fun _ _ _ _ z => z)
  case F =>
    intro w mg fa h Y KX G hmg
    refine' Gw.all_mk KX G hmg ?a0 ?l0 ?c0 ?k0 ?a1 ?l1 ?c1 ?k1 ?a2 ?l2 ?c2 ?k2 ?a3 ?l3 ?c3 ?k3 ?a4 ?l4 ?c4 ?k4 ?a5 ?l5 ?c5 ?k5 ?a6 ?l6 ?c6 ?k6 ?a7 ?l7 ?c7 ?k7 ?a8 ?l8 ?c8 ?k8 ?a9 ?l9 ?c9 ?k9 ?a10 ?l10 ?c10 ?k10 ?m0 ?m1 ?m2 ?m3 ?z0 ?z1 ?z2 ?z3
    (case a0 => k_is)
    (case l0 => k_is)
    (case c0 => k_is)
    (case k0 => k_is)
    (case a1 => k_is)
    (case l1 => k_is)
    (case c1 => k_is)
    (case k1 => k_is)
    (case a2 => k_is)
    (case l2 => k_is)
    (case c2 => k_is)
    (case k2 => k_is)
    (case a3 => k_is)
    (case l3 => k_is)
    (case c3 => k_is)
    (case k3 => k_is)
    (case a4 => k_is)
    (case l4 => k_is)
    (case c4 => k_is)
    (case k4 => k_is)
    (case a5 => k_is)
    (case l5 => k_is)
    (case c5 => k_is)
    (case k5 => k_is)
    (case a6 => k_is)
    (case l6 => k_is)
    (case c6 => k_is)
    (case k6 => k_is)
    (case a7 => k_is)
    (case l7 => k_is)
    (case c7 => k_is)
    (case k7 => k_is)
    (case a8 => k_is)
    (case l8 => k_is)
    (case c8 => k_is)
    (case k8 => k_is)
    (case a9 => k_is)
    (case l9 => k_is)
    (case c9 => k_is)
    (case k9 => k_is)
    (case a10 => k_is)
    (case l10 => k_is)
    (case c10 => k_is)
    (case k10 => k_is)
    (case m0 => k_is)
    (case m1 => k_is)
    (case m2 => k_is)
    (case m3 => k_is)
    (case z0 => k_is)
    (case z1 => k_is)
    (case z2 => k_is)
    (case z3 => k_is)
  case S =>
    intro K H xs a hO hwi hask hx
    obtain ⟨n, l, k, u⟩ := a
    cases hx with
    | cons h1 h2 =>
      cases h2 with
      | cons h2 h3 =>
        cases h3 with
        | cons h3 h4 =>
          cases h4
          cases h1
          cases h2 with
          | lst hs ha =>
            cases h3 with
            | lst hs2 ha2 =>
              have e := L2.ints_dw l _ ha
              have e2 := L2.ints_dw k _ ha2
              subst e
              subst e2
              exact ⟨_, _, n, l, k, rfl, hs, hs2, hask, fun H' p hp => .lst (L2.SqL.of hp) (L2.dw_ints _)⟩
#print axioms PySem.Challenge.cw_gridsteps_s02_same_holds
