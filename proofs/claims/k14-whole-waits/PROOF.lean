import PyProof.Rows.All
import HandS.ForMost
import HandS.Deep
import HandS.IsInst
import HandS.Wide
import HandS.TupAny
import HandS.Style
import HandS.Zip
import HandS.Conv
import HandS.DictTup
import HandS.DictComp
import HandS.Flow
import HandS.SortInts
import HandS.Star
import KE.SortData
import KE.KDictDisplayH
import KE.KDictPairs
import KE.KDictKeyed
import KE.KDictWalk
import PyProof.CompFree
import KE.KDictCopyH
import HandS.Walk
import HandS.Ends
import HandS.EndBits
import PySem.Challenge.RW_chancestrokes_k14_whole_waits
/-! determinants over Rat, by expansion along the first column -/
set_option linter.all false
namespace Cs
abbrev Mat := Nat → Nat → Rat
/-- sum of f 0 .. f (n-1) -/
def sm (n : Nat) (f : Nat → Rat) : Rat := match n with
  | 0 => 0
  | n + 1 => sm n f + f n
theorem sm_congr {n : Nat} {f g : Nat → Rat} (h : ∀ i, i < n → f i = g i) : sm n f = sm n g := by
  induction n with
  | zero => rfl
  | succ n ih => simp only [sm]; rw [ih (fun i hi => h i (by omega)), h n (by omega)]
theorem sm_zero {n : Nat} {f : Nat → Rat} (h : ∀ i, i < n → f i = 0) : sm n f = 0 := by
  induction n with
  | zero => rfl
  | succ n ih => simp only [sm]; rw [ih (fun i hi => h i (by omega)), h n (by omega)]; grind
theorem sm_add (n : Nat) (f g : Nat → Rat) : sm n (fun i => f i + g i) = sm n f + sm n g := by
  induction n with
  | zero => simp only [sm]; grind
  | succ n ih => simp only [sm]; rw [ih]; grind
theorem sm_mul (n : Nat) (c : Rat) (f : Nat → Rat) : sm n (fun i => c * f i) = c * sm n f := by
  induction n with
  | zero => simp only [sm]; grind
  | succ n ih => simp only [sm]; rw [ih]; grind
theorem sm_one {n k : Nat} {f : Nat → Rat} (hk : k < n) (h : ∀ i, i < n → i ≠ k → f i = 0) : sm n f = f k := by
  induction n with
  | zero => omega
  | succ n ih =>
    simp only [sm]
    by_cases e : k = n
    · subst e
      rw [sm_zero (fun i hi => h i (by omega) (by omega))]; grind
    · rw [ih (by omega) (fun i hi => h i (by omega)), h n (by omega) (by omega)]; grind
theorem sm_two {n k l : Nat} {f : Nat → Rat} (hk : k < n) (hl : l < n) (hkl : k < l) (h : ∀ i, i < n → i ≠ k → i ≠ l → f i = 0) : sm n f = f k + f l := by
  induction n with
  | zero => omega
  | succ n ih =>
    simp only [sm]
    by_cases e : l = n
    · subst e
      rw [sm_one (k := k) (by omega) (fun i hi hk' => h i (by omega) hk' (by omega))]
    · rw [ih (by omega) (by omega) (fun i hi => h i (by omega)), h n (by omega) (by omega) (by omega)]; grind
theorem sm_comm (n m : Nat) (f : Nat → Nat → Rat) : sm n (fun i => sm m (fun j => f i j)) = sm m (fun j => sm n (fun i => f i j)) := by
  induction n with
  | zero => simp only [sm]; rw [sm_zero (fun _ _ => rfl)]
  | succ n ih => simp only [sm]; rw [sm_add, ih]

/-- the sign of the i-th place -/
def sg (i : Nat) : Rat := if i % 2 = 0 then 1 else -1
theorem sg_succ (i : Nat) : sg (i + 1) = - sg i := by
  unfold sg
  by_cases h : i % 2 = 0
  · rw [if_pos h, if_neg (by omega)]
  · rw [if_neg h, if_pos (by omega)]; grind
/-- skip the i-th -/
def sk (i r : Nat) : Nat := if r < i then r else r + 1
def minor (A : Mat) (i : Nat) : Mat := fun r c => A (sk i r) (c + 1)
def det : Nat → Mat → Rat
  | 0, _ => 1
  | m + 1, A => sm (m + 1) fun i => sg i * A i 0 * det m (minor A i)
theorem det_congr : ∀ {m : Nat} {A B : Mat}, (∀ r c, r < m → c < m → A r c = B r c) → det m A = det m B
  | 0, _, _, _ => rfl
  | m + 1, A, B, h => by
    simp only [det]
    refine sm_congr fun i hi => ?_
    rw [h i 0 hi (by omega), det_congr (A := minor A i) (B := minor B i) fun r c hr hc => ?_]
    unfold minor sk
    by_cases q : r < i
    · rw [if_pos q]; exact h _ _ (by omega) (by omega)
    · rw [if_neg q]; exact h _ _ (by omega) (by omega)
/-- the row p replaced -/
def row (A : Mat) (p : Nat) (v : Nat → Rat) : Mat := fun r c => if r = p then v c else A r c
theorem minor_row_same (A : Mat) (p : Nat) (v : Nat → Rat) : ∀ r c, minor (row A p v) p r c = minor A p r c := fun r c => by
  simp only [minor, row, sk]
  grind
theorem minor_row_lt (A : Mat) {p i : Nat} (h : p < i) (v : Nat → Rat) : ∀ r c, minor (row A p v) i r c = row (minor A i) p (fun c => v (c + 1)) r c := fun r c => by
  simp only [minor, row, sk]
  grind
theorem minor_row_gt (A : Mat) {p i : Nat} (h : i < p) (v : Nat → Rat) : ∀ r c, minor (row A p v) i r c = row (minor A i) (p - 1) (fun c => v (c + 1)) r c := fun r c => by
  simp only [minor, row, sk]
  grind
/-- linear in each row -/
theorem det_lin : ∀ (m : Nat) (A : Mat) (p : Nat) (a b : Rat) (u v : Nat → Rat), p < m → det m (row A p fun c => a * u c + b * v c) = a * det m (row A p u) + b * det m (row A p v)
  | 0, _, _, _, _, _, _, h => by omega
  | m + 1, A, p, a, b, u, v, h => by
    simp only [det]
    rw [← sm_mul, ← sm_mul, ← sm_add]
    refine sm_congr fun i hi => ?_
    by_cases e : i = p
    · subst e
      rw [det_congr (fun r c _ _ => minor_row_same A i _ r c), det_congr (fun r c _ _ => minor_row_same A i u r c), det_congr (fun r c _ _ => minor_row_same A i v r c)]
      simp only [row, if_true]
      grind
    · have e0 : ∀ w : Nat → Rat, row A p w i 0 = A i 0 := fun w => by unfold row; rw [if_neg e]
      rw [e0, e0, e0]
      by_cases q : p < i
      · rw [det_congr (fun r c _ _ => minor_row_lt A q _ r c), det_congr (fun r c _ _ => minor_row_lt A q u r c), det_congr (fun r c _ _ => minor_row_lt A q v r c)]
        rw [det_lin m (minor A i) p a b (fun c => u (c + 1)) (fun c => v (c + 1)) (by omega)]
        grind
      · have q' : i < p := by omega
        rw [det_congr (fun r c _ _ => minor_row_gt A q' _ r c), det_congr (fun r c _ _ => minor_row_gt A q' u r c), det_congr (fun r c _ _ => minor_row_gt A q' v r c)]
        rw [det_lin m (minor A i) (p - 1) a b (fun c => u (c + 1)) (fun c => v (c + 1)) (by omega)]
        grind
theorem row_self (A : Mat) (p : Nat) : ∀ r c, row A p (A p) r c = A r c := fun r c => by
  unfold row
  by_cases e : r = p
  · subst e; rw [if_pos rfl]
  · rw [if_neg e]
theorem det_scale (m : Nat) (A : Mat) (p : Nat) (a : Rat) (h : p < m) : det m (row A p fun c => a * A p c) = a * det m A := by
  have z := det_lin m A p a 0 (A p) (A p) h
  rw [det_congr (A := row A p (A p)) (B := A) (fun r c _ _ => row_self A p r c)] at z
  rw [det_congr (A := row A p fun c => a * A p c) (B := row A p fun c => a * A p c + 0 * A p c) (fun r c _ _ => by unfold row; split <;> grind), z]
  grind
theorem det_zero_row (m : Nat) (A : Mat) (p : Nat) (h : p < m) (h0 : ∀ c, c < m → A p c = 0) : det m A = 0 := by
  have z := det_scale m A p 0 h
  rw [det_congr (A := row A p fun c => 0 * A p c) (B := A)] at z
  · grind
  · intro r c _ hc
    unfold row
    by_cases e : r = p
    · subst e; rw [if_pos rfl, h0 c hc]; grind
    · rw [if_neg e]
/-- two equal rows, one behind another -/
theorem det_adj : ∀ (m : Nat) (A : Mat) (p : Nat), p + 1 < m → (∀ c, c < m → A p c = A (p + 1) c) → det m A = 0
  | 0, _, _, h, _ => by omega
  | m + 1, A, p, h, he => by
    simp only [det]
    rw [sm_two (k := p) (l := p + 1) (by omega) (by omega) (by omega) (fun i hi h1 h2 => ?_)]
    · have e : det m (minor A p) = det m (minor A (p + 1)) := det_congr fun r c hr hc => by
        unfold minor sk
        by_cases q : r < p
        · rw [if_pos q, if_pos (by omega)]
        · by_cases q2 : r = p
          · subst q2; rw [if_neg q, if_pos (by omega)]; exact (he (c + 1) (by omega)).symm
          · rw [if_neg q, if_neg (by omega)]
      rw [e, sg_succ, he 0 (by omega)]
      grind
    · have hz : det m (minor A i) = 0 := by
        by_cases q : i < p
        · refine det_adj m (minor A i) (p - 1) (by omega) fun c hc => ?_
          unfold minor sk
          rw [if_neg (by omega), if_neg (by omega), show p - 1 + 1 = p by omega]
          exact he _ (by omega)
        · refine det_adj m (minor A i) p (by omega) fun c hc => ?_
          unfold minor sk
          rw [if_pos (by omega), if_pos (by omega)]
          exact he _ (by omega)
      rw [hz]; grind
/-- rows p and p + 1 changed for one another -/
def swp (A : Mat) (p : Nat) : Mat := row (row A p (A (p + 1))) (p + 1) (A p)
theorem det_swp (m : Nat) (A : Mat) (p : Nat) (h : p + 1 < m) : det m (swp A p) = - det m A := by
  -- rows u + v, u + v
  let B (x y : Nat → Rat) : Mat := row (row A p x) (p + 1) y
  have l2 : ∀ x u v, det m (B x (fun c => 1 * u c + 1 * v c)) = det m (B x u) + det m (B x v) := fun x u v => by
    have z := det_lin m (row A p x) (p + 1) 1 1 u v h
    show det m (row (row A p x) (p + 1) fun c => 1 * u c + 1 * v c) = _
    rw [z]; show 1 * det m (B x u) + 1 * det m (B x v) = _; grind
  have com : ∀ x y r c, B x y r c = row (row A (p + 1) y) p x r c := fun x y r c => by
    show row (row A p x) (p + 1) y r c = _
    unfold row
    by_cases e : r = p
    · subst e; rw [if_neg (by omega), if_pos rfl, if_pos rfl]
    · rw [if_neg e, if_neg e]
  have l1 : ∀ y u v, det m (B (fun c => 1 * u c + 1 * v c) y) = det m (B u y) + det m (B v y) := fun y u v => by
    rw [det_congr (fun r c _ _ => com _ y r c), det_congr (A := B u y) (fun r c _ _ => com _ y r c), det_congr (A := B v y) (fun r c _ _ => com _ y r c)]
    have z := det_lin m (row A (p + 1) y) p 1 1 u v (by omega)
    rw [z]; grind
  have same : ∀ x, det m (B x x) = 0 := fun x => det_adj m _ p h fun c _ => by
    show row (row A p x) (p + 1) x p c = row (row A p x) (p + 1) x (p + 1) c
    unfold row
    rw [if_neg (by omega), if_pos rfl, if_pos rfl]
  have z := same (fun c => 1 * A p c + 1 * A (p + 1) c)
  rw [l1, l2, l2, same, same] at z
  have e1 : det m (B (A p) (A (p + 1))) = det m A := det_congr fun r c _ _ => by
    show row (row A p (A p)) (p + 1) (A (p + 1)) r c = A r c
    unfold row
    by_cases e : r = p + 1
    · rw [if_pos e, e]
    · rw [if_neg e]
      by_cases e' : r = p
      · rw [if_pos e', e']
      · rw [if_neg e']
  have e2 : det m (swp A p) = det m (B (A (p + 1)) (A p)) := rfl
  rw [e1] at z
  rw [e2]
  grind
theorem det_same : ∀ (d m : Nat) (A : Mat) (p : Nat), p + 1 + d < m → (∀ c, c < m → A p c = A (p + 1 + d) c) → det m A = 0
  | 0, m, A, p, h, he => det_adj m A p h he
  | d + 1, m, A, p, h, he => by
    have z := det_swp m A (p + 1 + d) (by omega)
    have q : det m (swp A (p + 1 + d)) = 0 := det_same d m _ p (by omega) fun c hc => by
      unfold swp row
      rw [if_neg (by omega), if_neg (by omega), if_neg (by omega), if_pos rfl]
      rw [he c hc, show p + 1 + (d + 1) = p + 1 + d + 1 by omega]
    rw [q] at z
    grind
theorem det_eqrows (m : Nat) (A : Mat) {p q : Nat} (hp : p < m) (hq : q < m) (h : p ≠ q) (he : ∀ c, c < m → A p c = A q c) : det m A = 0 := by
  by_cases l : p < q
  · exact det_same (q - p - 1) m A p (by omega) fun c hc => by rw [show p + 1 + (q - p - 1) = q by omega]; exact he c hc
  · exact det_same (p - q - 1) m A q (by omega) fun c hc => by rw [show q + 1 + (p - q - 1) = p by omega]; exact (he c hc).symm
/-- a multiple of another row added -/
theorem det_addrow (m : Nat) (A : Mat) {p q : Nat} (hp : p < m) (hq : q < m) (h : p ≠ q) (f : Rat) : det m (row A p fun c => A p c + f * A q c) = det m A := by
  have z := det_lin m A p 1 f (A p) (A q) hp
  have z2 : det m (row A p (A q)) = 0 := det_eqrows m _ hp hq h fun c _ => by
    unfold row
    rw [if_pos rfl, if_neg (fun e => h e.symm)]
  rw [z2, det_congr (A := row A p (A p)) (B := A) (fun r c _ _ => row_self A p r c)] at z
  rw [det_congr (B := row A p fun c => 1 * A p c + f * A q c) (fun r c _ _ => by unfold row; split <;> grind), z]
  grind
/-- multiples of the row q added to the rows below n, but q -/
theorem det_addrows (m : Nat) (A : Mat) {q : Nat} (hq : q < m) (f : Nat → Rat) : ∀ n, n ≤ m → det m (fun r c => if r < n ∧ r ≠ q then A r c + f r * A q c else A r c) = det m A
  | 0, _ => det_congr fun r c _ _ => by rw [if_neg (by omega)]
  | n + 1, hn => by
    rw [← det_addrows m A hq f n (by omega)]
    by_cases e : n = q
    · refine det_congr fun r c _ _ => ?_
      by_cases l : r < n
      · rw [if_pos (by omega), if_pos (by omega)]
      · rw [if_neg (by omega), if_neg (by omega)]
    · rw [← det_addrow m (fun r c => if r < n ∧ r ≠ q then A r c + f r * A q c else A r c) (p := n) (q := q) (by omega) hq e (f n)]
      refine det_congr fun r c _ _ => ?_
      simp only [row]
      grind
/-- integers with one low number, and how great -/
theorem det_int (W C : Nat) (hC : 1 ≤ C) : ∀ (m : Nat) (A : Mat), (∀ r c, r < m → c < m → ∃ z : Int, A r c * (W : Rat) = (z : Rat) ∧ z.natAbs ≤ C) →
    ∃ D : Int, det m A * (W : Rat) ^ m = (D : Rat) ∧ D.natAbs ≤ (m * C) ^ m
  | 0, A, _ => ⟨1, by simp only [det]; grind, by simp⟩
  | m + 1, A, h => by
    have part : ∀ i, i < m + 1 → ∃ D : Int, sg i * A i 0 * det m (minor A i) * (W : Rat) ^ (m + 1) = (D : Rat) ∧ D.natAbs ≤ C * (m * C) ^ m := fun i hi => by
      obtain ⟨z, hz, bz⟩ := h i 0 hi (by omega)
      obtain ⟨d, hd, bd⟩ := det_int W C hC m (minor A i) fun r c hr hc => by
        unfold minor sk
        by_cases q : r < i
        · rw [if_pos q]; exact h _ _ (by omega) (by omega)
        · rw [if_neg q]; exact h _ _ (by omega) (by omega)
      have b : (z * d).natAbs ≤ C * (m * C) ^ m := by rw [Int.natAbs_mul]; exact Nat.mul_le_mul bz bd
      have e : A i 0 * det m (minor A i) * (W : Rat) ^ (m + 1) = ((z * d : Int) : Rat) := by
        rw [Rat.intCast_mul, ← hz, ← hd]
        grind
      unfold sg
      split
      · exact ⟨z * d, by rw [← e]; grind, b⟩
      · exact ⟨-(z * d), by rw [Rat.intCast_neg, ← e]; grind, by rw [Int.natAbs_neg]; exact b⟩
    have tot : ∀ n, n ≤ m + 1 → ∃ D : Int, sm n (fun i => sg i * A i 0 * det m (minor A i)) * (W : Rat) ^ (m + 1) = (D : Rat) ∧ D.natAbs ≤ n * (C * (m * C) ^ m) := fun n => by
      induction n with
      | zero => intro _; exact ⟨0, by simp only [sm]; grind, by simp⟩
      | succ n ih =>
        intro hn
        obtain ⟨D, e, b⟩ := ih (by omega)
        obtain ⟨D', e', b'⟩ := part n (by omega)
        refine ⟨D + D', by simp only [sm]; rw [Rat.intCast_add, ← e, ← e']; grind, ?_⟩
        have := Int.natAbs_add_le D D'
        rw [Nat.add_mul, Nat.one_mul]
        omega
    obtain ⟨D, e, b⟩ := tot (m + 1) (Nat.le_refl _)
    refine ⟨D, e, Nat.le_trans b ?_⟩
    have h1 : (m * C) ^ m ≤ ((m + 1) * C) ^ m := Nat.pow_le_pow_left (Nat.mul_le_mul_right _ (by omega)) _
    calc (m + 1) * (C * (m * C) ^ m) ≤ (m + 1) * (C * ((m + 1) * C) ^ m) := Nat.mul_le_mul_left _ (Nat.mul_le_mul_left _ h1)
      _ = ((m + 1) * C) ^ (m + 1) := by rw [Nat.pow_succ, ← Nat.mul_assoc, Nat.mul_comm]
end Cs

/-! Gauss and Jordan without changes of rows: kernel, sizes -/
set_option linter.all false
namespace Cs
/-- one step at the pivot k -/
def step (k : Nat) (A : Mat) : Mat := fun i j => if i = k then A k j / A k k else A i j - A i k * (A k j / A k k)
def steps : Nat → Mat → Mat
  | 0, A => A
  | k + 1, A => step k (steps k A)
/-- the first k columns are unit columns (rows below n) -/
theorem steps_unit (n : Nat) (A : Mat) : ∀ k, k ≤ n → (∀ l, l < k → steps l A l l ≠ 0) → ∀ i j, i < n → j < k → steps k A i j = if i = j then 1 else 0
  | 0, _, _, _, _, _, h => by omega
  | k + 1, hk, hp, i, j, hi, hj => by
    have ih := steps_unit n A k (by omega) (fun l hl => hp l (by omega))
    have hpk := hp k (by omega)
    simp only [steps, step]
    by_cases e : j = k
    · subst e
      by_cases e2 : i = j
      · subst e2; rw [if_pos rfl, if_pos rfl]; grind
      · rw [if_neg e2, if_neg e2]; grind
    · have z := ih k j (by omega) (by omega)
      rw [if_neg (by omega)] at z
      have y := ih i j hi (by omega)
      rw [z, y]
      grind
/-- a vector's product with a row of N columns -/
def dot (N : Nat) (u x : Nat → Rat) : Rat := sm N fun j => u j * x j
theorem dot_step_k (N k : Nat) (A : Mat) (x : Nat → Rat) : dot N (step k A k) x = dot N (A k) x * (A k k)⁻¹ := by
  unfold dot
  rw [show sm N (fun j => A k j * x j) * (A k k)⁻¹ = (A k k)⁻¹ * sm N (fun j => A k j * x j) by grind, ← sm_mul]
  refine sm_congr fun j _ => ?_
  simp only [step, if_true]; grind
theorem dot_step_ne (N k i : Nat) (A : Mat) (x : Nat → Rat) (h : i ≠ k) : dot N (step k A i) x = dot N (A i) x + (- A i k * (A k k)⁻¹) * dot N (A k) x := by
  unfold dot
  rw [← sm_mul, ← sm_add]
  refine sm_congr fun j _ => ?_
  simp only [step, if_neg h]; grind
/-- rows 0 .. m: what they send to 0 -/
theorem kernel (N m : Nat) (A : Mat) (x : Nat → Rat) : ∀ k, k ≤ m + 1 → (∀ l, l < k → steps l A l l ≠ 0) → ((∀ i, i ≤ m → dot N (steps k A i) x = 0) ↔ ∀ i, i ≤ m → dot N (A i) x = 0)
  | 0, _, _ => Iff.rfl
  | k + 1, hk, hp => by
    rw [← kernel N m A x k (by omega) fun l hl => hp l (by omega)]
    have hpk := hp k (by omega)
    have hinv : (steps k A k k)⁻¹ ≠ 0 := by grind
    simp only [steps]
    constructor
    · intro h i hi
      have h1 := h k (by omega)
      rw [dot_step_k] at h1
      have h2 : dot N (steps k A k) x = 0 := by grind
      by_cases e : i = k
      · subst e; exact h2
      · have h3 := h i hi
        rw [dot_step_ne _ _ _ _ _ e, h2] at h3
        grind
    · intro h i hi
      have h2 := h k (by omega)
      by_cases e : i = k
      · subst e; rw [dot_step_k, h2]; grind
      · rw [dot_step_ne _ _ _ _ _ e, h2, h i hi]; grind
/-- no vector on 0 .. k but 0 is sent to 0 by the rows 0 .. k -/
def Good (n : Nat) (A : Mat) : Prop := ∀ k, k < n → ∀ x : Nat → Rat, x k = 1 → (∀ j, k < j → x j = 0) → ¬ ∀ i, i ≤ k → dot n (A i) x = 0
theorem pivot (n : Nat) (A : Mat) (g : Good n A) : ∀ k, k < n → steps k A k k ≠ 0 := by
  intro k
  induction k using Nat.strongRecOn with
  | ind k ih =>
    intro hk h0
    have hp : ∀ l, l < k → steps l A l l ≠ 0 := fun l hl => ih l hl (by omega)
    have un := steps_unit n A k (by omega) hp
    refine g k hk (fun j => if j < k then - steps k A j k else if j = k then 1 else 0) (by simp) (fun j hj => by rw [if_neg (by omega), if_neg (by omega)]) ?_
    rw [← kernel n k A _ k (by omega) hp]
    intro i hi
    unfold dot
    by_cases e : i = k
    · subst e
      refine sm_zero fun j hj => ?_
      by_cases l : j < i
      · rw [un i j hk l, if_neg (by omega)]; grind
      · by_cases l2 : j = i
        · subst l2; rw [h0]; grind
        · dsimp only; rw [if_neg l, if_neg l2]; grind
    · rw [sm_two (k := i) (l := k) (by omega) hk (by omega) fun j hj h1 h2 => ?_]
      · rw [un i i (by omega) (by omega), if_pos rfl]; dsimp only; rw [if_pos (by omega), if_neg (by omega), if_pos rfl]; grind
      · by_cases l : j < k
        · rw [un i j (by omega) l, if_neg (by omega)]; grind
        · dsimp only; rw [if_neg l, if_neg h2]; grind
/-- the answer solves -/
theorem solves (n : Nat) (A : Mat) (g : Good n A) : ∀ i, i < n → sm n (fun j => A i j * steps n A j n) = A i n := by
  intro i hi
  have hp := pivot n A g
  have un := steps_unit n A n (Nat.le_refl _) hp
  have z := (kernel (n + 1) (n - 1) A (fun j => if j < n then steps n A j n else -1) n (by omega) hp).mp (fun i hi => by
    unfold dot
    by_cases hn : i < n
    · rw [sm_two (k := i) (l := n) (by omega) (by omega) hn fun j hj h1 h2 => ?_]
      · rw [un i i hn hn, if_pos rfl]; dsimp only; rw [if_pos hn, if_neg (by omega)]; grind
      · rw [un i j hn (by omega), if_neg (by omega)]; grind
    · omega) i (by omega)
  unfold dot at z
  simp only [sm] at z
  rw [if_neg (by omega)] at z
  rw [sm_congr (g := fun j => A i j * if j < n then steps n A j n else -1) (fun j hj => by rw [if_pos hj])]
  grind

/-! ### sizes -/
theorem det_step (m k : Nat) (A : Mat) (ρ γ : Nat → Nat) (hk : k < m) (hρ : ρ k = k) (inj : ∀ r, r < m → ρ r = k → r = k) (hp : A k k ≠ 0) :
    det m (fun r c => A (ρ r) (γ c)) = A k k * det m (fun r c => step k A (ρ r) (γ c)) := by
  have z := det_addrows m (fun r c => step k A (ρ r) (γ c)) hk (fun r => A (ρ r) k) m (Nat.le_refl _)
  rw [← z]
  rw [← det_scale m _ k (A k k) hk]
  refine det_congr fun r c hr hc => ?_
  simp only [row, step, hρ]
  by_cases e : r = k
  · subst e
    rw [if_pos rfl, hρ, if_neg (by omega)]; simp only [if_true]; grind
  · have e2 : ρ r ≠ k := fun q => e (inj r hr q)
    rw [if_neg e, if_pos ⟨hr, e⟩, if_neg e2]; simp only [if_true]; grind
def piv (A : Mat) : Nat → Rat
  | 0 => 1
  | k + 1 => piv A k * steps k A k k
theorem det_steps (m : Nat) (A : Mat) (ρ γ : Nat → Nat) : ∀ k, k ≤ m → (∀ r, r < k → ρ r = r) → (∀ l r, l < k → r < m → ρ r = l → r = l) → (∀ l, l < k → steps l A l l ≠ 0) →
    det m (fun r c => A (ρ r) (γ c)) = piv A k * det m (fun r c => steps k A (ρ r) (γ c))
  | 0, _, _, _, _ => by simp only [piv, steps]; grind
  | k + 1, hk, h1, h2, h3 => by
    rw [det_steps m A ρ γ k (by omega) (fun r hr => h1 r (by omega)) (fun l r hl => h2 l r (by omega)) fun l hl => h3 l (by omega)]
    rw [det_step m k (steps k A) ρ γ (by omega) (h1 k (by omega)) (fun r hr e => h2 k r (by omega) hr e) (h3 k (by omega))]
    simp only [piv, steps]; grind
/-- unit columns, then a corner -/
theorem det_corner : ∀ (k : Nat) (B : Mat) , (∀ i j, i ≤ k → j < k → B i j = if i = j then 1 else 0) → det (k + 1) B = B k k
  | 0, B, _ => by simp only [det, sm, sg]; grind
  | k + 1, B, h => by
    rw [det, sm_one (k := 0) (by omega) fun i hi h0 => by rw [h i 0 (by omega) (by omega), if_neg h0]; grind]
    rw [h 0 0 (by omega) (by omega), det_corner k (minor B 0) fun i j hi hj => ?_]
    · simp only [minor, sk, sg]; grind
    · simp only [minor, sk]
      rw [if_neg (by omega), h (i + 1) (j + 1) (by omega) (by omega)]
      grind
theorem det_unit (k : Nat) (B : Mat) (h : ∀ i j, i < k → j < k → B i j = if i = j then 1 else 0) : det k B = 1 := by
  cases k with
  | zero => rfl
  | succ k => rw [det_corner k B fun i j hi hj => h i j (by omega) (by omega), h k k (by omega) (by omega), if_pos rfl]
/-- unit columns but the i-th -/
theorem det_col : ∀ (k i : Nat) (B : Mat), i < k → (∀ r j, r < k → j < k → j ≠ i → B r j = if r = j then 1 else 0) → det k B = B i i
  | 0, _, _, h, _ => by omega
  | k + 1, 0, B, _, h => by
    rw [det, sm_one (k := 0) (by omega) fun r hr h0 => ?_]
    · rw [det_unit k _ fun i j hi hj => ?_]
      · simp only [sg]; grind
      · simp only [minor, sk]
        rw [if_neg (by omega), h (i + 1) (j + 1) (by omega) (by omega) (by omega)]
        grind
    · cases k with
      | zero => omega
      | succ k =>
        rw [det_zero_row (k + 1) _ 0 (by omega) fun c hc => ?_]
        · grind
        · simp only [minor, sk]
          rw [if_pos (by omega), h 0 (c + 1) (by omega) (by omega) (by omega), if_neg (by omega)]
  | k + 1, i + 1, B, hi, h => by
    rw [det, sm_one (k := 0) (by omega) fun r hr h0 => by rw [h r 0 (by omega) (by omega) (by omega), if_neg h0]; grind]
    rw [h 0 0 (by omega) (by omega) (by omega), det_col k i (minor B 0) (by omega) fun r j hr hj hji => ?_]
    · simp only [minor, sk, sg]; grind
    · simp only [minor, sk]
      rw [if_neg (by omega), h (r + 1) (j + 1) (by omega) (by omega) (by omega)]
      grind
theorem det_piv (n : Nat) (A : Mat) (k : Nat) (hk : k ≤ n) (hpk : ∀ l, l < k → steps l A l l ≠ 0) : det k A = piv A k := by
  have z := det_steps k A id id k (Nat.le_refl _) (fun _ _ => rfl) (fun _ _ _ _ e => e) hpk
  have un := steps_unit n A k hk hpk
  rw [det_unit k (fun r c => steps k A (id r) (id c)) fun a b ha hb => un a b (by omega) hb] at z
  have e : det k (fun r c => A (id r) (id c)) = det k A := rfl
  rw [← e, z]; grind
/-- each entry is a quotient of two determinants of the first matrix -/
theorem entry (n : Nat) (A : Mat) (hp : ∀ l, l < n → steps l A l l ≠ 0) (k : Nat) (hk : k ≤ n) (i j : Nat) (hi : i < n) (hj : k ≤ j) :
    ∃ (m : Nat) (ρ γ : Nat → Nat), (m = k ∨ m = k + 1) ∧ (∀ r, r < m → ρ r < n) ∧ (∀ c, c < m → γ c < n ∨ γ c = j) ∧ det m (fun r c => A (ρ r) (γ c)) = det k A * steps k A i j := by
  have hpk : ∀ l, l < k → steps l A l l ≠ 0 := fun l hl => hp l (by omega)
  have un := steps_unit n A k hk hpk
  have dk : det k A = piv A k := det_piv n A k hk hpk
  by_cases l : i < k
  · refine ⟨k, id, fun c => if c = i then j else c, .inl rfl, fun r hr => by show r < n; omega, fun c hc => ?_, ?_⟩
    · by_cases e : c = i
      · right; simp [e]
      · left; simp [e]; omega
    · rw [det_steps k A id _ k (Nat.le_refl _) (fun _ _ => rfl) (fun _ _ _ _ e => e) hpk, dk]
      rw [det_col k i _ l fun r c hr hc hci => by rw [if_neg hci]; exact un r c (by omega) hc]
      simp
  · refine ⟨k + 1, fun r => if r = k then i else r, fun c => if c = k then j else c, .inr rfl, fun r hr => ?_, fun c hc => ?_, ?_⟩
    · show (if r = k then i else r) < n
      split <;> omega
    · by_cases e : c = k
      · right; simp [e]
      · left; simp [e]; omega
    · rw [det_steps (k + 1) A _ _ k (by omega) (fun r hr => by simp; omega) (fun a r ha hr e => by
        by_cases q : r = k
        · rw [if_pos q] at e; omega
        · rw [if_neg q] at e; exact e) hpk, dk]
      rw [det_corner k _ fun a b ha hb => ?_]
      · simp
      · rw [if_neg (show ¬ b = k by omega)]
        by_cases q : a = k
        · rw [if_pos q, un i b hi hb, if_neg (by omega), if_neg (by omega)]
        · rw [if_neg q, un a b (by omega) hb]
/-- whole numbers over one another -/
def Sz (B : Nat) (q : Rat) : Prop := ∃ (z : Int) (d : Nat), 0 < d ∧ q * (d : Rat) = (z : Rat) ∧ z.natAbs ≤ B ∧ d ≤ B
theorem det_piv_ne (n : Nat) (A : Mat) (hp : ∀ l, l < n → steps l A l l ≠ 0) : ∀ k, k ≤ n → piv A k ≠ 0
  | 0, _ => by simp only [piv]; grind
  | k + 1, h => by
    have a := det_piv_ne n A hp k (by omega)
    have b := hp k (by omega)
    simp only [piv]
    intro e
    rcases Rat.mul_eq_zero.mp e with e | e
    · exact a e
    · exact b e
theorem sizes (n W C : Nat) (hW : 1 ≤ W) (hC : 1 ≤ C) (A : Mat) (hA : ∀ r c, r < n → c ≤ n → ∃ z : Int, A r c * (W : Rat) = (z : Rat) ∧ z.natAbs ≤ C) (hp : ∀ l, l < n → steps l A l l ≠ 0)
    (k : Nat) (hk : k ≤ n) (i j : Nat) (hi : i < n) (hj : j ≤ n) : Sz (W * ((n + 1) * C) ^ (n + 1)) (steps k A i j) := by
  have big : 1 ≤ W * ((n + 1) * C) ^ (n + 1) := Nat.mul_pos hW (Nat.pow_pos (Nat.mul_pos (by omega) hC))
  by_cases l : j < k
  · rw [steps_unit n A k hk (fun l hl => hp l (by omega)) i j hi l]
    split
    · exact ⟨1, 1, by omega, by grind, by simpa using big, big⟩
    · exact ⟨0, 1, by omega, by grind, by simp, big⟩
  · obtain ⟨m, ρ, γ, hm, h1, h2, e⟩ := entry n A hp k hk i j hi (by omega)
    obtain ⟨D, eD, bD⟩ := det_int W C hC m (fun r c => A (ρ r) (γ c)) fun r c hr hc => hA _ _ (h1 r hr) (by rcases h2 c hc with z | z <;> omega)
    obtain ⟨D', eD', bD'⟩ := det_int W C hC k A fun r c hr hc => hA r c (by omega) (by omega)
    have hpk : ∀ l, l < k → steps l A l l ≠ 0 := fun l hl => hp l (by omega)
    have dk : det k A ≠ 0 := by
      rw [det_piv n A k hk hpk]; exact det_piv_ne n A hp k hk
    have W0 : (W : Rat) ≠ 0 := by
      intro q
      have : W = 0 := by exact_mod_cast q
      omega
    have Wk : ∀ m : Nat, (W : Rat) ^ m ≠ 0 := fun m => by
      induction m with
      | zero => rw [Rat.pow_zero]; grind
      | succ m ih => rw [Rat.pow_succ]; intro q; rcases Rat.mul_eq_zero.mp q with q | q; exact ih q; exact W0 q
    have D0 : D' ≠ 0 := fun q => by
      rw [q] at eD'
      rcases Rat.mul_eq_zero.mp (eD'.trans (by simp)) with q | q
      · exact dk q
      · exact Wk k q
    have bb : ∀ (x : Int) (m : Nat), m ≤ n + 1 → x.natAbs ≤ (m * C) ^ m → x.natAbs ≤ ((n + 1) * C) ^ (n + 1) := fun x m hm hx =>
      Nat.le_trans hx (Nat.le_trans (Nat.pow_le_pow_left (Nat.mul_le_mul_right _ hm) _) (Nat.pow_le_pow_right (Nat.mul_pos (by omega) hC) hm))
    have b1 := bb D m (by omega) bD
    have b2 := bb D' k (by omega) bD'
    -- det m = det k * x;  D = det m W^m; D' = det k W^k
    have key : steps k A i j * ((D' : Rat) * (W : Rat) ^ m) = (D : Rat) * (W : Rat) ^ k := by
      rw [← eD', ← eD, e]; grind
    -- m is k or k + 1
    have fin : ∀ (s : Int), (s = 1 ∨ s = -1) → 0 < s * D' → (m = k ∨ m = k + 1) → Sz (W * ((n + 1) * C) ^ (n + 1)) (steps k A i j) := by
      intro s hs hpos hmk
      have hle : ((s * D').toNat) ≤ ((n + 1) * C) ^ (n + 1) := by
        have : (s * D').natAbs = D'.natAbs := by rcases hs with rfl | rfl <;> simp
        omega
      have hsd : (s * D).natAbs = D.natAbs := by rcases hs with rfl | rfl <;> simp
      have cast : (((s * D').toNat : Nat) : Rat) = (s : Rat) * (D' : Rat) := by
        have : (((s * D').toNat : Nat) : Int) = s * D' := by omega
        rw [← Rat.intCast_mul, ← this]; exact (Rat.intCast_natCast _).symm
      have up : ((n + 1) * C) ^ (n + 1) ≤ W * ((n + 1) * C) ^ (n + 1) := Nat.le_mul_of_pos_left _ hW
      rcases hmk with rfl | rfl
      · refine ⟨s * D, (s * D').toNat, by omega, ?_, by omega, by omega⟩
        rw [cast, Rat.intCast_mul]
        have q : steps m A i j * (D' : Rat) = (D : Rat) := by
          have := Wk m
          grind
        rw [← q]; grind
      · refine ⟨s * D, W * (s * D').toNat, Nat.mul_pos hW (by omega), ?_, by omega, Nat.mul_le_mul_left _ hle⟩
        rw [Rat.natCast_mul, cast, Rat.intCast_mul]
        have q : steps k A i j * ((D' : Rat) * (W : Rat)) = (D : Rat) := by
          have := Wk k
          rw [Rat.pow_succ] at key
          grind
        rw [← q]; grind
    by_cases hs : 0 < D'
    · exact fin 1 (.inl rfl) (by omega) hm
    · exact fin (-1) (.inr rfl) (by omega) hm
end Cs

/-! the chain: a greatest value is kept, so the equations have one answer -/
set_option linter.all false
namespace Cs
/-- the weighted sum over draws -/
def ws {E : Type} (told : List (E × Int)) (f : E → Rat) : Rat := match told with
  | [] => 0
  | x :: r => (x.2 : Rat) * f x.1 + ws r f
section
variable {E P : Type}
theorem ws_add (t : List (E × Int)) (f g : E → Rat) : ws t (fun e => f e + g e) = ws t f + ws t g := by
  induction t with
  | nil => simp only [ws]; grind
  | cons x r ih => simp only [ws]; rw [ih]; grind
theorem ws_mul (t : List (E × Int)) (c : Rat) (f : E → Rat) : ws t (fun e => c * f e) = c * ws t f := by
  induction t with
  | nil => simp only [ws]; grind
  | cons x r ih => simp only [ws]; rw [ih]; grind
theorem ws_congr (t : List (E × Int)) {f g : E → Rat} (h : ∀ x ∈ t, f x.1 = g x.1) : ws t f = ws t g := by
  induction t with
  | nil => rfl
  | cons x r ih => simp only [ws]; rw [h x (by simp), ih (fun y hy => h y (by simp [hy]))]
theorem ws_sm (t : List (E × Int)) (n : Nat) (f : E → Nat → Rat) : ws t (fun e => sm n (f e)) = sm n (fun j => ws t (fun e => f e j)) := by
  induction t with
  | nil => simp only [ws]; rw [sm_zero (fun _ _ => rfl)]
  | cons x r ih => simp only [ws]; rw [ih, ← sm_mul, ← sm_add]
theorem ws_nonneg (t : List (E × Int)) (hw : ∀ x ∈ t, 0 < x.2) (f : E → Rat) (h : ∀ x ∈ t, 0 ≤ f x.1) : 0 ≤ ws t f := by
  induction t with
  | nil => simp only [ws]; grind
  | cons x r ih =>
    simp only [ws]
    have h1 := ih (fun y hy => hw y (by simp [hy])) (fun y hy => h y (by simp [hy]))
    have h2 : (0 : Rat) ≤ (x.2 : Rat) := by have := hw x (by simp); exact Rat.intCast_nonneg.mpr (by omega)
    have h3 := Rat.mul_nonneg h2 (h x (by simp))
    grind
theorem ws_zero (t : List (E × Int)) (hw : ∀ x ∈ t, 0 < x.2) (f : E → Rat) (h : ∀ x ∈ t, 0 ≤ f x.1) (h0 : ws t f = 0) : ∀ x ∈ t, f x.1 = 0 := by
  induction t with
  | nil => simp
  | cons x r ih =>
    simp only [ws] at h0
    have h1 := ws_nonneg r (fun y hy => hw y (by simp [hy])) f (fun y hy => h y (by simp [hy]))
    have h2 : (0 : Rat) < (x.2 : Rat) := by have := hw x (by simp); exact Rat.intCast_pos.mpr this
    have h3 := Rat.mul_nonneg (Rat.le_of_lt h2) (h x (by simp))
    have h4 : (x.2 : Rat) * f x.1 = 0 := by grind
    have h5 : ws r f = 0 := by grind
    intro y hy
    rcases List.mem_cons.mp hy with rfl | hy
    · rcases Rat.mul_eq_zero.mp h4 with q | q
      · grind
      · exact q
    · exact ih (fun y hy => hw y (by simp [hy])) (fun y hy => h y (by simp [hy])) h5 y hy
/-- a greatest one -/
theorem greatest (x : P → Rat) : ∀ L : List P, L ≠ [] → ∃ p ∈ L, ∀ q ∈ L, x q ≤ x p
  | [], h => absurd rfl h
  | [p], _ => ⟨p, by simp, fun q hq => by simp at hq; subst hq; exact Rat.le_refl⟩
  | p :: r :: l, _ => by
    obtain ⟨m, hm, h⟩ := greatest x (r :: l) (by simp)
    rcases Rat.le_total (a := x p) (b := x m) with e | e
    · refine ⟨m, by simp [hm], fun q hq => ?_⟩
      rcases List.mem_cons.mp hq with rfl | hq
      · exact e
      · exact h q hq
    · refine ⟨p, by simp, fun q hq => ?_⟩
      rcases List.mem_cons.mp hq with rfl | hq
      · exact Rat.le_refl
      · exact Rat.le_trans (h q hq) e
/-- reached by draws -/
inductive Rch (told : List (E × Int)) (pt : P → E → P) (p : P) : P → Prop
  | refl : Rch told pt p p
  | step {q : P} {x : E × Int} : Rch told pt p q → x ∈ told → Rch told pt p (pt q x.1)
theorem maxp_le (told : List (E × Int)) (pt : P → E → P) (hw : ∀ x ∈ told, 0 < x.2) (L : List P) (x : P → Rat) (h0 : ∀ p, p ∉ L → x p = 0)
    (heq : ∀ p ∈ L, ws told (fun _ => 1) * x p = ws told fun e => x (pt p e)) (hr : ∀ p ∈ L, ∃ q, Rch told pt p q ∧ q ∉ L) : ∀ p, x p ≤ 0 := by
  by_cases hL : L = []
  · intro p; rw [h0 p (by rw [hL]; simp)]; exact Rat.le_refl
  obtain ⟨m, hm, hmax⟩ := greatest x L hL
  by_cases hpos : 0 < x m
  · exfalso
    have all : ∀ q, x q ≤ x m := fun q => by
      by_cases hq : q ∈ L
      · exact hmax q hq
      · rw [h0 q hq]; exact Rat.le_of_lt hpos
    have keep : ∀ q, Rch told pt m q → x q = x m := fun q hq => by
      induction hq with
      | refl => rfl
      | step r hx ih =>
        rename_i q e
        have hqL : q ∈ L := by
          refine Classical.byContradiction fun hn => ?_
          rw [h0 q hn] at ih
          grind
        have e1 := heq q hqL
        have e2 : ws told (fun e => x m + (-1) * x (pt q e)) = 0 := by
          rw [ws_add, ws_mul, ← e1, ih]
          have : ws told (fun _ => x m) = x m * ws told (fun _ => 1) := by
            rw [← ws_mul]; exact ws_congr _ fun _ _ => by grind
          rw [this]; grind
        have := ws_zero told hw _ (fun y _ => by have := all (pt q y.1); grind) e2 e hx
        grind
    obtain ⟨q, hq, hn⟩ := hr m hm
    have e := keep q hq
    rw [h0 q hn] at e
    grind
  · intro q
    by_cases hq : q ∈ L
    · exact Rat.le_trans (hmax q hq) (Rat.not_lt.mp hpos)
    · rw [h0 q hq]; exact Rat.le_refl
theorem maxp (told : List (E × Int)) (pt : P → E → P) (hw : ∀ x ∈ told, 0 < x.2) (L : List P) (x : P → Rat) (h0 : ∀ p, p ∉ L → x p = 0)
    (heq : ∀ p ∈ L, ws told (fun _ => 1) * x p = ws told fun e => x (pt p e)) (hr : ∀ p ∈ L, ∃ q, Rch told pt p q ∧ q ∉ L) : ∀ p, x p = 0 := by
  intro p
  have h1 := maxp_le told pt hw L x h0 heq hr p
  have h2 := maxp_le told pt hw L (fun p => (-1) * x p) (fun p hp => by rw [h0 p hp]; grind) (fun p hp => by rw [ws_mul, ← heq p hp]; grind) hr p
  have h3 : -1 * x p ≤ 0 := h2
  grind

/-! ### the matrix of the mean waits -/
variable [DecidableEq P]
/-- the j-th of L is q -/
def isAt (L : List P) (j : Nat) (q : P) : Rat := if L[j]? = some q then 1 else 0
def mw (told : List (E × Int)) (pt : P → E → P) (L : List P) : Mat := fun i j =>
  if j < L.length then (if i = j then 1 else 0) - (match L[i]? with | some p => ws told (fun e => isAt L j (pt p e)) | none => 0) / ws told (fun _ => 1) else 1
/-- a vector over L as a function -/
def hat (L : List P) (y : Nat → Rat) : P → Rat := fun q => sm L.length fun j => isAt L j q * y j
theorem hat_out (L : List P) (y : Nat → Rat) (q : P) (h : q ∉ L) : hat L y q = 0 := sm_zero fun j _ => by
  unfold isAt
  rw [if_neg (fun e => h (List.mem_of_getElem? e))]; grind
theorem nd_at {L : List P} (hL : L.Nodup) {i j : Nat} {q : P} (a : L[i]? = some q) (b : L[j]? = some q) : i = j := by
  obtain ⟨h1, e1⟩ := List.getElem?_eq_some_iff.mp a
  obtain ⟨h2, e2⟩ := List.getElem?_eq_some_iff.mp b
  exact (List.getElem_inj hL).mp (e1.trans e2.symm)
theorem hat_at {L : List P} (hL : L.Nodup) (y : Nat → Rat) {i : Nat} {q : P} (h : L[i]? = some q) : hat L y q = y i := by
  have hi : i < L.length := (List.getElem?_eq_some_iff.mp h).1
  unfold hat
  rw [sm_one hi fun j _ hj => by unfold isAt; rw [if_neg (fun e => hj (nd_at hL e h))]; grind]
  unfold isAt
  rw [if_pos h]; grind
theorem W_pos {told : List (E × Int)} (hw : ∀ x ∈ told, 0 < x.2) (hne : told ≠ []) : 0 < ws told (fun _ => 1) := by
  have hn := ws_nonneg told hw (fun _ => 1) fun _ _ => by grind
  by_cases h : 0 = ws told (fun _ => 1)
  case neg => grind
  case pos =>
    exfalso
    cases told with
    | nil => exact hne rfl
    | cons x r => have := ws_zero (x :: r) hw (fun _ => 1) (fun _ _ => by grind) h.symm x (by simp); grind
theorem mw_dot (told : List (E × Int)) (pt : P → E → P) (L : List P) (y : Nat → Rat) {i : Nat} {p : P} (h : L[i]? = some p) :
    sm L.length (fun j => mw told pt L i j * y j) = y i - ws told (fun e => hat L y (pt p e)) / ws told (fun _ => 1) := by
  have hi : i < L.length := (List.getElem?_eq_some_iff.mp h).1
  have e1 : sm L.length (fun j => mw told pt L i j * y j) = sm L.length (fun j => (if i = j then 1 else 0) * y j + (-1 / ws told (fun _ => 1)) * (ws told (fun e => isAt L j (pt p e) * y j))) := by
    refine sm_congr fun j hj => ?_
    unfold mw
    rw [if_pos hj, h]
    have : ws told (fun e => isAt L j (pt p e) * y j) = y j * ws told (fun e => isAt L j (pt p e)) := by
      rw [← ws_mul]; exact ws_congr _ fun _ _ => by grind
    dsimp only
    rw [this]; grind
  rw [e1, sm_add, sm_mul, ← ws_sm]
  rw [sm_one hi fun j _ hj => by rw [if_neg (fun e => hj e.symm)]; grind]
  rw [if_pos rfl]
  unfold hat
  grind
/-- what is asked of the states -/
structure Sts (told : List (E × Int)) (pt : P → E → P) (goal : P) (L : List P) : Prop where
  pos : ∀ x ∈ told, 0 < x.2
  ne : told ≠ []
  nd : L.Nodup
  out : goal ∉ L
  clo : ∀ p ∈ L, ∀ x ∈ told, pt p x.1 = goal ∨ pt p x.1 ∈ L
  can : ∀ p ∈ L, Rch told pt p goal
theorem Sts.good {told : List (E × Int)} {pt : P → E → P} {goal : P} {L : List P} (S : Sts told pt goal L) : Good L.length (mw told pt L) := by
  intro k hk x hx hx0 hall
  have W0 := W_pos S.pos S.ne
  -- on the first k + 1 states
  have z := maxp told pt S.pos (L.take (k + 1)) (hat L x) (fun p hp => ?_) (fun p hp => ?_) (fun p hp => ⟨goal, S.can p (List.mem_of_mem_take hp), fun h => S.out (List.mem_of_mem_take h)⟩)
  · have e : L[k]? = some L[k] := List.getElem?_eq_getElem hk
    have := z L[k]
    rw [hat_at S.nd x e, hx] at this
    grind
  · by_cases hL : p ∈ L
    · obtain ⟨j, hj, e⟩ := List.mem_iff_getElem.mp hL
      rw [hat_at S.nd x (i := j) (by rw [List.getElem?_eq_getElem hj, e])]
      refine hx0 j (Nat.lt_of_not_le fun hle => hp ?_)
      rw [← e]
      exact List.mem_take_iff_getElem.mpr ⟨j, by omega, rfl⟩
    · exact hat_out L x p hL
  · obtain ⟨j, hj, e⟩ := List.mem_take_iff_getElem.mp hp
    have ej : L[j]? = some p := by rw [List.getElem?_eq_getElem (by omega), e]
    have q := hall j (by omega)
    unfold dot at q
    rw [mw_dot told pt L x ej] at q
    rw [hat_at S.nd x ej]
    grind
/-- the mean wait -/
def mean (told : List (E × Int)) (pt : P → E → P) (L : List P) : P → Rat := hat L fun i => steps L.length (mw told pt L) i L.length
theorem Sts.mean_eq {told : List (E × Int)} {pt : P → E → P} {goal : P} {L : List P} (S : Sts told pt goal L) : ∀ p ∈ L, mean told pt L p = 1 + ws told (fun e => mean told pt L (pt p e)) / ws told (fun _ => 1) := by
  intro p hp
  obtain ⟨i, hi, e⟩ := List.mem_iff_getElem.mp hp
  have ei : L[i]? = some p := by rw [List.getElem?_eq_getElem hi, e]
  have z := solves L.length (mw told pt L) S.good i hi
  rw [mw_dot told pt L _ ei] at z
  have r : mw told pt L i L.length = 1 := by unfold mw; rw [if_neg (Nat.lt_irrefl _)]
  rw [r] at z
  have m : mean told pt L p = steps L.length (mw told pt L) i L.length := hat_at S.nd _ ei
  rw [m]
  unfold mean
  grind
theorem mean_out (told : List (E × Int)) (pt : P → E → P) (L : List P) (q : P) (h : q ∉ L) : mean told pt L q = 0 := hat_out L _ q h
/-- one answer -/
theorem Sts.mean_one {told : List (E × Int)} {pt : P → E → P} {goal : P} {L L' : List P} (S : Sts told pt goal L) (S' : Sts told pt goal L') (sub : ∀ p ∈ L', p ∈ L) : ∀ p ∈ L', mean told pt L p = mean told pt L' p := by
  intro p hp
  have W0 := W_pos S.pos S.ne
  have z := maxp told pt S.pos L' (fun q => if q ∈ L' then mean told pt L q - mean told pt L' q else 0) (fun q hq => by rw [if_neg hq]) (fun q hq => ?_) (fun q hq => ⟨goal, S'.can q hq, S'.out⟩) p
  · rw [if_pos hp] at z
    grind
  · rw [if_pos hq]
    have e1 := S.mean_eq q (sub q hq)
    have e2 := S'.mean_eq q hq
    have e3 : ws told (fun e => if pt q e ∈ L' then mean told pt L (pt q e) - mean told pt L' (pt q e) else 0) = ws told (fun e => mean told pt L (pt q e)) + (-1) * ws told (fun e => mean told pt L' (pt q e)) := by
      rw [← ws_mul, ← ws_add]
      refine ws_congr _ fun x hx => ?_
      rcases S'.clo q hq x hx with h | h
      · rw [h, if_neg S'.out, mean_out _ _ _ _ S.out, mean_out _ _ _ _ S'.out]; grind
      · rw [if_pos h]; grind
    rw [e3]
    grind
/-- sizes: the weights together W0 -/
def wt (told : List (E × Int)) : Int := (told.map (·.2)).sum
theorem wt_ws (told : List (E × Int)) : ws told (fun _ => 1) = (wt told : Rat) := by
  induction told with
  | nil => simp [ws, wt]
  | cons x r ih =>
    simp only [ws, ih, wt, List.map_cons, List.sum_cons]
    rw [Rat.intCast_add]; grind
theorem ws_int (told : List (E × Int)) (hw : ∀ x ∈ told, 0 < x.2) (f : E → Rat) (h : ∀ x ∈ told, f x.1 = 0 ∨ f x.1 = 1) : ∃ z : Int, ws told f = (z : Rat) ∧ 0 ≤ z ∧ z ≤ wt told := by
  induction told with
  | nil => exact ⟨0, by simp [ws], by omega, by simp [wt]⟩
  | cons x r ih =>
    obtain ⟨z, e, h1, h2⟩ := ih (fun y hy => hw y (by simp [hy])) (fun y hy => h y (by simp [hy]))
    have hx := hw x (by simp)
    have ew : wt (x :: r) = x.2 + wt r := by simp [wt]
    rcases h x (by simp) with q | q
    · exact ⟨z, by simp only [ws]; rw [e, q]; grind, h1, by omega⟩
    · exact ⟨x.2 + z, by simp only [ws]; rw [e, q, Rat.intCast_add]; grind, by omega, by omega⟩
theorem mw_int {told : List (E × Int)} {pt : P → E → P} {goal : P} {L : List P} (S : Sts told pt goal L) (r c : Nat) :
    ∃ z : Int, mw told pt L r c * ((wt told).toNat : Rat) = (z : Rat) ∧ z.natAbs ≤ (wt told).toNat := by
  have W0 := W_pos S.pos S.ne
  rw [wt_ws] at W0
  have Wp : 0 < wt told := Rat.intCast_pos.mp W0
  have cast : (((wt told).toNat : Nat) : Rat) = (wt told : Rat) := by
    rw [← Rat.intCast_natCast]; congr 1; omega
  unfold mw
  rw [wt_ws, cast]
  split
  · have hb : ∃ z : Int, (match L[r]? with | some p => ws told (fun e => isAt L c (pt p e)) | none => 0) = (z : Rat) ∧ 0 ≤ z ∧ z ≤ wt told := by
      split
      · exact ws_int told S.pos _ fun x _ => by unfold isAt; split <;> simp
      · exact ⟨0, by simp, by omega, by omega⟩
    obtain ⟨z, e, h1, h2⟩ := hb
    rw [e]
    split
    · exact ⟨wt told - z, by rw [Rat.intCast_sub]; grind, by omega⟩
    · exact ⟨-z, by rw [Rat.intCast_neg]; grind, by omega⟩
  · exact ⟨wt told, by grind, by omega⟩
theorem Sts.sizes {told : List (E × Int)} {pt : P → E → P} {goal : P} {L : List P} (S : Sts told pt goal L) (h16 : wt told ≤ 16) (h15 : L.length ≤ 15) (k : Nat) (hk : k ≤ L.length) (i j : Nat) (hi : i < L.length) (hj : j ≤ L.length) :
    Sz (2 ^ 132) (steps k (mw told pt L) i j) := by
  have W0 := W_pos S.pos S.ne
  rw [wt_ws] at W0
  have Wp : 0 < wt told := Rat.intCast_pos.mp W0
  obtain ⟨z, d, h0, h1, h2, h3⟩ := Cs.sizes L.length (wt told).toNat (wt told).toNat (by omega) (by omega) (mw told pt L) (fun r c _ _ => mw_int S r c) (pivot _ _ S.good) k hk i j hi hj
  have b : (wt told).toNat * ((L.length + 1) * (wt told).toNat) ^ (L.length + 1) ≤ 2 ^ 132 := by
    have a1 : (wt told).toNat ≤ 16 := by omega
    have a2 : (L.length + 1) * (wt told).toNat ≤ 256 := Nat.le_trans (Nat.mul_le_mul (show L.length + 1 ≤ 16 by omega) a1) (by decide)
    have a3 : ((L.length + 1) * (wt told).toNat) ^ (L.length + 1) ≤ 256 ^ 16 := Nat.le_trans (Nat.pow_le_pow_left a2 _) (Nat.pow_le_pow_right (by decide) (by omega))
    exact Nat.le_trans (Nat.mul_le_mul a1 a3) (by decide)
  exact ⟨z, d, h0, h1, Nat.le_trans h2 b, Nat.le_trans h3 b⟩
end

/-! ### fractions as they stand in the program -/
theorem Sz.num {B : Nat} {q : Rat} (h : Sz B q) : q.num.natAbs ≤ B ∧ q.den ≤ B := by
  obtain ⟨z, d, h0, e, h1, h2⟩ := h
  have d0 : (d : Rat) ≠ 0 := by
    intro q
    have : d = 0 := by exact_mod_cast q
    omega
  have eq : q = mkRat z d := by rw [Rat.mkRat_eq_div, ← e]; grind
  have hd : d ≠ 0 := by omega
  rw [eq, Rat.mkRat_def, dif_neg hd, Rat.num_normalize, Rat.den_normalize]
  constructor
  · exact Nat.le_trans (Int.natAbs_ediv_le_natAbs _ _) h1
  · exact Nat.le_trans (Nat.div_le_self _ _) h2
/-- lowest terms -/
theorem low_num (a b : Int) (hb : 0 < b) : ((a : Rat) / (b : Rat)).num = a / (Nat.gcd a.natAbs b.natAbs : Nat) ∧ (((a : Rat) / (b : Rat)).den : Int) = b / (Nat.gcd a.natAbs b.natAbs : Nat) := by
  have e : (a : Rat) / (b : Rat) = mkRat a b.natAbs := by
    rw [Rat.mkRat_eq_div]
    congr 1
    rw [← Rat.intCast_natCast]; congr 1; omega
  have hd : b.natAbs ≠ 0 := by omega
  rw [e, Rat.mkRat_def, dif_neg hd, Rat.num_normalize, Rat.den_normalize]
  refine ⟨rfl, ?_⟩
  rw [Int.natCast_ediv]
  congr 1
  omega
end Cs

set_option Elab.async false
set_option linter.all false
set_option maxRecDepth 100000
set_option maxHeartbeats 1000000
/-! data as it lies in the abstract heap, short rules for readings -/
namespace Cz
open PySem L2

/-! ### data -/
/-- the tuples stay -/
def Tk (H H' : Hp) : Prop := ∀ b xs, H b = some (.tup xs) → H' b = some (.tup xs)
theorem Tk.refl (H : Hp) : Tk H H := fun _ _ h => h
theorem Tk.trans {H H1 H2 : Hp} (a : Tk H H1) (b : Tk H1 H2) : Tk H H2 := fun c xs h => b c xs (a c xs h)
theorem Tk.of {H H' : Hp} (s : Same H H') : Tk H H' := fun b _ h => s b _ h
theorem same_upd {H : Hp} {a : Addr} {o : HO} (h : H a = none) : Same H (upd H a o) := fun b x e => by
  rw [upd_ne (ne_of_none e h)]
  exact e
/-- what stands at a is no tuple -/
theorem Tk.put {H : Hp} {a : Addr} {o : HO} (h : ∀ xs, H a ≠ some (.tup xs)) : Tk H (upd H a o) := fun b xs e => by
  rw [upd_ne (fun q => by subst q; exact h xs e)]
  exact e
theorem Tk.lst {H : Hp} {a : Addr} {o : HO} {xs : List V} (h : H a = some (.lst xs)) : Tk H (upd H a o) := Tk.put fun ys q => by rw [h] at q; cases q
theorem Tk.dT {H : Hp} {a : Addr} {o : HO} {xs : List (List Key × V)} (h : H a = some (.dT xs)) : Tk H (upd H a o) := Tk.put fun ys q => by rw [h] at q; cases q
theorem Tk.dK {H : Hp} {a : Addr} {o : HO} {xs : List (Key × V)} (h : H a = some (.dK xs)) : Tk H (upd H a o) := Tk.put fun ys q => by rw [h] at q; cases q
mutual
/-- v stands for d (no list in it); every tuple of it is tracked -/
inductive Dt (H : Hp) : V → PyData → Prop
  | non : Dt H .non .none
  | bl (b : Bool) : Dt H (.bl b) (.bool b)
  | int (i : Int) : Dt H (.int i) (.int i)
  | str (x : Str) : Dt H (.str x) (.str x)
  | tup {a : Addr} {xs : List V} {ds : List PyData} : H a = some (.tup xs) → Da H xs ds → Dt H (.ref a) (.tuple ds)
inductive Da (H : Hp) : List V → List PyData → Prop
  | nil : Da H [] []
  | cons {v : V} {vs : List V} {d : PyData} {ds : List PyData} : Dt H v d → Da H vs ds → Da H (v :: vs) (d :: ds)
end
mutual
theorem Dt.mono {H H' : Hp} (s : Tk H H') : ∀ (d : PyData) (v : V), Dt H v d → Dt H' v d
  | .none, _, .non => .non
  | .bool _, _, .bl b => .bl b
  | .int _, _, .int i => .int i
  | .str _, _, .str x => .str x
  | .tuple ds, _, .tup h a => .tup (s _ _ h) (Da.mono s ds _ a)
theorem Da.mono {H H' : Hp} (s : Tk H H') : ∀ (ds : List PyData) (vs : List V), Da H vs ds → Da H' vs ds
  | [], _, .nil => .nil
  | d :: ds, _, .cons h a => .cons (Dt.mono s d _ h) (Da.mono s ds _ a)
end
mutual
theorem Dt.dp {H : Hp} (K : PySem.W.Frag) : ∀ (d : PyData) (v : V), Dt H v d → Dp K H v d
  | .none, _, .non => .non
  | .bool _, _, .bl b => .bl b
  | .int _, _, .int i => .int i
  | .str _, _, .str x => .str x
  | .tuple ds, _, .tup h a => .tup (SqT.of h) (Da.dp K ds _ a)
theorem Da.dp {H : Hp} (K : PySem.W.Frag) : ∀ (ds : List PyData) (vs : List V), Da H vs ds → DpAll K H vs ds
  | [], _, .nil => .nil
  | d :: ds, _, .cons h a => .cons (Dt.dp K d _ h) (Da.dp K ds _ a)
end
/-- a list of data -/
def Ls (H : Hp) (v : V) (ds : List PyData) : Prop := ∃ a xs, v = .ref a ∧ H a = some (.lst xs) ∧ Da H xs ds
section
variable {H H' : Hp} {v : V} {vs ws : List V} {d e : PyData} {ds es : List PyData} {i : Int} {b : Bool} {x : Str}
theorem Dt.up (h : Dt H v d) (s : Tk H H') : Dt H' v d := Dt.mono s d v h
theorem Da.up (h : Da H vs ds) (s : Tk H H') : Da H' vs ds := Da.mono s ds vs h
theorem Dt.ups (h : Dt H v d) (s : Same H H') : Dt H' v d := Dt.mono (.of s) d v h
theorem Da.ups (h : Da H vs ds) (s : Same H H') : Da H' vs ds := Da.mono (.of s) ds vs h
theorem Ls.ups (h : Ls H v ds) (s : Same H H') : Ls H' v ds := let ⟨a, xs, e, h1, h2⟩ := h; ⟨a, xs, e, s _ _ h1, h2.ups s⟩
theorem Ls.dp (K : PySem.W.Frag) (h : Ls H v ds) : Dp K H v (.list ds) := by
  obtain ⟨a, xs, rfl, h1, h2⟩ := h
  exact .lst (SqL.of h1) (h2.dp K)
theorem Dt.int_eq (h : Dt H v (.int i)) : v = .int i := by cases h; rfl
theorem Dt.bl_eq (h : Dt H v (.bool b)) : v = .bl b := by cases h; rfl
theorem Dt.str_eq (h : Dt H v (.str x)) : v = .str x := by cases h; rfl
theorem Dt.non_eq (h : Dt H v .none) : v = .non := by cases h; rfl
theorem Dt.tup_at (h : Dt H v (.tuple ds)) : ∃ a xs, v = .ref a ∧ H a = some (.tup xs) ∧ Da H xs ds := by cases h with | tup h a => exact ⟨_, _, rfl, h, a⟩
theorem Da.len (h : Da H vs ds) : vs.length = ds.length := by
  induction ds generalizing vs with
  | nil => cases h; rfl
  | cons d ds ih => cases h with | cons h1 h2 => simp [ih h2]
theorem Da.get : ∀ {vs : List V} {ds : List PyData} {j : Nat} {d : PyData}, Da H vs ds → ds[j]? = some d → ∃ u, vs[j]? = some u ∧ Dt H u d
  | _, _, 0, _, .cons h _, e => by
    have e := Option.some.inj e
    subst e
    exact ⟨_, rfl, h⟩
  | _, _, j + 1, _, .cons _ a, e => Da.get (j := j) a e
theorem Da.got : ∀ {vs : List V} {ds : List PyData} {j : Nat} {u : V}, Da H vs ds → vs[j]? = some u → ∃ d, ds[j]? = some d ∧ Dt H u d
  | _, _, 0, _, .cons h _, e => by
    have e := Option.some.inj e
    subst e
    exact ⟨_, rfl, h⟩
  | _, _, j + 1, _, .cons _ a, e => Da.got (j := j) a e
theorem Da.app : ∀ {vs : List V} {ds : List PyData}, Da H vs ds → Da H ws es → Da H (vs ++ ws) (ds ++ es)
  | _, _, .nil, h => h
  | _, _, .cons a b, h => .cons a (Da.app b h)
theorem Da.one (h : Dt H v d) : Da H [v] [d] := .cons h .nil
theorem Da.drop : ∀ (n : Nat) {vs : List V} {ds : List PyData}, Da H vs ds → Da H (vs.drop n) (ds.drop n)
  | 0, _, _, h => h
  | _ + 1, _, _, .nil => .nil
  | n + 1, _, _, .cons _ h => Da.drop n h
theorem Da.take : ∀ (n : Nat) {vs : List V} {ds : List PyData}, Da H vs ds → Da H (vs.take n) (ds.take n)
  | 0, _, _, _ => .nil
  | _ + 1, _, _, .nil => .nil
  | n + 1, _, _, .cons a h => .cons a (Da.take n h)
theorem Da.rev {vs : List V} {ds : List PyData} (h : Da H vs ds) : Da H vs.reverse ds.reverse := by
  induction ds generalizing vs with
  | nil => cases h; exact .nil
  | cons d ds ih =>
    cases h with
    | cons a b => rw [List.reverse_cons, List.reverse_cons]; exact (ih b).app (.one a)
theorem Da.set : ∀ {vs : List V} {ds : List PyData} (j : Nat), Da H vs ds → Dt H v d → Da H (vs.set j v) (ds.set j d)
  | _, _, _, .nil, _ => .nil
  | _, _, 0, .cons _ b, h => .cons h b
  | _, _, j + 1, .cons a b, h => .cons a (Da.set j b h)
theorem Da.dropLast {vs : List V} {ds : List PyData} (h : Da H vs ds) : Da H vs.dropLast ds.dropLast := by
  rw [List.dropLast_eq_take, List.dropLast_eq_take, h.len]
  exact h.take _
theorem Da.rep (n : Nat) (h : Dt H v d) : Da H (List.replicate n v) (List.replicate n d) := by
  induction n with
  | zero => exact .nil
  | succ n ih => rw [List.replicate_succ, List.replicate_succ]; exact .cons h ih
theorem Da.ints : ∀ {ns : List Int} {vs : List V}, Da H vs (ns.map .int) → vs = ns.map V.int
  | [], _, .nil => rfl
  | n :: ns, _, .cons h a => by rw [h.int_eq, Da.ints (ns := ns) a]; rfl
theorem Da.bls : ∀ {ns : List Bool} {vs : List V}, Da H vs (ns.map .bool) → vs = ns.map V.bl
  | [], _, .nil => rfl
  | n :: ns, _, .cons h a => by rw [h.bl_eq, Da.bls (ns := ns) a]; rfl
theorem Da.strs : ∀ {ns : List Str} {vs : List V}, Da H vs (ns.map .str) → vs = ns.map V.str
  | [], _, .nil => rfl
  | n :: ns, _, .cons h a => by rw [h.str_eq, Da.strs (ns := ns) a]; rfl
theorem Da.of_ints : ∀ (ns : List Int), Da H (ns.map V.int) (ns.map .int)
  | [] => .nil
  | n :: ns => .cons (.int n) (Da.of_ints ns)
theorem Da.of_strs : ∀ (ns : List Str), Da H (ns.map V.str) (ns.map .str)
  | [] => .nil
  | n :: ns => .cons (.str n) (Da.of_strs ns)
theorem Da.of_bls : ∀ (ns : List Bool), Da H (ns.map V.bl) (ns.map .bool)
  | [] => .nil
  | n :: ns => .cons (.bl n) (Da.of_bls ns)
/-- a new tuple, a new list -/
theorem Dt.newT {p : Addr} (hp : H p = none) (h : Da H vs ds) : Dt (upd H p (.tup vs)) (.ref p) (.tuple ds) := .tup upd_same (h.ups (same_upd hp))
theorem Ls.new {p : Addr} (hp : H p = none) (h : Da H vs ds) : Ls (upd H p (.lst vs)) (.ref p) ds := ⟨p, vs, rfl, upd_same, h.ups (same_upd hp)⟩
theorem Dt.small {H : Hp} {K : PySem.W.Frag} (h : Dt H v (.tuple ds)) : ∃ a xs, v = .ref a ∧ SqT K H a xs ∧ Da H xs ds := by
  obtain ⟨a, xs, e, h, r⟩ := h.tup_at
  exact ⟨a, xs, e, SqT.of h, r⟩
end

/-! ### what == says of plain data -/
mutual
/-- no bools, no dicts, signs in order -/
def Pl : PyData → Bool
  | .none => true
  | .int _ => true
  | .str x => PyData.strOk x
  | .list xs => PlA xs
  | .tuple xs => PlA xs
  | .bool _ => false
  | .dict _ => false
def PlA : List PyData → Bool
  | [] => true
  | x :: xs => Pl x && PlA xs
end
mutual
theorem Pl.lay : ∀ d : PyData, Pl d = true → d.canLay0 = true
  | .none, _ => rfl
  | .int _, _ => rfl
  | .str _, h => h
  | .list xs, h => PlA.lay xs h
  | .tuple xs, h => PlA.lay xs h
  | .bool _, h => nomatch h
  | .dict _, h => nomatch h
theorem PlA.lay : ∀ ds : List PyData, PlA ds = true → PyData.canLayAll0 ds = true
  | [], _ => rfl
  | x :: xs, h => by
    simp only [PlA, Bool.and_eq_true] at h
    simp only [PyData.canLayAll0, Bool.and_eq_true]
    exact ⟨Pl.lay x h.1, PlA.lay xs h.2⟩
end
mutual
theorem eqv_iff : ∀ d e : PyData, Pl d = true → Pl e = true → (PyData.eqv d e = true ↔ d = e)
  | .none, e, _, he => by cases e <;> simp [PyData.eqv]
  | .int i, e, _, he => by cases e <;> first | (simp [Pl] at he; done) | simp [PyData.eqv]
  | .str x, e, _, he => by cases e <;> simp [PyData.eqv]
  | .list xs, e, hd, he => by
    cases e with
    | list ys =>
      simp only [PyData.eqv, PyData.list.injEq]
      exact eqvA_iff xs ys hd he
    | _ => simp [PyData.eqv]
  | .tuple xs, e, hd, he => by
    cases e with
    | tuple ys =>
      simp only [PyData.eqv, PyData.tuple.injEq]
      exact eqvA_iff xs ys hd he
    | _ => simp [PyData.eqv]
  | .bool _, _, h, _ => nomatch h
  | .dict _, _, h, _ => nomatch h
theorem eqvA_iff : ∀ ds es : List PyData, PlA ds = true → PlA es = true → (PyData.eqvAll ds es = true ↔ ds = es)
  | [], [], _, _ => by simp [PyData.eqvAll]
  | [], _ :: _, _, _ => by simp [PyData.eqvAll]
  | _ :: _, [], _, _ => by simp [PyData.eqvAll]
  | x :: xs, y :: ys, h, h' => by
    simp only [PlA, Bool.and_eq_true] at h h'
    simp only [PyData.eqvAll, Bool.and_eq_true, List.cons.injEq]
    rw [eqv_iff x y h.1 h'.1, eqvA_iff xs ys h.2 h'.2]
end
theorem eqv_dec {α : Type} [DecidableEq α] {f : α → PyData} (hp : ∀ a, Pl (f a) = true) (inj : ∀ a b, f a = f b → a = b) (a b : α) : PyData.eqv (f a) (f b) = decide (a = b) := by
  by_cases e : a = b
  · rw [decide_eq_true e]; exact (eqv_iff _ _ (hp a) (hp b)).mpr (by rw [e])
  · rw [decide_eq_false e]
    cases q : PyData.eqv (f a) (f b) with
    | false => rfl
    | true => exact absurd (inj a b ((eqv_iff _ _ (hp a) (hp b)).mp q)) e
theorem shaped_of {d : PyData} (h : Pl d = true) (hd : d.depth ≤ 64) : SeqAt.shaped d = true := by
  unfold SeqAt.shaped
  rw [Pl.lay d h, Bool.true_and]
  exact decide_eq_true hd

/-! ### defs of the text, as callers need them -/
structure Dn (P : Program) (w : World) (K : PySem.W.Frag) (mg : Str → Option Value) (base : Heap) (x : Str) (ps : List Str) (k : Nat) (sp : Sp) : Prop where
  ex : ∃ f fd, mg x = some (.ref f) ∧ PySem.W.keepIn K (.ref f) = true ∧ Binds K fd ps [] ∧ FnOk P w K mg base CX0 k f fd ps sp
theorem pe_fn {X : Cx} {x : Str} {ps : List Str} {k j : Nat} {sp : Sp} {e : Expr} {es : List Expr} {t : TA} {p pos : Pos} (D : Dn X.prog X.w X.K X.mg X.base x ps k sp) (hr : Room j X.A) (ha : PA X (e :: es) t) (hk : k ≤ j := by decide) (hg : Gl X x := by rfl)
    (hdb : (x == ("__debug__" : Str)) = false := by decide) (he : starEach (e :: es) X.env = (false, eval e X.env) :: starEach es X.env := by rfl) (hpl : (backTo pos (starEach es X.env)).any (·.1) = false := by rfl) :
    PE X (.Call (.Name x p) (e :: es) [] pos) (tCall sp [] E0 t) := by
  obtain ⟨f, fd, hm, kp, b, F⟩ := D.ex
  exact pe_call F (hr.mono hk) hg hm kp b .nil pass0 ha hdb he hpl
/-- the built-in names that no one has bound -/
structure Bl (mg : Str → Option Value) : Prop where
  len : mg "len" = none
  range : mg "range" = none
  isi : mg "isinstance" = none
  all : mg "all" = none
  lst : mg "list" = none
  tup : mg "tuple" = none
  sum : mg "sum" = none
  srt : mg "sorted" = none
  zip : mg "zip" = none
  dct : mg "dict" = none
  enum : mg "enumerate" = none
  abs : mg "abs" = none
  int : mg "int" = none
  str : mg "str" = none
  bool : mg "bool" = none
/-- the constants of the modules -/
structure Ct (mg : Str → Option Value) : Prop where
  side : ∃ t, mg "MOST_SIDE" = some (.int 12 t)
  black : ∃ t, mg "BLACK" = some (.str "#" t)
  white : ∃ t, mg "WHITE" = some (.str "." t)
  listed : ∃ t, mg "MOST_LISTED" = some (.int 500 t)
  power : ∃ t, mg "MOST_POWER" = some (.int 200 t)
  cells : ∃ t, mg "MOST_CELLS" = some (.int 6 t)
theorem pe_k {X : Cx} {x : Str} {i : Int} {pos : Pos} (h : ∃ t, X.mg x = some (.int i t)) (hg : Gl X x := by rfl) (hd : (x == ("__debug__" : Str)) = false := by decide) : PE X (.Name x pos) (tC (.int i)) := by
  obtain ⟨t, h⟩ := h
  exact pe_glob hg h ⟨t, rfl⟩ hd
theorem pe_ks {X : Cx} {x s : Str} {pos : Pos} (h : ∃ t, X.mg x = some (.str s t)) (hg : Gl X x := by rfl) (hd : (x == ("__debug__" : Str)) = false := by decide) : PE X (.Name x pos) (tC (.str s)) := by
  obtain ⟨t, h⟩ := h
  exact pe_glob hg h ⟨t, rfl⟩ hd
/-- a built-in class as a value -/
theorem pe_ty {X : Cx} {x : Str} {n : String} {pos : Pos} (hm : X.mg x = none) (hv : bootBuiltins x = some (.type n)) (hg : Gl X x := by rfl) (hn : x ≠ "__name__" := by decide) (hd : (x == ("__debug__" : Str)) = false := by decide) : PE X (.Name x pos) (tC (.ty n)) :=
  pe_bltn hg hm hv rfl hn hd
end Cz

set_option Elab.async false
set_option linter.all false
set_option maxRecDepth 100000
set_option maxHeartbeats 1000000
/-! readings, one step each -/
namespace Cz
open PySem L2
section
variable {K : PySem.W.Frag} {H H1 : Hp} {σ σ' : St} {Q : VK} {v u : V} {ta tb tc te : TE} {tt tt' : TT} {t t' : TA} {s s' : TS} {D : Ends} {a : Addr} {ds : List PyData} {d : PyData}
theorem rd_var {i : Nat} (h : σ[i]? = some (some v)) (q : Q v H) : tVar i σ H Q := ⟨v, h, q⟩
theorem rd_c (q : Q v H) : tC v σ H Q := q
theorem rd_op {r : R2} (q : ta σ H fun x H1 => tb σ H1 fun y H2 => r x y H2 Q) : tOp r ta tb σ H Q := q
theorem rd_un {r : V → Hp → VK → Prop} (q : ta σ H fun x H1 => r x H1 Q) : tUn r ta σ H Q := q
theorem rd_I0 {g : Int → Int → V} {i j : Int} (q : Q (g i j) H) : rI0 g (.int i) (.int j) H Q := ⟨i, j, rfl, rfl, q⟩
theorem rd_I {C : Int → Int → Prop} {g : Int → Int → V} {i j : Int} (c : C i j) (q : Q (g i j) H) : rI C g (.int i) (.int j) H Q := ⟨i, j, rfl, rfl, c, q⟩
theorem rd_U {g : Int → V} {i : Int} (q : Q (g i) H) : rU g (.int i) H Q := ⟨i, rfl, q⟩
theorem rd_eq (hs : scal v u = true) (q : Q (.bl (decide (v = u))) H) : rEq v u H Q := ⟨hs, q⟩
theorem rd_ne (hs : scal v u = true) (q : Q (.bl (!decide (v = u))) H) : rNe v u H Q := ⟨hs, q⟩
theorem rd_eqD {e : PyData} (h1 : Dt H v d) (h2 : Dt H u e) (s1 : SeqAt.shaped d = true) (s2 : SeqAt.shaped e = true) (q : Q (.bl (PyData.eqv d e)) H) : rEqD K v u H Q := ⟨d, e, h1.dp K, h2.dp K, s1, s2, q⟩
theorem rd_neD {e : PyData} (h1 : Dt H v d) (h2 : Dt H u e) (s1 : SeqAt.shaped d = true) (s2 : SeqAt.shaped e = true) (q : Q (.bl (!PyData.eqv d e)) H) : rNeD K v u H Q := ⟨d, e, h1.dp K, h2.dp K, s1, s2, q⟩
theorem rd_b {k : Bool} {R : Bool → Hp → Prop} (q : R k H) : ∃ k', V.bl k = .bl k' ∧ R k' H := ⟨k, rfl, q⟩
theorem rd_test {R : Bool → Hp → Prop} (q : te σ H fun x H' => ∃ k, x = .bl k ∧ R k H') : tTest te σ H R := q
theorem rd_tB {R : Bool → Hp → Prop} (q : te σ H fun x H' => ∃ k, x = .bl k ∧ R k H') : tB te σ H R := q
theorem rd_not {R : Bool → Hp → Prop} (q : tt σ H fun c H1 => R (!c) H1) : tNot tt σ H R := q
theorem rd_and {R : Bool → Hp → Prop} (q : tt σ H fun c H1 => if c = true then tt' σ H1 R else R false H1) : tAnd tt tt' σ H R := q
theorem rd_or {R : Bool → Hp → Prop} (q : tt σ H fun c H1 => if c = true then R true H1 else tt' σ H1 R) : tOr tt tt' σ H R := q
theorem rd_andV (q : ta σ H fun x H1 => ∃ c, x = .bl c ∧ if c = true then tb σ H1 Q else Q (.bl false) H1) : tAndV ta tb σ H Q := q
theorem rd_orV (q : ta σ H fun x H1 => ∃ c, x = .bl c ∧ if c = true then Q (.bl true) H1 else tb σ H1 Q) : tOrV ta tb σ H Q := q
theorem rd_notV (q : ta σ H fun x H1 => ∃ c, x = .bl c ∧ Q (.bl (!c)) H1) : tNotV ta σ H Q := q
theorem rd_ife (q : tt σ H fun c H1 => if c = true then ta σ H1 Q else tb σ H1 Q) : tIf tt ta tb σ H Q := q
theorem rd_chain {r r' : R2} (q : ta σ H fun x H1 => tb σ H1 fun y H2 => r x y H2 fun z H3 => ∃ k, z = .bl k ∧ if k = true then tc σ H3 (fun z' H4 => r' y z' H4 Q) else Q (.bl false) H3) : tChain r r' ta tb tc σ H Q := q
theorem rd_nil {R : List V → Hp → Prop} (q : R [] H) : tNil σ H R := q
theorem rd_cons {R : List V → Hp → Prop} (q : te σ H fun x H1 => t σ H1 fun xs H2 => R (x :: xs) H2) : tCons te t σ H R := q
theorem rd_tup (q : t σ H fun xs H1 => xs.length ≤ sizeLine ∧ ∀ p, H1 p = none → Q (.ref p) (upd H1 p (.tup xs))) : tTup t σ H Q := q
theorem rd_lst (q : t σ H fun xs H1 => xs.length ≤ sizeLine ∧ ∀ p, H1 p = none → Q (.ref p) (upd H1 p (.lst xs))) : tLst t σ H Q := q
theorem rd_call {sp : Sp} {dvs : List V} {E : XK} (q : t σ H fun vs H1 => sp (vs ++ dvs) H1 Q E) : tCall sp dvs E t σ H Q := q
theorem rd_cb {r : List V → Hp → VK → Prop} (q : t σ H fun vs H1 => r vs H1 Q) : tCB r t σ H Q := q
theorem rd_bm0 {T : String} {r : V → List V → Hp → VK → Prop} (q : te σ H fun x H1 => tyV K T x H1 ∧ r x [] H1 Q) : tBM0 K T r te σ H Q := q
theorem rd_bm {T : String} {r : V → List V → Hp → VK → Prop} (q : te σ H fun x H1 => tyV K T x H1 ∧ t σ H1 fun xs H2 => r x xs H2 Q) : tBM K T r te t σ H Q := q
theorem rd_sl {r : V → Option Int → Option Int → Hp → VK → Prop} {tl th : TO} (q : te σ H fun x H1 => tl σ H1 fun l H2 => th σ H2 fun u H3 => r x l u H3 Q) : tSl r te tl th σ H Q := q
theorem rd_nopart {R : Option Int → Hp → Prop} (q : R none H) : tNoPart σ H R := q
theorem rd_part {R : Option Int → Hp → Prop} (q : te σ H fun x H1 => ∃ i, x = .int i ∧ R (some i) H1) : tPart te σ H R := q
theorem rd_i {i : Int} {R : Int → Prop} (q : R i) : ∃ i', V.int i = .int i' ∧ R i' := ⟨i, rfl, q⟩
theorem rd_seq (q : s { D with nx := s' D } σ H) : tSeq s s' D σ H := q
theorem rd_next (q : D.nx σ H) : tNext D σ H := q
theorem rd_cont (q : D.ct σ H) : tCont D σ H := q
theorem rd_drop (q : te σ H fun _ H1 => D.nx σ H1) : tDrop te D σ H := q
theorem rd_ret (q : te σ H D.rt) : tRet te D σ H := q
theorem rd_retN (q : D.rt .non H) : tRetN D σ H := q
theorem rd_if (q : tt σ H fun b H1 => if b = true then s D σ H1 else s' D σ H1) : tIfS tt s s' D σ H := q
theorem rd_asg {g : TG} (q : te σ H fun x H1 => g x σ H1 D.nx) : tAsg te g D σ H := q
theorem rd_gname {i : Nat} {R : St → Hp → Prop} (q : R (σ.set i (some v)) H) : gName i v σ H R := q
theorem rd_par {i j : Nat} (q : t σ H fun vs H1 => ∃ v w, vs = [v, w] ∧ D.nx ((σ.set i (some v)).set j (some w)) H1) : tPar i j t D σ H := q
theorem rd_par3 {i j l : Nat} (q : t σ H fun vs H1 => ∃ u v w, vs = [u, v, w] ∧ D.nx (((σ.set i (some u)).set j (some v)).set l (some w)) H1) : tPar3 i j l t D σ H := q
theorem rd_v2 {x y : V} {R : V → V → Prop} (q : R x y) : ∃ v w, [x, y] = [v, w] ∧ R v w := ⟨x, y, rfl, q⟩
theorem rd_v3 {x y z : V} {R : V → V → V → Prop} (q : R x y z) : ∃ u v w, [x, y, z] = [u, v, w] ∧ R u v w := ⟨x, y, z, rfl, q⟩
theorem rd_gtup {n : Nat} {ts : TGs} {R : St → Hp → Prop} (h : Dt H v (.tuple ds)) (hl : ds.length = n) (q : ∀ xs, Da H xs ds → ts xs σ H R) : gTup K n ts v σ H R := by
  obtain ⟨a, xs, rfl, h1, h2⟩ := h.tup_at
  exact ⟨a, xs, rfl, SqT.of h1, by rw [h2.len, hl], q xs h2⟩
theorem rd_gnil {R : St → Hp → Prop} (q : R σ H) : gNil [] σ H R := ⟨rfl, q⟩
theorem rd_gcons {g : TG} {ts : TGs} {xs : List V} {R : St → Hp → Prop} (h : Da H xs (d :: ds)) (q : ∀ u r, Dt H u d → Da H r ds → g u σ H fun σ' H' => ts r σ' H' R) : gCons g ts xs σ H R := by
  cases h with
  | cons h1 h2 => exact ⟨_, _, rfl, q _ _ h1 h2⟩
theorem rd_gnil' {R : St → Hp → Prop} {xs : List V} (h : Da H xs []) (q : R σ H) : gNil xs σ H R := by
  cases h
  exact ⟨rfl, q⟩
/-! ### items -/
theorem rd_ixT {j : Nat} (h : Dt H v (.tuple ds)) (hd : ds[j]? = some d) (q : ∀ u, Dt H u d → Q u H) : rIxT K v (.int j) H Q := by
  obtain ⟨a, xs, rfl, h1, h2⟩ := h.tup_at
  obtain ⟨u, e, hu⟩ := h2.get hd
  exact ⟨a, xs, j, u, rfl, rfl, SqT.of h1, atI_nat e, q u hu⟩
theorem rd_ixTI {j : Nat} {i : Int} (h : Dt H v (.tuple ds)) (hd : ds[j]? = some (.int i)) (q : Q (.int i) H) : rIxT K v (.int j) H Q := rd_ixT h hd fun u hu => by rw [hu.int_eq]; exact q
theorem rd_ixTS {j : Nat} {x : Str} (h : Dt H v (.tuple ds)) (hd : ds[j]? = some (.str x)) (q : Q (.str x) H) : rIxT K v (.int j) H Q := rd_ixT h hd fun u hu => by rw [hu.str_eq]; exact q
theorem rd_ixL {j : Nat} (h : Ls H v ds) (hd : ds[j]? = some d) (q : ∀ u, Dt H u d → Q u H) : rIxL K v (.int j) H Q := by
  obtain ⟨a, xs, rfl, h1, h2⟩ := h
  obtain ⟨u, e, hu⟩ := h2.get hd
  exact ⟨a, xs, j, u, rfl, rfl, SqL.of h1, atI_nat e, q u hu⟩
theorem rd_ixLI {j : Nat} {i : Int} (h : Ls H v ds) (hd : ds[j]? = some (.int i)) (q : Q (.int i) H) : rIxL K v (.int j) H Q := rd_ixL h hd fun u hu => by rw [hu.int_eq]; exact q
theorem rd_ixLa {j : Nat} {xs : List V} (h : H a = some (.lst xs)) (hd : xs[j]? = some u) (q : Q u H) : rIxL K (.ref a) (.int j) H Q := ⟨a, xs, j, u, rfl, rfl, SqL.of h, atI_nat hd, q⟩
/-- len, by its rule for sequences -/
def rLen (K : PySem.W.Frag) : List V → Hp → VK → Prop := fun xs H Q => ∃ p ys, xs = [.ref p] ∧ (SqL K H p ys ∨ SqT K H p ys) ∧ Q (.int ys.length) H
theorem rd_len (h : Dt H v (.tuple ds)) (q : Q (.int ds.length) H) : rLen K [v] H Q := by
  obtain ⟨a, xs, rfl, h1, h2⟩ := h.tup_at
  exact ⟨a, xs, rfl, .inr (SqT.of h1), by rw [h2.len]; exact q⟩
theorem rd_lenL (h : Ls H v ds) (q : Q (.int ds.length) H) : rLen K [v] H Q := by
  obtain ⟨a, xs, rfl, h1, h2⟩ := h
  exact ⟨a, xs, rfl, .inl (SqL.of h1), by rw [h2.len]; exact q⟩
theorem cb_len {X : Cx} : CallR X (.builtin "len") (rLen X.K) := call_len_seq
end
/-! ### what is walked -/
section
variable {K : PySem.W.Frag} {H : Hp} {σ : St} {v : V} {ds : List PyData} {D : Ends} {g : TG} {tb : TS} {te : TE} {tt : TT} {vs : List Nat} {Q : VK} {R : It → Hp → Prop} {wi : TI} {ta : TA}
theorem rd_iT (q : te σ H fun x H1 => ∃ a, x = .ref a ∧ (∃ xs, SqT K H1 a xs) ∧ R (Itt K a) H1) : iTup K te σ H R := q
theorem rd_iL (q : te σ H fun x H1 => ∃ a, x = .ref a ∧ (∃ xs, SqL K H1 a xs) ∧ R (Itl K a) H1) : iList K te σ H R := q
theorem rd_iR1 (q : ta σ H fun vs H1 => ∃ j : Int, vs = [.int j] ∧ -(2 ^ 62) ≤ j ∧ j < 2 ^ 62 ∧ R (Itr 0 j.toNat) H1) : iRng1 ta σ H R := q
theorem rd_iR2 (q : ta σ H fun vs H1 => ∃ i j : Int, vs = [.int i, .int j] ∧ (-(2 ^ 62) ≤ i ∧ i < 2 ^ 62 ∧ -(2 ^ 62) ≤ j ∧ j < 2 ^ 62) ∧ R (Itr i (j - i).toNat) H1) : iRng2 ta σ H R := q
/-- what a for asks of its iterator -/
def FoK (g : TG) (tb : TS) (D : Ends) : St → It → Hp → Prop := fun σ J H1 => ∃ W : Nat → Nat → St → Hp → Prop, (∃ m, W 0 m σ H1) ∧ ∀ i m σ H, W i m σ H →
  (J.stop i H ∧ D.nx σ H) ∨ (J.go i H ∧ ∃ N : St → Hp → Prop, (∀ σ' H', N σ' H' → ∃ m', m' < m ∧ W (i + 1) m' σ' H') ∧ ∀ x H', J.yld i H x H' → g x σ H' fun σ2 H2 => tb { D with nx := N, ct := N, bk := D.nx } σ2 H2)
theorem rd_for (q : wi σ H (FoK g tb D σ)) : tFor wi g tb D σ H := q
/-- what a comprehension asks of its iterator -/
def LcK (g : TG) (tt : TT) (te : TE) (vs : List Nat) (Q : VK) : St → It → Hp → Prop := fun σ J H1 => ∀ D, H1 D = none → ∃ W : Nat → Nat → Hp → Prop, (∃ m, W 0 m (upd H1 D (.lst []))) ∧ ∀ i m H, W i m H →
  (J.stop i H ∧ Q (.ref D) H) ∨ (J.go i H ∧ ∃ Nx : Hp → Prop, (∀ H', Nx H' → ∃ m', m' < m ∧ W (i + 1) m' H') ∧ ∀ x H', J.yld i H x H' → g x (wipe σ vs) H' fun σ2 H2 => wipe σ2 vs = wipe σ vs ∧ tt σ2 H2 fun b H3 =>
    if b = true then te σ2 H3 fun y H4 => ∃ acc, H4 D = some (.lst acc) ∧ acc.length < sizeLine ∧ Nx (upd H4 D (.lst (acc ++ [y]))) else Nx H3)
theorem rd_lc (q : wi σ H (LcK g tt te vs Q σ)) : tLc wi g tt te vs σ H Q := q
theorem rd_yes {R : Bool → Hp → Prop} (q : R true H) : tYes σ H R := q
/-- for x in a tuple of data -/
theorem forT (hx : Dt H v (.tuple ds)) (Pv : Nat → St → Hp → Prop) (h0 : Pv 0 σ H) (hsm : ∀ i σ' H', Pv i σ' H' → Tk H H')
    (hs : ∀ i d u σ' H', ds[i]? = some d → Pv i σ' H' → Dt H' u d → g u σ' H' fun σ2 H2 => tb { D with nx := Pv (i + 1), ct := Pv (i + 1), bk := D.nx } σ2 H2) (hd : ∀ σ' H', Pv ds.length σ' H' → D.nx σ' H') :
    ∃ a, v = .ref a ∧ (∃ xs, SqT K H a xs) ∧ FoK g tb D σ (Itt K a) H := by
  obtain ⟨a, xs, rfl, h1, h2⟩ := hx.tup_at
  refine ⟨a, rfl, ⟨xs, SqT.of h1⟩, for_tup (K := K) (a := a) (xs := xs) Pv h0 (fun i σ' H' _ p => SqT.of (hsm i σ' H' p _ _ h1)) (fun i x σ' H' hi p => ?_) (by rw [h2.len]; exact hd)⟩
  obtain ⟨d, e, hu⟩ := h2.got hi
  exact hs i d x σ' H' e p (hu.up (hsm i σ' H' p))
/-- for x in a list of data that stays -/
theorem forL {a : Addr} {xs : List V} (h1 : H a = some (.lst xs)) (h2 : Da H xs ds) (Pv : Nat → St → Hp → Prop) (h0 : Pv 0 σ H) (hsm : ∀ i σ' H', Pv i σ' H' → Tk H H' ∧ H' a = some (.lst xs))
    (hs : ∀ i d u σ' H', ds[i]? = some d → Pv i σ' H' → Dt H' u d → g u σ' H' fun σ2 H2 => tb { D with nx := Pv (i + 1), ct := Pv (i + 1), bk := D.nx } σ2 H2) (hd : ∀ σ' H', Pv ds.length σ' H' → D.nx σ' H') :
    ∃ b, V.ref a = .ref b ∧ (∃ xs, SqL K H b xs) ∧ FoK g tb D σ (Itl K b) H := by
  refine ⟨a, rfl, ⟨xs, SqL.of h1⟩, for_list (K := K) (a := a) (xs := xs) Pv h0 (fun i σ' H' _ p => SqL.of (hsm i σ' H' p).2) (fun i x σ' H' hi p => ?_) (by rw [h2.len]; exact hd)⟩
  obtain ⟨d, e, hu⟩ := h2.got hi
  exact hs i d x σ' H' e p (hu.up (hsm i σ' H' p).1)
theorem forR {lo : Int} {n : Nat} (Pv : Nat → St → Hp → Prop) (h0 : Pv 0 σ H)
    (hs : ∀ i σ' H', i < n → Pv i σ' H' → g (.int (lo + i)) σ' H' fun σ2 H2 => tb { D with nx := Pv (i + 1), ct := Pv (i + 1), bk := D.nx } σ2 H2) (hd : ∀ σ' H', Pv n σ' H' → D.nx σ' H') : FoK g tb D σ (Itr lo n) H :=
  for_range Pv h0 hs hd
end
/-! ### comprehensions that change nothing that stood -/
section
variable {K : PySem.W.Frag} {H : Hp} {σ : St} {v : V} {ds : List PyData} {g : TG} {tt : TT} {te : TE} {vs : List Nat} {Q : VK}
/-- what a turn does: o is the new item, or none -/
def Turnd (g : TG) (tt : TT) (te : TE) (vs : List Nat) (σ : St) (H' : Hp) (u : V) (o : Option PyData) : Prop :=
  ∀ (R : Hp → Prop) (Y : V → Hp → Prop), (o = none → ∀ H2, Same H' H2 → R H2) → (∀ e, o = some e → ∀ y H2, Same H' H2 → Dt H2 y e → Y y H2) →
    g u (wipe σ vs) H' fun σ2 H2 => wipe σ2 vs = wipe σ vs ∧ tt σ2 H2 fun b H3 => if b = true then te σ2 H3 Y else R H3
def keepsOf (f : Nat → PyData → Option PyData) (ds : List PyData) : List PyData := (ds.zipIdx.filterMap fun p => f p.2 p.1)
theorem keeps_take (f : Nat → PyData → Option PyData) (ds : List PyData) (i : Nat) (d : PyData) (h : ds[i]? = some d) :
    keepsOf f (ds.take (i + 1)) = keepsOf f (ds.take i) ++ (f i d).toList := by
  have hi : i < ds.length := (List.getElem?_eq_some_iff.mp h).1
  have e : ds.take (i + 1) = ds.take i ++ [d] := by rw [List.take_add_one, h]; rfl
  unfold keepsOf
  rw [e, List.zipIdx_append, List.filterMap_append]
  congr 1
  have hl : (ds.take i).length = i := by rw [List.length_take]; omega
  simp only [List.zipIdx_cons, List.zipIdx_nil, List.filterMap_cons, List.filterMap_nil, hl, Nat.zero_add]
  cases f i d <;> rfl
/-- the invariant of such a comprehension: what has been made -/
def LcInv (H : Hp) (Dd : Addr) (n : Nat) (acc : List PyData) (H' : Hp) : Prop := H Dd = none ∧ Same H H' ∧ ∃ xs, H' Dd = some (.lst xs) ∧ Da H' xs acc ∧ xs.length ≤ n
theorem LcInv.start {Dd : Addr} (h : H Dd = none) : LcInv H Dd 0 [] (upd H Dd (.lst [])) := ⟨h, same_upd h, [], upd_same, .nil, Nat.le_refl _⟩
theorem LcInv.more {Dd : Addr} {n : Nat} {acc : List PyData} {H' H2 : Hp} {y : V} {e : PyData} (I : LcInv H Dd n acc H') (s : Same H' H2) (hy : Dt H2 y e) (hn : n < sizeLine) :
    ∃ ac, H2 Dd = some (.lst ac) ∧ ac.length < sizeLine ∧ LcInv H Dd (n + 1) (acc ++ [e]) (upd H2 Dd (.lst (ac ++ [y]))) := by
  obtain ⟨h0, s0, xs, h1, h2, h3⟩ := I
  have h1' := s _ _ h1
  refine ⟨xs, h1', by omega, h0, fun b o q => ?_, xs ++ [y], upd_same, ?_, by simp; omega⟩
  · rw [upd_ne (ne_of_none q h0)]; exact s _ _ (s0 _ _ q)
  · exact ((h2.ups s).app (.one hy)).up (Tk.lst h1')
theorem LcInv.skip {Dd : Addr} {n : Nat} {acc : List PyData} {H' H2 : Hp} (I : LcInv H Dd n acc H') (s : Same H' H2) : LcInv H Dd (n + 1) acc H2 := by
  obtain ⟨h0, s0, xs, h1, h2, h3⟩ := I
  exact ⟨h0, s0.trans s, xs, s _ _ h1, h2.ups s, by omega⟩
theorem LcInv.same {Dd : Addr} {n : Nat} {acc : List PyData} {H' : Hp} (I : LcInv H Dd n acc H') : Same H H' := I.2.1
theorem LcInv.fin {Dd : Addr} {n : Nat} {acc : List PyData} {H' : Hp} (I : LcInv H Dd n acc H') : Ls H' (.ref Dd) acc := let ⟨_, _, xs, h1, h2, _⟩ := I; ⟨Dd, xs, rfl, h1, h2⟩
/-- one turn, from what it does -/
theorem Turnd.go {Dd : Addr} {i : Nat} {acc : List PyData} {H' : Hp} {u : V} {o : Option PyData} (t : Turnd g tt te vs σ H' u o) (I : LcInv H Dd i acc H') (hn : i < sizeLine) {Nx : Hp → Prop} (hN : ∀ H2, LcInv H Dd (i + 1) (acc ++ o.toList) H2 → Nx H2) :
    g u (wipe σ vs) H' fun σ2 H2 => wipe σ2 vs = wipe σ vs ∧ tt σ2 H2 fun b H3 => if b = true then te σ2 H3 fun y H4 => ∃ ac, H4 Dd = some (.lst ac) ∧ ac.length < sizeLine ∧ Nx (upd H4 Dd (.lst (ac ++ [y]))) else Nx H3 := by
  refine t _ _ (fun e H2 s => hN H2 ?_) fun e ee y H2 s hy => ?_
  · rw [e]; simpa using I.skip s
  · obtain ⟨ac, h1, h2, h3⟩ := I.more s hy hn
    exact ⟨ac, h1, h2, hN _ (by rw [ee]; exact h3)⟩
theorem small {n : Nat} (h : n ≤ 1000) {i : Nat} (hi : i < n) : i < sizeLine := Nat.lt_of_lt_of_le hi (Nat.le_trans h (by decide))
/-- over a tuple -/
theorem lcT (hx : Dt H v (.tuple ds)) (f : Nat → PyData → Option PyData) (turn : ∀ i d u H', ds[i]? = some d → Same H H' → Dt H' u d → Turnd g tt te vs σ H' u (f i d)) (hn : ds.length ≤ 1000)
    (q : ∀ Dd H', H Dd = none → Same H H' → Ls H' (.ref Dd) (keepsOf f ds) → Q (.ref Dd) H') : ∃ a, v = .ref a ∧ (∃ xs, SqT K H a xs) ∧ LcK g tt te vs Q σ (Itt K a) H := by
  obtain ⟨a, xs, rfl, h1, h2⟩ := hx.tup_at
  refine ⟨a, rfl, ⟨xs, SqT.of h1⟩, fun Dd hD => lc_tup (Qd := Q (.ref Dd)) (K := K) (a := a) (xs := xs) (fun i H' => LcInv H Dd i (keepsOf f (ds.take i)) H') (LcInv.start hD) (fun i H' _ p => SqT.of (p.same _ _ h1)) (fun i x H' hi p => ?_) (fun H' p => ?_)⟩
  · obtain ⟨d, e, hu⟩ := h2.got hi
    have hl := (List.getElem?_eq_some_iff.mp e).1
    exact (turn i d x H' e p.same (hu.ups p.same)).go p (small hn hl) fun H2 I => by rw [keeps_take f ds i d e]; exact I
  · rw [h2.len, List.take_length] at p
    exact q Dd H' hD p.same p.fin
/-- over a list -/
theorem lcL (hx : Ls H v ds) (f : Nat → PyData → Option PyData) (turn : ∀ i d u H', ds[i]? = some d → Same H H' → Dt H' u d → Turnd g tt te vs σ H' u (f i d)) (hn : ds.length ≤ 1000)
    (q : ∀ Dd H', H Dd = none → Same H H' → Ls H' (.ref Dd) (keepsOf f ds) → Q (.ref Dd) H') : ∃ a, v = .ref a ∧ (∃ xs, SqL K H a xs) ∧ LcK g tt te vs Q σ (Itl K a) H := by
  obtain ⟨a, xs, rfl, h1, h2⟩ := hx
  refine ⟨a, rfl, ⟨xs, SqL.of h1⟩, fun Dd hD => lc_list (Qd := Q (.ref Dd)) (K := K) (a := a) (xs := xs) (fun i H' => LcInv H Dd i (keepsOf f (ds.take i)) H') (LcInv.start hD) (fun i H' _ p => SqL.of (p.same _ _ h1)) (fun i x H' hi p => ?_) (fun H' p => ?_)⟩
  · obtain ⟨d, e, hu⟩ := h2.got hi
    have hl := (List.getElem?_eq_some_iff.mp e).1
    exact (turn i d x H' e p.same (hu.ups p.same)).go p (small hn hl) fun H2 I => by rw [keeps_take f ds i d e]; exact I
  · rw [h2.len, List.take_length] at p
    exact q Dd H' hD p.same p.fin
/-- over a range -/
theorem lcR {lo : Int} {n : Nat} (f : Nat → Option PyData) (turn : ∀ i H', i < n → Same H H' → Turnd g tt te vs σ H' (.int (lo + i)) (f i)) (hn : n ≤ 1000)
    (q : ∀ Dd H', H Dd = none → Same H H' → Ls H' (.ref Dd) ((List.range n).filterMap f) → Q (.ref Dd) H') : LcK g tt te vs Q σ (Itr lo n) H := by
  intro Dd hD
  refine lc_range (Qd := Q (.ref Dd)) (lo := lo) (n := n) (fun i H' => LcInv H Dd i ((List.range i).filterMap f) H') (LcInv.start hD) (fun i H' hi p => ?_) (fun H' p => q Dd H' hD p.same p.fin)
  refine (turn i H' hi p.same).go p (small hn hi) fun H2 I => ?_
  rw [List.range_succ, List.filterMap_append, List.filterMap_cons]
  cases e : f i with
  | none => rw [e] at I; simpa using I
  | some d => rw [e] at I; simpa using I
end
end Cz

set_option Elab.async false
set_option linter.all false
set_option maxRecDepth 100000
set_option maxHeartbeats 1000000
/-! rules that the layer lacks -/
namespace Cz
open PySem L2
section
variable {X : Cx}
/-! ### a text repeated -/
def rStrRep : R2 := fun x y H Q => ∃ z n, x = .str z ∧ y = .int n ∧ 0 ≤ n ∧ n ≤ 1000 ∧ z.length ≤ 1000 ∧ Q (.str (Txt.mul z n)) H
theorem op_strRep : OpR X (binaryOp .Mult) rStrRep := by
  intro pins s σ H x y v u Q I rx ry h
  obtain ⟨z, n, rfl, rfl, h0, h1, h2, q⟩ := h
  obtain ⟨t, rfl⟩ := rx
  obtain ⟨t', rfl⟩ := ry
  have hm : z.length * n.toNat ≤ 1000000 := Nat.le_trans (Nat.mul_le_mul h2 (show n.toNat ≤ 1000 by omega)) (by decide)
  refine SB.mul ⟨?_, fun g _ => ?_, fun _ _ => ?_⟩ fun t2 k => ⟨.str _, H, I.tok _, ⟨_, rfl⟩, q⟩
  · rw [decide_eq_false (by omega), decide_eq_false (by omega)]; rfl
  · have hp : 0 < n := by omega
    have : (1000 : Int) ≤ (2 ^ 63 - 1) / n := (Int.le_ediv_iff_mul_le hp).mpr (by omega)
    omega
  · unfold Builtin.Str.tooLong
    refine decide_eq_false ?_
    have := sizeLine_eq
    omega

/-! ### for over a list or a tuple, whichever it is -/
theorem pi_seq {tg l : Expr} {tl : TE} (hl : PE X l tl) : PI X tg l (fun σ H R => iList X.K tl σ H R ∨ iTup X.K tl σ H R) :=
  ⟨fun pins s σ H R I h => h.elim (fun q => (pi_list hl).run pins s σ H R I q) fun q => (pi_tup hl).run pins s σ H R I q⟩

/-! ### x in a tuple of data -/
def rInT (K : PySem.W.Frag) (neg : Bool) : R2 := fun x y H Q => ∃ d ds, Dt H x d ∧ Dt H y (.tuple ds) ∧ SeqAt.shaped d = true ∧ SeqAt.shaped (.tuple ds) = true ∧ Q (.bl (if neg then !(ds.any fun z => PyData.eqv z d) else ds.any fun z => PyData.eqv z d)) H
theorem in_room {d : PyData} {ds : List PyData} {A : Around} (sd : SeqAt.shaped d = true) (hu : A.units + 65 < cLine) : A.units + 1 + min (PyData.depthAll ds) d.depth < cLine := by
  have h1 := SeqAt.depth_of_shaped sd
  omega
theorem op_inT (hu : X.A.units + 65 < cLine) : OpR X (compareOp .In) (rInT X.K false) := by
  intro pins s σ H x y v u Q I rx ry h
  obtain ⟨d, ds, hd, he, sd, se, q⟩ := h
  obtain ⟨as, r1⟩ := Dp.reads I d x v (hd.dp X.K) rx
  obtain ⟨bs, r2⟩ := Dp.reads I (.tuple ds) y u (he.dp X.K) ry
  exact SeqAt.in_tuple_reads r2 r1 (SeqAt.canLay_of_shaped se) (SeqAt.canLay_of_shaped sd) (in_room sd hu) ⟨.bl _, H, I, rfl, q⟩
theorem op_notInT (hu : X.A.units + 65 < cLine) : OpR X (compareOp .NotIn) (rInT X.K true) := by
  intro pins s σ H x y v u Q I rx ry h
  obtain ⟨d, ds, hd, he, sd, se, q⟩ := h
  obtain ⟨as, r1⟩ := Dp.reads I d x v (hd.dp X.K) rx
  obtain ⟨bs, r2⟩ := Dp.reads I (.tuple ds) y u (he.dp X.K) ry
  exact SeqAt.notIn_tuple_reads r2 r1 (SeqAt.canLay_of_shaped se) (SeqAt.canLay_of_shaped sd) (in_room sd hu) ⟨.bl _, H, I, rfl, q⟩

/-! ### xs[i], for xs[i] op= e -/
def gtL (K : PySem.W.Frag) : V → V → Hp → VK → Prop := fun o i H Q => ∃ (p : Addr) (xs : List V) (j : Nat) (v : V), o = .ref p ∧ i = .int j ∧ SqL K H p xs ∧ xs[j]? = some v ∧ Q v H
theorem get_list : PGet X (gtL X.K) := by
  intro pins s σ H o i ov iv Q I ro ri h
  obtain ⟨p, xs, j, v, rfl, rfl, hx, hv, q⟩ := h
  cases ro
  obtain ⟨t, rfl⟩ := ri
  obtain ⟨its, rv, hp, hz⟩ := I.list hx
  obtain ⟨w, e, rw'⟩ := rv.get hv
  have hj := (List.getElem?_eq_some_iff.mp hv).1
  have := sizeLine_eq
  exact wpAny_getItem_list hp.isList (by omega) (by omega) (by simpa using e) ⟨v, H, I, rw', q⟩

/-! ### a dict of one entry, its key a tuple -/
def tDisp1 (tk tv : TE) : TE := fun σ H Q => ∀ p, H p = none → tk σ (upd H p (.dT [])) fun x H1 => tv σ H1 fun y H2 => H2 p = some (.dT []) ∧ ∃ (k : List Key) (b : Addr), x = .ref b ∧ H2 b = some (.tup (k.map kV)) ∧ Q (.ref p) (upd H2 p (.dT [(k, y)]))
theorem pe_disp1 {k v : Expr} {tk tv : TE} {pos : Pos} (hu : X.A.units + 1 < cLine) (hk : PE X k tk) (hv : PE X v tv) : PE X (.Dict [some k] [v] pos) (tDisp1 tk tv) := by
  refine ⟨fun pins s σ H Q I q => ?_⟩
  have hn := I.hok.fresh (Nat.le_refl s.heap.objs.size)
  have I1 := I.laid (a := s.heap.objs.size) (o := .dT []) (h' := s.heap.push { cls := .type "dict", data := .dict #[] }) (t' := s.toks) (fun _ _ q => Heap.get?_push_of_some _ q) (Nat.le_refl _) (dt_empty s.heap I.big)
  have hr : (tupleKind (mixKind X.prog X.w)).room X.A := show X.A.units < cLine by omega
  have sh : (evalEachOpt [some k] X.env).zip ((evalEach [v] X.env).map fun v => do let x ← v; standAt pos; pure x) = (pairTrees [some k] [v] X.env pos).map fun p => (some p.1, p.2) := rfl
  rw [arm_eval_Dict, sh, dictDisplay_pairs (pairTrees [some k] [v] X.env pos) (List.cons_ne_nil _ _) (by show 1 < _; decide)]
  refine wpAny_bind (wpAny_standAt (wpAny_bind (wpAny_subDictH (knd := tupleKind (mixKind X.prog X.w)) hr (show 1 ≤ 15 by decide) ?_)))
  refine pairTrees_cons_walk (thn (hk.run pins _ σ _ _ I1 (q _ hn)) fun u s1 ⟨x, H1, I2, rx, q1⟩ => thn (hv.run pins s1 σ H1 _ I2 q1) fun u2 s2 ⟨y, H2, I3, ry, e, ks, b, ex, hb, q2⟩ => pairTrees_nil_walk ?_)
  subst ex
  obtain rfl : u = Value.ref b := rx
  obtain ⟨z, hd, xs, rel, dd⟩ := dt_of I3.hok e
  cases rel
  refine ⟨[(ks, b, u2)], ⟨rfl, rfl, key_of I3.hok hb, True.intro⟩, dd, fun h' tk dd' hs => wpAny_pure ⟨.ref s.heap.objs.size, _, ?_, rfl, q2⟩⟩
  obtain ⟨o, es, ep, hq, h2, h3, h4, _, h5⟩ := dd'
  refine d_write I3 (by rw [e]; exact True.intro) hs ⟨o, hq⟩ ⟨show 1 ≤ sizeLine by decide, hd, [(ks, b, u2)], .cons ⟨rfl, ?_, ry⟩ .nil, o, es, ep, hq, h2, h3, h4, h5⟩
  show (upd H2 s.heap.objs.size _) b = _
  rw [upd_ne (ne_of hb e (fun z => nomatch z))]
  exact hb
end
end Cz

set_option Elab.async false
set_option linter.all false
set_option maxRecDepth 100000
set_option maxHeartbeats 1000000
/-! dicts with tuple keys, walked -/
namespace Cz
open PySem L2
section
variable {X : Cx} {pins : List (Addr × Obj)} {σ : St} {H : Hp} {s : Shared} {d : Addr} {o : Obj} {kvs : List (List Key × V)}
/-- what a locked dict's object is -/
theorem frz_raw (I : L2.Inv X pins σ H s) (h : H d = some (.frz o (.dT kvs))) : (d == sysModules) = false ∧ ∃ (es : Array DictEntry) (ep : Nat), s.heap.DictRaw d es ep ∧ o.data = .dict es ep ∧ es.size = kvs.length ∧
    ∀ (i : Nat) (k : List Key) (v : V) (hi : i < es.size), kvs[i]? = some (k, v) → ∃ q, es[i].key = .ref q ∧ H q = some (.tup (k.map kV)) ∧ RelV v es[i].val := by
  obtain ⟨hd, z, hs, xs, pr, o', es, ep, ho, hx, hdt, he, hn⟩ := I.hok d _ h
  rw [hd] at ho
  obtain rfl := Option.some.inj ho
  have l1 : es.size = xs.length := size_of_entries he
  have l2 : kvs.length = xs.length := Paired.length pr
  refine ⟨hs, es, ep, ⟨o, hd, hx, hdt⟩, hdt, by omega, fun i k v hi e => ?_⟩
  obtain ⟨b, hb, e1, e2, e3⟩ := paired_get pr e
  have q := entry_at he i
  rw [hb, Array.getElem?_eq_getElem hi] at q
  have q2 : es[i] = entryOfKey (tupleKind (mixKind X.prog X.w)) b := Option.some.inj q
  exact ⟨b.2.1, by rw [q2]; rfl, e2, by rw [q2]; exact e3⟩
theorem frz_same {o : Obj} {es es' : Array DictEntry} {ep ep' : Nat} (h : o.data = .dict es ep) (h' : o.data = .dict es' ep') : es' = es ∧ ep' = ep := dict_ep h h'
end
/-- the values of the locked dict at d -/
def Itvt (d : Addr) (o : Obj) (kvs : List (List Key × V)) : It :=
  ⟨fun i H => H d = some (.frz o (.dT kvs)) ∧ i < kvs.length, fun i H x H' => H' = H ∧ ∃ k, kvs[i]? = some (k, x), fun i H => H d = some (.frz o (.dT kvs)) ∧ kvs.length ≤ i⟩
/-- its pairs, each a new tuple -/
def Itit (d : Addr) (o : Obj) (kvs : List (List Key × V)) : It :=
  ⟨fun i H => H d = some (.frz o (.dT kvs)) ∧ i < kvs.length, fun i H x H' => ∃ (T : Addr) (k : List Key) (v : V) (q : Addr), kvs[i]? = some (k, v) ∧ H q = some (.tup (k.map kV)) ∧ x = .ref T ∧ H T = none ∧ H' = upd H T (.tup [.ref q, v]), fun i H => H d = some (.frz o (.dT kvs)) ∧ kvs.length ≤ i⟩
section
variable {P : Program} {w : World} {K : PySem.W.Frag} {tg : Expr} {d : Addr} {o : Obj} {es : Array DictEntry} {ep : Nat} {kvs : List (List Key × V)}
theorem turn_valsT (it : Addr) (hod : o.data = .dict es ep) (hsz : es.size = kvs.length) : Turn P w K tg (Itvt d o kvs) [it] it (fun i h => h.IsValIter it d i es.size ep) where
  mem := List.mem_singleton.mpr rfl
  obj := by
    intro i h ⟨oi, e, c, dd⟩ b hb
    obtain rfl := List.mem_singleton.mp hb
    exact ⟨oi, e, fun v z => by rw [dd] at z; cases z⟩
  keep := fun i h h' st k => st.at fun oi e => k it (List.mem_singleton.mpr rfl) oi e
  item := by
    intro X hP hw hK hc i pins s σ H E I hf st ⟨hd, hi⟩
    subst hP hw hK
    obtain ⟨f0, f1, f2, f3, f4, f5⟩ := hf it (List.mem_singleton.mpr rfl)
    obtain ⟨hs, es', ep', raw, hdt, hz, ent⟩ := frz_raw I hd
    obtain ⟨rfl, rfl⟩ := frz_same hod hdt
    have hi' : i < es'.size := by omega
    obtain ⟨k, v, hkv⟩ : ∃ k v, kvs[i]? = some (k, v) := ⟨kvs[i].1, kvs[i].2, List.getElem?_eq_getElem hi⟩
    obtain ⟨q, e1, e2, e3⟩ := ent i k v hi' hkv
    refine wpAny_pyNext_values_item_raw st raw hi' fun h' st' sb => ⟨_, rfl, ?_⟩
    have I1 : L2.Inv X pins σ H { s with heap := h' } := I.turned (t' := s.toks) (fun b ob hb e => (sb.2 b hb).trans e) f0 f1 f3 f4 f5
    obtain ⟨oi, e, c, dd⟩ := id st'
    exact go_of (s := { s with heap := h' }) e c dd (by decide) ⟨v, H, I1, e3, ⟨rfl, k, hkv⟩, st', fun b hb => (hf b hb).1⟩
  done := by
    intro X hP hw hK hc i pins s σ H E I hf st ⟨hd, hi⟩
    subst hP hw hK
    obtain ⟨f0, f1, f2, f3, f4, f5⟩ := hf it (List.mem_singleton.mpr rfl)
    obtain ⟨hs, es', ep', raw, hdt, hz, ent⟩ := frz_raw I hd
    obtain ⟨rfl, rfl⟩ := frz_same hod hdt
    exact wpAny_pyNext_values_end_raw (I.ok.hd hc) st raw (by omega) fun h' eb => ⟨rfl, I.turned (t' := s.toks) (fun b ob hb e => eb b ob hb e) f0 f1 f3 f4 f5⟩
  self := fun A i s Q E st h => wpAny_pyIter_valiter st h
theorem turn_itemsT {elts : List Expr} {kk : Nat} {tpos : Pos} (it : Addr) (hod : o.data = .dict es ep) (hsz : es.size = kvs.length) :
    Turn P w K (.Tuple elts kk tpos) (Itit d o kvs) [it] it (fun i h => ∃ ok ov, IsItemIter h it d i es.size ep ok ov) where
  mem := List.mem_singleton.mpr rfl
  obj := by
    intro i h ⟨ok, ov, e⟩ b hb
    obtain rfl := List.mem_singleton.mp hb
    exact ⟨_, e, fun v z => nomatch z⟩
  keep := fun i h h' ⟨ok, ov, e⟩ k => ⟨ok, ov, k it (List.mem_singleton.mpr rfl) _ e⟩
  item := by
    intro X hP hw hK hc i pins s σ H E I hf ⟨ok, ov, he⟩ ⟨hd, hi⟩
    subst hP hw hK
    obtain ⟨hs, es', ep', raw, hdt, hz, ent⟩ := frz_raw I hd
    obtain ⟨rfl, rfl⟩ := frz_same hod hdt
    have hi' : i < es'.size := by omega
    obtain ⟨k, v, hkv⟩ : ∃ k v, kvs[i]? = some (k, v) := ⟨kvs[i].1, kvs[i].2, List.getElem?_eq_getElem hi⟩
    obtain ⟨q, e1, e2, e3⟩ := ent i k v hi' hkv
    have hlt : it < s.heap.objs.size := Heap.lt_size he
    refine wpAny_pyNext_items_item_raw he raw hi' fun h' ho hT hz' hk => ⟨_, rfl, ?_⟩
    refine wpAny_letOwnedTupleGo_items (s := { s with heap := h' }) ho fun h'' he' sb => ?_
    have hT2 := (sb.2 _ (Nat.ne_of_gt hlt)).trans hT
    have new : ObjOk X.prog X.w (upd H s.heap.objs.size (.tup [.ref q, v])) h'' s.heap.objs.size (.tup [.ref q, v]) :=
      ⟨show 2 ≤ sizeLine by decide, [es'[i].key, es'[i].val], .cons e1 (.cons e3 .nil), ⟨_, hT2, rfl, _, rfl⟩⟩
    have I1 := I.turnedNew (h' := h'') (t' := s.toks) (ch := [it]) (fun b ob hb e => by
      have hb' : b ≠ it := fun z => hb (List.mem_singleton.mpr z)
      exact (sb.2 b hb').trans (hk b ob hb' e)) hf (Nat.le_refl _) new
    refine ⟨.ref s.heap.objs.size, _, I1, rfl, ⟨_, k, v, q, hkv, e2, rfl, I.hok.fresh (Nat.le_refl _), rfl⟩, ⟨_, _, he'⟩, fun b hb => ?_⟩
    obtain rfl := List.mem_singleton.mp hb
    rw [upd_ne (Nat.ne_of_lt hlt)]
    exact (hf _ hb).1
  done := by
    intro X hP hw hK hc i pins s σ H E I hf ⟨ok, ov, he⟩ ⟨hd, hi⟩
    subst hP hw hK
    obtain ⟨f0, f1, f2, f3, f4, f5⟩ := hf it (List.mem_singleton.mpr rfl)
    obtain ⟨hs, es', ep', raw, hdt, hz, ent⟩ := frz_raw I hd
    obtain ⟨rfl, rfl⟩ := frz_same hod hdt
    exact wpAny_pyNext_items_end_raw (I.ok.hd hc) he raw (by omega) fun h' eb => ⟨rfl, I.turned (t' := s.toks) (fun b ob hb e => eb b ob hb e) f0 f1 f3 f4 f5⟩
  self := fun A i s Q E ⟨_, _, e⟩ h => PySem.W.kcp_self e h
end
def iValsT (td : TE) : TI := fun σ H R => td σ H fun x H1 => ∃ d o kvs, x = .ref d ∧ H1 d = some (.frz o (.dT kvs)) ∧ R (Itvt d o kvs) H1
def iItemsT (td : TE) : TI := fun σ H R => td σ H fun x H1 => ∃ d o kvs, x = .ref d ∧ H1 d = some (.frz o (.dT kvs)) ∧ R (Itit d o kvs) H1
section
variable {X : Cx} {tg e : Expr} {td : TE} {apos cpos : Pos}
theorem raw_noDict {s : Shared} {d : Addr} {es : Array DictEntry} {ep : Nat} (raw : s.heap.DictRaw d es ep) : ∀ b, Value.ref d = .ref b → ∃ ob, s.heap.get? b = some ob ∧ ob.dict = none := fun b q => by
  cases q
  obtain ⟨o, ho, hc, _⟩ := raw
  exact ⟨o, ho, hc.2.1⟩
theorem pi_valsT (he : PE X e td) (hbase : attributeBase e "values" X.env (eval e X.env) = eval e X.env := by rfl) (hline : (apos.endLine == cpos.line) = true := by rfl) : PI X tg (.Call (.Attribute e "values" apos) [] [] cpos) (iValsT td) := by
  refine ⟨fun pins s σ H R I h => ?_⟩
  refine wpAny_Call_method (T := "dict") (id := "dict.values") hbase rfl hline F.plainAttrs_dict F.slot_dict_values F.type_dict_values (thn (he.run pins s σ H _ I h) fun u s1 ⟨x, H1, I1, rx, d, o, kvs, ex, hd, q⟩ => ?_)
  subst ex
  obtain rfl : u = Value.ref d := rx
  obtain ⟨hs, es, ep, raw, hdt, hz, ent⟩ := frz_raw I1 hd
  refine ⟨raw.typeIs, raw_noDict raw, ?_⟩
  have I2 : L2.Inv X pins σ H1 { s1 with heap := s1.heap.push { cls := .type "dict_values", data := .fields #[.ref d] } } := I1.kept (t' := s1.toks) fun b ob q => Heap.get?_push_of_some _ q
  have raw2 : (s1.heap.push { cls := .type "dict_values", data := .fields #[.ref d] }).DictRaw d es ep := raw.at fun o e => Heap.get?_push_of_some _ e
  have fin : wpAny (model X.prog X.w) X.A (pyIter (.ref s1.heap.objs.size)) (PIE X pins σ tg R) X.xe { s1 with heap := s1.heap.push { cls := .type "dict_values", data := .fields #[.ref d] } } :=
    wpAny_pyIter_values_raw (d := d) ⟨_, Heap.get?_push_size _ rfl, rfl, rfl⟩ raw2 (pi_one (tk := s1.toks) I2 _ (turn_valsT _ hdt hz) ⟨_, Heap.get?_push_size _ rfl, rfl, rfl⟩ q)
  show wpAny _ _ (callWith cpos (.builtin "dict.values") [.ref d] [] []) _ X.xe s1
  exact method_meetsIn F.slot_dict_values F.entry_dict_values rfl (PySem.evalArgs_none ⟨rfl, raw.typeIs, F.args_dict_values_1 _, _, meets_dict_values_raw d hs, ⟨es, ep, raw⟩, fin⟩)
theorem pi_itemsT {elts : List Expr} {kk : Nat} {tpos : Pos} (he : PE X e td) (hbase : attributeBase e "items" X.env (eval e X.env) = eval e X.env := by rfl) (hline : (apos.endLine == cpos.line) = true := by rfl) :
    PI X (.Tuple elts kk tpos) (.Call (.Attribute e "items" apos) [] [] cpos) (iItemsT td) := by
  refine ⟨fun pins s σ H R I h => ?_⟩
  refine wpAny_Call_method (T := "dict") (id := "dict.items") hbase rfl hline F.plainAttrs_dict F.slot_dict_items F.type_dict_items (thn (he.run pins s σ H _ I h) fun u s1 ⟨x, H1, I1, rx, d, o, kvs, ex, hd, q⟩ => ?_)
  subst ex
  obtain rfl : u = Value.ref d := rx
  obtain ⟨hs, es, ep, raw, hdt, hz, ent⟩ := frz_raw I1 hd
  refine ⟨raw.typeIs, raw_noDict raw, ?_⟩
  have I2 : L2.Inv X pins σ H1 { s1 with heap := s1.heap.push { cls := .type "dict_items", data := .fields #[.ref d] } } := I1.kept (t' := s1.toks) fun b ob q => Heap.get?_push_of_some _ q
  have raw2 : (s1.heap.push { cls := .type "dict_items", data := .fields #[.ref d] }).DictRaw d es ep := raw.at fun o e => Heap.get?_push_of_some _ e
  have fin : wpAny (model X.prog X.w) X.A (pyIter (.ref s1.heap.objs.size)) (PIE X pins σ (.Tuple elts kk tpos) R) X.xe { s1 with heap := s1.heap.push { cls := .type "dict_items", data := .fields #[.ref d] } } :=
    wpAny_pyIter_items_raw (d := d) ⟨_, Heap.get?_push_size _ rfl, rfl, rfl⟩ raw2 (pi_one (tk := s1.toks) I2 _ (turn_itemsT _ hdt hz) ⟨.none, .none, Heap.get?_push_size _ rfl⟩ q)
  show wpAny _ _ (callWith cpos (.builtin "dict.items") [.ref d] [] []) _ X.xe s1
  exact method_meetsIn F.slot_dict_items F.entry_dict_items rfl (PySem.evalArgs_none ⟨rfl, raw.typeIs, F.args_dict_items_1 _, _, meets_dict_items_raw d hs, ⟨es, ep, raw⟩, fin⟩)
/-- a value that is a dict of the call's own, locked from here on -/
def tFrz (t : TE) : TE := fun σ H Q => t σ H fun v H1 => ∃ d u, v = .ref d ∧ H1 d = some u ∧ Mut (some u) ∧ ∀ od, Q v (upd H1 d (.frz od u))
theorem pe_frz {t : TE} (h : PE X e t) : PE X e (tFrz t) := ⟨fun pins s σ H Q I hw => by
  refine thn (h.run pins s σ H _ I hw) fun v s1 ⟨x, H1, I1, r1, d, u, ev, hd, mu, q⟩ => ?_
  obtain ⟨od, I2⟩ := I1.lock hd mu
  exact ⟨x, _, I2, r1, q od⟩⟩
end
end Cz

set_option Elab.async false
set_option linter.all false
set_option maxRecDepth 100000
set_option maxHeartbeats 1000000
/-! sorted of tuples, empty ones among them too -/
namespace Cz
open PySem L2
open PySem.W (AllAlike alike alikeAll dataLt dataLe dataKind SortsAt EachIs keyToks)
section
variable {prog : Program} {w : World} {A : Around} {s : Shared}
/-- one tuple against another, where all keys are of one type -/
theorem oneLt_tup {f : Bool} {xs ys : List PyData} {a b : Value} {as bs : List Addr} {E : Value → Shared → Prop} {Q : Bool → Shared → Prop} (ra : Reads s.heap a (.tuple xs) as) (rb : Reads s.heap b (.tuple ys) bs) (h : alike (.tuple xs) (.tuple ys) = true)
    (hu : A.units + min (PyData.tuple xs).depth (PyData.tuple ys).depth < cLine) (hq : Q (dataLt (.tuple xs) (.tuple ys)) s) : wpAny (model prog w) A (PyProof.Rows.oneLt' f a b) Q E s := by
  cases f with
  | false => exact PySem.W.oneLt_alike (fun z => absurd z Bool.false_ne_true) ra rb h (fun z => nomatch z) hu hq
  | true =>
    have hal : alikeAll xs ys = true := by simpa [alike] using h
    cases ra with
    | @tuple l o vs n _ as₁ h1 h2 h3 h4 =>
      cases rb with
      | @tuple l' o' vs' n' _ bs₁ k1 k2 k3 k4 =>
        have n1 : vs.size = xs.length := by simpa using SeqAt.ReadsAll.length _ _ _ h4
        have n2 : vs'.size = ys.length := by simpa using SeqAt.ReadsAll.length _ _ _ k4
        rw [PySem.W.dataLt_tuple, ← PySem.W.firstLt_toks xs ys hal, ← n1, ← n2] at hq
        rw [PyProof.Rows.oneLt'_eq]
        simp only [if_true]
        have hroom : A.units < cLine := by omega
        refine wpAny_bind (wpAny_cRoomFor hroom ?_)
        obtain ⟨oc, od, dt, sl⟩ := o
        obtain ⟨oc', od', dt', sl'⟩ := o'
        simp only at h2 h3 k2 k3
        subst h2 h3 k2 k3
        refine wpAny_bind (wpAny_callSpecialIfBound?_slot (T := "tuple") ⟨_, h1, rfl⟩ PySem.F.slot_tuple_lt (call_meets PySem.F.slot_tuple_lt ⟨_, h1, rfl⟩ PySem.F.entry_tuple_lt (PySem.F.args_tuple_lt_2 _ _)
          (SeqAt.tuple_ltAt l l' vs vs' n n' od od' sl sl' (SeqAt.pairEq xs ys) (fun j => dataLt (xs.getD j .none) (ys.getD j .none))) ⟨h1, k1, fun j j1 j2 => ?_, fun j j1 j2 hj => ?_, ?_⟩))
        · have := PySem.W.eqAt_alikeAll xs ys A.in1 s vs.toList vs'.toList _ _ h4 k4 hal (SeqAt.room_in hu) j (by simpa using j1) (by simpa using j2)
          simpa using this
        · have := PySem.W.rcLt_alikeAll xs ys A.in1 s vs.toList vs'.toList _ _ h4 k4 hal (SeqAt.room_in hu) j (by simpa using j1) (by simpa using j2) hj
          simpa using this
        · exact wpAny_truthy_bool hq
/-- the first items of tuples -/
def firstsOf (h : Heap) : List Value → List (Option Value) → Prop
  | [], [] => True
  | v :: vs, f :: fs => (∃ a o xs n, v = .ref a ∧ h.get? a = some o ∧ o.cls = .type "tuple" ∧ o.data = .seq xs n ∧ xs[0]? = f) ∧ firstsOf h vs fs
  | _, _ => False
theorem firsts_map {M : Model} {E : Value → Shared → Prop} : ∀ (vs : List Value) (fs : List (Option Value)) {Q : List (Option Value) → Shared → Prop}, firstsOf s.heap vs fs → Q fs s → wpAny M A (vs.mapM PyProof.Rows.firstOfTuple') Q E s
  | [], [], _, _, h => by rw [List.mapM_nil]; exact wpAny_pure h
  | [], _ :: _, _, t, _ => t.elim
  | _ :: _, [], _, t, _ => t.elim
  | v :: vs, f :: fs, Q, t, h => by
    obtain ⟨⟨a, o, xs, n, rfl, ho, hc, hd, hf⟩, t⟩ := t
    rw [List.mapM_cons]
    refine wpAny_bind ?_
    rw [PySem.W.kas_first_eq]
    have lk : PySem.W.Looks M s.heap (typeOf (.ref a)) o.cls := (PySem.W.Looks.ld ho).andThen .now
    refine wpAny_bind (lk.here ?_)
    rw [hc, if_neg (by decide)]
    refine wpAny_bind (PyProof.Rows.listItems_at ho hd (wpAny_pure ?_))
    rw [hf]
    exact wpAny_bind (firsts_map vs fs (Q := fun b s' => wpAny M A (pure (f :: b)) Q E s') t (wpAny_pure h))
/-- the kind of keys that tuples are, one of them empty -/
def mixKd (fs : List (Option Value)) : PyProof.Rows.SortKind := if (fs[0]?.bind id).isSome = true then PyProof.Rows.general' else PyProof.Rows.oneType'
theorem kind_mix {M : Model} {E : Value → Shared → Prop} {vs : List Value} {fs : List (Option Value)} {Q : PyProof.Rows.SortKind → Shared → Prop} (t : firstsOf s.heap vs fs) (h2 : 2 ≤ vs.length) (hT : ∀ v ∈ vs, PySem.W.Looks M s.heap (typeOf v) (.type "tuple"))
    (hn : fs.all (·.isSome) = false) (h : Q (mixKd fs) s) : wpAny M A (PyProof.Rows.keyKind' vs.toArray) Q E s := by
  rw [PyProof.Rows.keyKind'_eq, List.mapM_toArray, map_eq_pure_bind]
  refine wpAny_bind (wpAny_bind (firsts_map vs fs t (wpAny_pure ?_)))
  have hall : ((fs.toArray).all fun x => x.isSome) = false := by rw [List.all_toArray]; exact hn
  rw [if_neg (by rw [hall]; exact Bool.false_ne_true)]
  have e0 : (fs.toArray)[0]? = fs[0]? := by simp
  rw [e0]
  unfold mixKd at h
  by_cases hf : (fs[0]?.bind id).isSome = true
  · rw [if_pos hf] at h
    rw [if_pos hf]
    exact wpAny_pure h
  · rw [if_neg hf] at h
    rw [if_neg hf]
    rw [PyProof.Rows.oneTypeOnly'_eq, List.mapM_toArray, map_eq_pure_bind]
    refine wpAny_bind (wpAny_bind (wpAny_bind (PySem.W.kas_mapM (r := Value.type "tuple") _ (fun v hv Q' hq => (hT v hv).here hq) (wpAny_pure ?_))))
    have hall2 : ((List.map (fun _ => Value.type "tuple") vs).toArray.all fun x => x == Value.type "tuple") = true := by
      simp only [List.all_toArray, List.all_map, List.all_eq_true]
      intro _ _
      rfl
    have h0 : (List.map (fun _ => Value.type "tuple") vs).toArray[0]? = some (Value.type "tuple") := by
      cases vs with
      | nil => exact absurd h2 (by simp)
      | cons _ _ => simp
    rw [h0]
    simp only [hall2, if_true]
    exact wpAny_pure (wpAny_pure h)
theorem firsts_of {h : Heap} : ∀ {vs : List Value} {ds : List PyData}, EachIs (fun v d => ∃ as, Reads h v d as) vs ds → (∀ d ∈ ds, ∃ xs, d = .tuple xs) → ∃ fs, firstsOf h vs fs ∧ ∀ (j : Nat) xs, ds[j]? = some (.tuple xs) → ∃ f, fs[j]? = some f ∧ f.isSome = !xs.isEmpty
  | _, _, .nil, _ => ⟨[], True.intro, fun j xs e => by simp at e⟩
  | _, _, .cons (b := d) ⟨as, r⟩ t, ht => by
    obtain ⟨fs, h1, h2⟩ := firsts_of t fun d hd => ht d (List.mem_cons_of_mem _ hd)
    obtain ⟨xs, rfl⟩ := ht d List.mem_cons_self
    cases r with
    | @tuple a o ys n _ _ ho hc hd hr =>
      refine ⟨ys[0]? :: fs, ⟨⟨a, o, ys, n, rfl, ho, hc, hd, rfl⟩, h1⟩, fun j zs e => ?_⟩
      cases j with
      | zero =>
        have e : PyData.tuple xs = .tuple zs := Option.some.inj e
        cases e
        refine ⟨_, rfl, ?_⟩
        have hl := SeqAt.ReadsAll.length _ _ _ hr
        rw [Array.length_toList] at hl
        cases xs with
        | nil =>
          have : ys.size = 0 := hl
          simp [this]
        | cons x r =>
          have : ys.size = r.length + 1 := hl
          simp [this]
      | succ j => exact h2 j zs e
theorem sorts_tup {vs : List Value} {ds : List PyData} (e : EachIs (fun v d => ∃ as, Reads s.heap v d as) vs ds) (hal : AllAlike ds) (ht : ∀ d ∈ ds, ∃ xs, d = .tuple xs) (hu : ∀ d, d ∈ ds → A.units + d.depth < cLine) : SortsAt prog w A s (dataKind s.heap ds) vs := by
  by_cases hk : ∀ d ∈ ds, ∃ x r, d = .tuple (x :: r)
  · exact SortsAt.data e hal (.inl hk) hu
  · obtain ⟨fs, f1, f2⟩ := firsts_of e ht
    refine ⟨fun v hv => ?_, mixKd fs, ?_, fun h2 E Q hq => kind_mix f1 h2 (fun v hv => ?_) ?_ hq⟩
    · obtain ⟨d, hd, as, r⟩ := e.left v hv
      exact ⟨_, PySem.W.dataKind_some hal hd r⟩
    · intro E x y a b Q ha hb hq
      obtain ⟨d, as, hd, ra, rfl⟩ := PySem.W.dataKind_inv ha
      obtain ⟨d', as', hd', rb, rfl⟩ := PySem.W.dataKind_inv hb
      obtain ⟨xs, rfl⟩ := ht d hd
      obtain ⟨ys, rfl⟩ := ht d' hd'
      have room : A.units + min (PyData.tuple xs).depth (PyData.tuple ys).depth < cLine := Nat.lt_of_le_of_lt (Nat.add_le_add_left (Nat.min_le_left _ _) _) (hu _ hd)
      unfold mixKd
      split
      · exact oneLt_tup (f := false) ra rb (hal _ hd _ hd') room hq
      · exact oneLt_tup (f := true) ra rb (hal _ hd _ hd') room hq
    · obtain ⟨d, hd, as, r⟩ := e.left v hv
      obtain ⟨xs, rfl⟩ := ht d hd
      exact PySem.W.looks_reads r
    · obtain ⟨d, hd⟩ := Classical.not_forall.mp hk
      obtain ⟨hd, hn⟩ := Classical.not_imp.mp hd
      obtain ⟨xs, rfl⟩ := ht d hd
      obtain ⟨j, hj, ej⟩ := List.mem_iff_getElem.mp hd
      obtain ⟨f, g1, g2⟩ := f2 j xs (by rw [List.getElem?_eq_getElem hj, ej])
      have hx : xs = [] := by
        cases xs with
        | nil => rfl
        | cons x r => exact absurd ⟨x, r, rfl⟩ hn
      rw [hx] at g2
      cases q : fs.all (·.isSome) with
      | false => rfl
      | true =>
        have := List.all_eq_true.mp q f (List.mem_of_getElem? g1)
        rw [g2] at this
        simp at this
end
/-! ### the two calls -/
theorem each_of {H : Hp} {β : Type} {enc : β → PyData} : ∀ {bs : List β} {xs : List V} {us : List Value}, Da H xs (bs.map enc) → Vals xs us → EachIs (fun u b => ∃ v, RelV v u ∧ Dt H v (enc b)) us bs
  | [], _, _, .nil, .nil => .nil
  | b :: bs, _, _, .cons h a, .cons r t => .cons ⟨_, r, h⟩ (each_of a t)
theorem of_each {H : Hp} {β : Type} {enc : β → PyData} : ∀ {us : List Value} {bs : List β}, EachIs (fun u b => ∃ v, RelV v u ∧ Dt H v (enc b)) us bs → ∃ xs, Vals xs us ∧ Da H xs (bs.map enc)
  | _, _, .nil => ⟨[], .nil, .nil⟩
  | _, _, .cons ⟨v, r, h⟩ t => by
    obtain ⟨xs, h1, h2⟩ := of_each t
    exact ⟨v :: xs, .cons r h1, .cons h h2⟩
/-- what sorted asks of tuples of data -/
structure Srtb {β : Type} (enc : β → PyData) (bs : List β) : Prop where
  alike : AllAlike (bs.map enc)
  tup : ∀ b ∈ bs, ∃ xs, enc b = .tuple xs
  depth : ∀ b ∈ bs, (enc b).depth ≤ 8
  few : bs.length ≤ 1000
section
variable {X : Cx} {pins : List (Addr × Obj)} {σ : St} {H : Hp} {s : Shared} {β : Type} {enc : β → PyData} {bs : List β}
theorem reads_each (I : L2.Inv X pins σ H s) : ∀ {us : List Value} {bs : List β}, EachIs (fun u b => ∃ v, RelV v u ∧ Dt H v (enc b)) us bs → EachIs (fun u b => ∃ as, Reads s.heap u (enc b) as) us bs :=
  fun e => e.mono fun u b ⟨v, r, h⟩ => Dp.reads I (enc b) v u (h.dp X.K) r
/-- sorted(a list of tuples) -/
def rSrtL {β : Type} (enc : β → PyData) : List V → Hp → VK → Prop := fun vs H Q => ∃ (v : V) (bs : List β), vs = [v] ∧ Ls H v (bs.map enc) ∧ Srtb enc bs ∧
  ∀ p H', H p = none → Same H H' → Ls H' (.ref p) ((bs.mergeSort (dataLe false enc)).map enc) → Q (.ref p) H'
theorem cr_srtL (hu : X.A.units + 64 < cLine) : CallR X (.builtin "sorted") (rSrtL enc) := by
  intro pins s σ H xs us Q I r h
  obtain ⟨v, bs, rfl, ⟨a, ys, rfl, h1, h2⟩, S, q⟩ := h
  obtain ⟨u, rfl, rx⟩ := vals1 r
  cases rx
  obtain ⟨its, rv, pl, hz⟩ := I.list (SqL.of (K := X.K) h1)
  have e := each_of h2 rv
  have hL : its.length ≤ sizeLine := by rw [← rv.length]; exact hz
  refine PySem.W.sorted_vals (κ := dataKind (PySem.W.sortingHeap (PySem.W.copyHeap s.heap its) (s.heap.objs.size + 1) its) (bs.map enc)) pl.isList ?_ hL ?_
  · have er := (reads_each I e).mono (R' := fun u b => ∃ as, Reads (PySem.W.sortingHeap (PySem.W.copyHeap s.heap its) (s.heap.objs.size + 1) its) u (enc b) as) fun _ _ ⟨as, r⟩ => ⟨as, PyProof.Rows.Reads.keeps (fun _ _ => PySem.W.sorting_copy_old) r⟩
    refine sorts_tup (PySem.W.each_map (R := fun u d => ∃ as, Reads (PySem.W.sortingHeap (PySem.W.copyHeap s.heap its) (s.heap.objs.size + 1) its) u d as) enc er) S.alike (fun d hd => ?_) (fun d hd => ?_)
    · obtain ⟨b, hb, rfl⟩ := List.mem_map.mp hd
      exact S.tup b hb
    · obtain ⟨b, hb, rfl⟩ := List.mem_map.mp hd
      have := S.depth b hb
      show X.A.units + 1 + 1 + _ < _
      omega
  · have er := (reads_each I e).mono (R' := fun u b => ∃ as, Reads (PySem.W.sortingHeap (PySem.W.copyHeap s.heap its) (s.heap.objs.size + 1) its) u (enc b) as) fun _ _ ⟨as, r⟩ => ⟨as, PyProof.Rows.Reads.keeps (fun _ _ => PySem.W.sorting_copy_old) r⟩
    have eo := PySem.W.sortVals_data false e er S.alike
    obtain ⟨zs, z1, z2⟩ := of_each eo
    have hn := I.hok.fresh (Nat.le_succ s.heap.objs.size)
    have zl : zs.length ≤ sizeLine := by
      have := z2.len
      rw [List.length_map, List.length_mergeSort] at this
      have := S.few
      have := sizeLine_eq
      omega
    obtain ⟨c, hc⟩ := PyProof.Rows.sortedAll_at s.heap its (PySem.W.sortVals (dataKind (PySem.W.sortingHeap (PySem.W.copyHeap s.heap its) (s.heap.objs.size + 1) its) (bs.map enc)) false its its).toArray
    refine ⟨.ref (s.heap.objs.size + 1), _, I.laid (a := s.heap.objs.size + 1) (o := .lst zs) (t' := s.toks) (fun b o e => PyProof.Rows.sortedAll_old e) (Nat.le_succ _) ⟨zl, _, c, z1, hc⟩, rfl, q _ _ hn (same_upd hn) (Ls.new hn z2)⟩
end
end Cz

set_option Elab.async false
set_option linter.all false
set_option maxRecDepth 100000
set_option maxHeartbeats 2000000
/-! sorted(dict), dict comprehensions and dict(tuple) with tuple keys -/
namespace Cz
open PySem L2
open PySem.W (AllAlike alike alikeAll dataLt dataLe dataKind SortsAt EachIs keyToks)
/-! ### keys as data -/
def kd : Key → PyData
  | .inl i => .int i
  | .inr x => .str x
def keyD (k : List Key) : PyData := .tuple (k.map kd)
theorem da_key {H : Hp} : ∀ k : List Key, Da H (k.map kV) (k.map kd)
  | [] => .nil
  | .inl i :: k => .cons (.int i) (da_key k)
  | .inr x :: k => .cons (.str x) (da_key k)
theorem dt_key {H : Hp} {b : Addr} {k : List Key} (h : H b = some (.tup (k.map kV))) : Dt H (.ref b) (keyD k) := .tup h (da_key k)
theorem kd_inj {a b : Key} (h : kd a = kd b) : a = b := by
  cases a <;> cases b <;> simp_all [kd]
theorem da_key_inv {H : Hp} : ∀ {k : List Key} {xs : List V}, Da H xs (k.map kd) → xs = k.map kV
  | [], _, .nil => rfl
  | .inl i :: k, _, .cons h a => by rw [h.int_eq, da_key_inv (k := k) a]; rfl
  | .inr x :: k, _, .cons h a => by rw [h.str_eq, da_key_inv (k := k) a]; rfl
theorem dt_key_inv {H : Hp} {v : V} {k : List Key} (h : Dt H v (keyD k)) : ∃ b, v = .ref b ∧ H b = some (.tup (k.map kV)) := by
  obtain ⟨b, xs, rfl, h1, h2⟩ := h.tup_at
  exact ⟨b, rfl, by rw [h1, da_key_inv h2]⟩
theorem DGet.of {H : Hp} {a : Addr} {v : V} {kvs : List (List Key × V)} {k : List Key} (e : H a = some (.dT kvs)) (h : Dt H v (keyD k)) : DGet H a v (valV kvs k) := by
  obtain ⟨b, rfl, hb⟩ := dt_key_inv h
  exact DGet.t e hb
theorem DGet.ofF {H : Hp} {a : Addr} {v : V} {o : Obj} {kvs : List (List Key × V)} {k : List Key} (e : H a = some (.frz o (.dT kvs))) (h : Dt H v (keyD k)) : DGet H a v (valV kvs k) := by
  obtain ⟨b, rfl, hb⟩ := dt_key_inv h
  exact .inr ⟨kvs, k, b, .inr ⟨o, e⟩, rfl, hb, rfl⟩
theorem DPut.of {H : Hp} {a : Addr} {v u : V} {kvs : List (List Key × V)} {k : List Key} (e : H a = some (.dT kvs)) (h : Dt H v (keyD k)) (hl : kvs.length < sizeLine) : DPut H a v u (upd H a (.dT (putK kvs k u))) := by
  obtain ⟨b, rfl, hb⟩ := dt_key_inv h
  exact DPut.t e hb hl
section
variable {X : Cx}
/-- sorted(d) of a dict with tuple keys -/
def rSrtT : List V → Hp → VK → Prop := fun vs H Q => ∃ (a : Addr) (kvs : List (List Key × V)), vs = [.ref a] ∧ Rd H a (.dT kvs) ∧ Srtb keyD (kvs.map (·.1)) ∧
  ∀ p H', H p = none → Same H H' → Ls H' (.ref p) (((kvs.map (·.1)).mergeSort (dataLe false keyD)).map keyD) → Q (.ref p) H'
theorem each_at {α β : Type} {R : α → β → Prop} : ∀ {us : List α} {bs : List β}, us.length = bs.length → (∀ (j : Nat) (u : α) (b : β), us[j]? = some u → bs[j]? = some b → R u b) → EachIs R us bs
  | [], [], _, _ => .nil
  | [], _ :: _, h, _ => by simp at h
  | _ :: _, [], h, _ => by simp at h
  | u :: us, b :: bs, h, f => .cons (f 0 u b rfl rfl) (each_at (by simpa using h) fun j u b e1 e2 => f (j + 1) u b e1 e2)
theorem cr_srtT (hc : X.calm = true) (hu : X.A.units + 64 < cLine) : CallR X (.builtin "sorted") rSrtT := by
  intro pins s σ H xs us Q I r h
  obtain ⟨a, kvs, rfl, hd, S, q⟩ := h
  obtain ⟨u, rfl, rx⟩ := vals1 r
  cases rx
  obtain ⟨z, hs, ks, pr, o, es, ep, ho, hx, hdt, he, hn⟩ := (show ObjOk X.prog X.w H s.heap a (.dT kvs) from hd.ok I.hok)
  have l1 : es.size = ks.length := size_of_entries he
  have l2 : kvs.length = ks.length := Paired.length pr
  refine Calls.call_function_entry PyProof.Rows.kind_sorted PyProof.Rows.plain_sorted PyProof.Rows.entry_sorted (PyProof.Rows.args_sorted1 _) ?_
  unfold Builtin.«sorted»
  refine wpAny_bind (m := checkCount "sorted" 1 1 _) (wpAny_pure ?_)
  refine wpAny_bind (PySem.W.kdu_collect (A := X.A.in1) (kdl_raw hs hx hdt) (I.ok.hd hc) ho (by omega) fun h' tk acc hk hacc => ?_)
  have I1 : L2.Inv X pins σ H { s with heap := h', toks := tk } := I.kept hk
  have hl : acc.toList.length = (kvs.map (·.1)).length := by rw [Array.length_toList, hacc.1, List.length_map]; omega
  have e1 : EachIs (fun u b => ∃ v, RelV v u ∧ Dt H v (keyD b)) acc.toList (kvs.map (·.1)) := each_at hl fun j u b g1 g2 => by
    obtain ⟨en, hen, hv⟩ := hacc.2 j u (by rw [← Array.getElem?_toList]; exact g1)
    rw [List.getElem?_map] at g2
    cases q1 : kvs[j]? with
    | none => rw [q1] at g2; simp at g2
    | some p =>
      rw [q1] at g2
      have g2 : p.1 = b := Option.some.inj g2
      subst g2
      obtain ⟨y, hy, f1, f2, _⟩ := paired_get pr q1
      have q2 := entry_at he j
      rw [hy, hen] at q2
      have q3 : en = entryOfKey (tupleKind (mixKind X.prog X.w)) y := Option.some.inj q2
      exact ⟨.ref y.2.1, by rw [hv, q3]; rfl, dt_key f2⟩
  refine wpAny_bind (wpAny_newList ?_ (by rw [hl, List.length_map]; exact z))
  have hoL : (h'.push (PyProof.Rows.seqObj "list" acc.toList.toArray 0)).get? h'.objs.size = some (PyProof.Rows.seqObj "list" acc.toList.toArray 0) := Heap.get?_push_size _ rfl
  show wpAny _ _ _ _ _ { s with heap := h'.push (PyProof.Rows.seqObj "list" acc.toList.toArray 0), toks := tk }
  have keep : ∀ b o, h'.get? b = some o → (PySem.W.sortingHeap (h'.push (PyProof.Rows.seqObj "list" acc.toList.toArray 0)) h'.objs.size acc.toList).get? b = some o := fun b o e =>
    PySem.W.sortingHeap_old (Nat.ne_of_lt (Heap.lt_size e)) (Heap.get?_push_of_some _ e)
  have er := (reads_each I1 e1).mono (R' := fun u b => ∃ as, Reads (PySem.W.sortingHeap (h'.push (PyProof.Rows.seqObj "list" acc.toList.toArray 0)) h'.objs.size acc.toList) u (keyD b) as) fun _ _ ⟨as, r⟩ => ⟨as, PyProof.Rows.Reads.keeps keep r⟩
  refine wpAny_bind (wpAny_holding (wpAny_call_entry PyProof.Rows.slot_list_sort ⟨_, hoL, rfl⟩ PyProof.Rows.entry_list_sort
    (PySem.W.list_sort_vals (κ := dataKind (PySem.W.sortingHeap (h'.push (PyProof.Rows.seqObj "list" acc.toList.toArray 0)) h'.objs.size acc.toList) ((kvs.map (·.1)).map keyD)) (s := { s with heap := h'.push (PyProof.Rows.seqObj "list" acc.toList.toArray 0), toks := tk }) hoL
      (sorts_tup (PySem.W.each_map (R := fun u d => ∃ as, Reads (PySem.W.sortingHeap (h'.push (PyProof.Rows.seqObj "list" acc.toList.toArray 0)) h'.objs.size acc.toList) u d as) keyD er) S.alike (fun d hd => ?_) (fun d hd => ?_)) (by rw [hl, List.length_map]; exact z) ⟨_, rfl, ?_⟩)
    (PyProof.Rows.args_list_sort _)))
  · obtain ⟨b, hb, rfl⟩ := List.mem_map.mp hd
    exact S.tup b hb
  · obtain ⟨b, hb, rfl⟩ := List.mem_map.mp hd
    have := S.depth b hb
    show X.A.units + 1 + 1 + _ < _
    omega
  · have eo := PySem.W.sortVals_data false e1 er S.alike
    obtain ⟨zs, z1, z2⟩ := of_each eo
    have hnn := I1.hok.fresh (Nat.le_refl h'.objs.size)
    have zl : zs.length ≤ sizeLine := by
      have := z2.len
      rw [List.length_map, List.length_mergeSort, List.length_map] at this
      omega
    obtain ⟨e', he'⟩ := PyProof.Rows.sortedHeap_at (vs := acc.toList) (out := (PySem.W.sortVals (dataKind (PySem.W.sortingHeap (h'.push (PyProof.Rows.seqObj "list" acc.toList.toArray 0)) h'.objs.size acc.toList) ((kvs.map (·.1)).map keyD)) false acc.toList acc.toList).toArray) hoL
    refine wpAny_pure ⟨_, rfl, .ref h'.objs.size, _, I1.laid (a := h'.objs.size) (o := .lst zs) (t' := tk) (fun b u e => ?_) (Nat.le_refl _) ⟨zl, _, e', z1, he'⟩, rfl, q _ _ hnn (same_upd hnn) (Ls.new hnn z2)⟩
    have hb : b < h'.objs.size := Heap.lt_size e
    rw [PyProof.Rows.sortedHeap_old (Nat.ne_of_lt hb) (by show b < (h'.push _).objs.size; rw [Heap.size_push]; exact Nat.lt_succ_of_lt hb)]
    exact Heap.get?_push_of_some _ e

/-! ### {k: v for target in iter if ..}, the keys tuples -/
theorem put_dictT {pins : List (Addr × Obj)} {σ : St} {H : Hp} {s : Shared} {E : Value → Shared → Prop} {Dd b : Addr} {kvs : List (List Key × V)} {k : List Key} {v : V} {r : Value} {Q : Unit → Shared → Prop} (hu : X.A.units + 1 < cLine) (I : L2.Inv X pins σ H s) (hD : H Dd = some (.dT kvs))
    (hz : kvs.length < sizeLine) (hb : H b = some (.tup (k.map kV))) (rv : RelV v r) (h : ∀ s', L2.Inv X pins σ (upd H Dd (.dT (putK kvs k v))) s' → Q () s') : wpAny (model X.prog X.w) X.A (dictSet Dd (.ref b) r) Q E s := by
  obtain ⟨z, hd, xs, rel, dd⟩ := dt_of I.hok hD
  have hr : (tupleKind (mixKind X.prog X.w)).room X.A := show X.A.units < cLine by omega
  refine wpAny_dictSet_heap (hsz := by rw [← Paired.length rel]; exact z) hr (key_of I.hok hb) dd fun h' dd' hs => h _ ?_
  obtain ⟨q, es, ep, hq, h2, h3, h4, _, h5⟩ := dd'
  have hl : (putK kvs k v).length ≤ sizeLine := by have := length_putK kvs k v; omega
  refine d_write I (by rw [hD]; exact True.intro) hs ⟨q, hq⟩ ⟨hl, hd, _, (rel.put k hb rv).keeps fun c ys ec => ?_, q, es, ep, hq, h2, h3, h4, h5⟩
  rw [upd_ne (ne_of ec hD (fun z => nomatch z))]
  exact ec
/-- what a dict comprehension asks of its iterator -/
def DcK (g : TG) (tt : TT) (tk tv : TE) (vs : List Nat) (Q : VK) : St → It → Hp → Prop := fun σ J H1 => ∀ D, H1 D = none → ∃ W : Nat → Nat → Hp → Prop, (∃ m, W 0 m (upd H1 D (.dT []))) ∧ ∀ i m H, W i m H →
  (J.stop i H ∧ Q (.ref D) H) ∨ (J.go i H ∧ ∃ Nx : Hp → Prop, (∀ H', Nx H' → ∃ m', m' < m ∧ W (i + 1) m' H') ∧ ∀ x H', J.yld i H x H' → g x (wipe σ vs) H' fun σ2 H2 => wipe σ2 vs = wipe σ vs ∧ tt σ2 H2 fun b H3 =>
    if b = true then tk σ2 H3 fun y H4 => tv σ2 H4 fun z H5 => ∃ kvs k b, y = .ref b ∧ H5 b = some (.tup (k.map kV)) ∧ H5 D = some (.dT kvs) ∧ kvs.length < sizeLine ∧ Nx (upd H5 D (.dT (putK kvs k z))) else Nx H3)
theorem pe_dcT {kx vx tg iter : Expr} {ifs : List Expr} {scope : Scope} {own_ : List (Str × Nat)} {pos : Pos} {wi : TI} {g : TG} {tt : TT} {tk tv : TE} (hu : X.A.units + 1 < cLine) (hc : X.calm = true) (hN : X.N.Nodup) (hi : PI X tg iter wi) (ok : BlkOk X.N X.env.scope scope own_)
    (hg : ∀ (s : Shared) (H : Hp) (C : Addr) (cl : List (Str × Addr)) (fp : List Addr), PG (X.blk s H scope (compEnvC scope cl C X.env) fp) tg g) (ht : ∀ (s : Shared) (H : Hp) (C : Addr) (cl : List (Str × Addr)) (fp : List Addr), PTs (X.blk s H scope (compEnvC scope cl C X.env) fp) ifs tt)
    (hk : ∀ (s : Shared) (H : Hp) (C : Addr) (cl : List (Str × Addr)) (fp : List Addr), PE (X.blk s H scope (compEnvC scope cl C X.env) fp) kx tk)
    (he : ∀ (s : Shared) (H : Hp) (C : Addr) (cl : List (Str × Addr)) (fp : List Addr), PE (X.blk s H scope (compEnvC scope cl C X.env) fp) vx tv) (hs : ∀ x, foldedSetIterable iter X.env x = pure x := by intro _; rfl) :
    PE X (.DictComp kx vx [⟨tg, iter, ifs, 0⟩] scope pos) (fun σ H Q => wi σ H (DcK g tt tk tv (own_.map (·.2)) Q σ)) := by
  refine ⟨fun pins s σ H Q I h => ?_⟩
  rw [arm_eval_DictComp]
  have cells : ∀ y ∈ scope.names, y.2 = .free → ∃ c, X.env.cells.lookup y.1 = some c := fun y hy e => I.ok.has _ (ok.free y hy e)
  refine wpAny_comprehension_free rfl hs (closure_ok cells) ok.kind (fun y hy e => (ok.uniq y hy).trans (congrArg some e)) (thn (hi.run pins s σ H _ I h) fun xv s1 hx => thn hx fun itv s2 ⟨it, fp, tn, J, H2, e, I2, T, st2, f2, q⟩ => ?_)
  subst e
  refine wpAny_newObj_type (newEnv_comp ?_)
  -- the new dict, at Dd
  obtain ⟨Dd, hDd⟩ : ∃ Dd, s2.heap.objs.size = Dd := ⟨_, rfl⟩
  rw [hDd]
  have nD : H2 Dd = none := I2.hok.fresh (Nat.le_of_eq hDd)
  obtain ⟨W, ⟨m0, w0⟩, turn⟩ := q Dd nD
  have I3 : L2.Inv X pins σ (upd H2 Dd (.dT [])) { s2 with heap := s2.heap.push { cls := .type "dict", data := .dict #[] } } :=
    I2.laid (t' := s2.toks) (fun b o e => Heap.get?_push_of_some _ e) (Nat.le_of_eq hDd) (by rw [← hDd]; exact dt_empty s2.heap I2.big)
  obtain ⟨s3, hs3⟩ : ∃ s3, ({ s2 with heap := s2.heap.push { cls := .type "dict", data := .dict #[] } } : Shared) = s3 := ⟨_, rfl⟩
  have hp3 : s3.heap = s2.heap.push { cls := .type "dict", data := .dict #[] } := by rw [← hs3]
  rw [hs3] at I3
  have low : ∀ b ∈ fp, b < s2.heap.objs.size := fun b hb => let ⟨o, e, _⟩ := T.obj _ _ st2 b hb; Heap.lt_size e
  have f3 : ∀ b ∈ fp, FpOk X pins (upd H2 Dd (.dT [])) b ∧ b < s3.heap.objs.size := fun b hb => by
    have lt := low b hb
    have f := f2 b hb
    exact ⟨⟨by rw [upd_ne (by rw [← hDd]; exact Nat.ne_of_lt lt)]; exact f.1, f.2⟩, by rw [hp3, Heap.size_push]; exact Nat.lt_succ_of_lt lt⟩
  have st3 : tn 0 s3.heap := T.keep _ _ _ st2 fun b _ o e => by rw [hp3]; exact Heap.get?_push_of_some _ e
  have I4 := block_start I3 ok hN f3
  -- the block's own context
  obtain ⟨cs, hcs⟩ : ∃ cs, cellsFrom (s3.heap.objs.size + 1) scope.names (cloFrom X.env.cells scope.names []) = cs := ⟨_, rfl⟩
  obtain ⟨ce, hce⟩ : ∃ ce, compEnvC scope cs s3.heap.objs.size X.env = ce := ⟨_, rfl⟩
  rw [hcs, hce] at I4
  have pg := hg s3 (upd H2 Dd (.dT [])) s3.heap.objs.size cs fp
  have pt := ht s3 (upd H2 Dd (.dT [])) s3.heap.objs.size cs fp
  have pk := hk s3 (upd H2 Dd (.dT [])) s3.heap.objs.size cs fp
  have pe := he s3 (upd H2 Dd (.dT [])) s3.heap.objs.size cs fp
  rw [hce] at pg pt pk pe
  have cL : ce.locals = s3.heap.objs.size := by rw [← hce]; rfl
  have nfp : ∀ b ∈ fp, (upd H2 Dd (.dT [])) b = none := fun b hb => (f3 b hb).1.1
  obtain ⟨H3, hH3⟩ : ∃ H3, upd H2 Dd (.dT []) = H3 := ⟨_, rfl⟩
  rw [hH3] at I3 I4 pg pt pk pe w0 nfp f3
  obtain ⟨s4, hs4⟩ : ∃ s4, ({ s3 with heap := pushCells (s3.heap.push { cls := .type "dict", data := .dict #[] }) scope.names } : Shared) = s4 := ⟨_, rfl⟩
  rw [hs4] at I4
  have st4 : tn 0 s4.heap := T.keep _ _ _ st3 fun b _ o e => by rw [← hs4]; exact pushCells_keeps _ _ _ _ (Heap.get?_push_of_some _ e)
  have own : ∀ {σ' : St} {H' : Hp} {s' : Shared}, L2.Inv (X.blk s3 H3 scope ce fp) [] σ' H' s' → (∀ b ∈ fp, H' b = none) → ∀ b ∈ fp, FpOk (X.blk s3 H3 scope ce fp) [] H' b := by
    intro σ' H' s' I' hn b hb
    refine ⟨hn b hb, (I'.ok.exf b hb).1, I'.ok.exfs b hb, .inl hb, fun x c e => (I'.ok.exf b hb).2 x c e, fun p hp => ?_⟩
    have hp : p ∈ ([] : List (Addr × Obj)) ++ [] := hp
    simp at hp
  have loop : codeAny (model X.prog X.w) X.A (.compLoop (.DictComp kx vx [⟨tg, iter, ifs, 0⟩] scope pos) 0 (.ref it) (.ref Dd) ce) (compPost (model X.prog X.w) X.A X.xe none (EP X pins σ Q) (.ref Dd) s3.heap.objs.size) s4 := by
    refine compLoop_anyD (fun n s' => ∃ i H', L2.Inv (X.blk s3 H3 scope ce fp) [] (wipe σ (own_.map (·.2))) H' s' ∧ tn i s'.heap ∧ (∀ b ∈ fp, H' b = none) ∧ W i n H') ?_ m0 ⟨0, H3, I4, st4, nfp, w0⟩
    rintro n s5 ⟨i, H5, I5, st5, n5, w5⟩
    rcases turn i n H5 w5 with ⟨stop, fin⟩ | ⟨go, Nx, hNx, step⟩
    · refine thnF (T.done (X.blk s3 H3 scope ce fp) rfl rfl rfl hc i [] s5 _ H5 (fun _ _ => False) I5 (own I5 n5) st5 stop) fun r s6 ⟨hr, I6⟩ => ?_
      subst hr
      have I7 : L2.Inv X pins σ H5 s6 := I3.call' (ch := fp) I6.os I6.base I6.hok I6.bare fun b hb => ⟨(f3 b hb).1.2.2.2.1, (f3 b hb).1.2.1, (f3 b hb).1.2.2.2.2.1, (f3 b hb).1.2.2.2.2.2⟩
      have nC : H5 s3.heap.objs.size = none := by
        have z : H5 ce.locals = none := I6.free
        rw [cL] at z
        exact z
      obtain ⟨m, hn, _⟩ := I6.loc
      have hn : s6.heap.Ns ce.locals m := hn
      rw [cL] at hn
      refine ⟨m, hn, fun h'' sb => ?_⟩
      obtain ⟨f0, f1, f2, f3, f4, f5⟩ := I3.fpOk (Nat.le_refl _) nC
      exact ⟨.ref Dd, H5, I7.turned (t' := s6.toks) (fun b o hb e => (sb.2 b hb).trans e) f0 f1 f3 f4 f5, rfl, fin⟩
    · refine thnF (T.item (X.blk s3 H3 scope ce fp) rfl rfl rfl hc i [] s5 _ H5 (fun _ _ => False) I5 (own I5 n5) st5 go) fun r s6 ⟨u, hr, h6⟩ => ?_
      subst hr
      refine thnF h6 fun _ s7 ⟨x, H7, I7, r7, y7, st7, n7⟩ => ?_
      have P7 := I7.pinned (own I7 n7) (T.obj _ _ st7)
      refine thnF (pg.run _ s7 _ H7 x u _ P7 r7 (step x H7 y7)) fun _ s8 ⟨σ8, H8, I8, hw8, q8⟩ => ?_
      refine thnF (pt.run _ s8 σ8 H8 _ I8 q8) fun b s9 ⟨H9, I9, q9⟩ => ?_
      have back : ∀ {s' : Shared} {H' : Hp}, L2.Inv (X.blk s3 H3 scope ce fp) ([] ++ pinsAt fp s7.heap) σ8 H' s' → Nx H' →
          ∃ m, m < n ∧ ∃ i H', L2.Inv (X.blk s3 H3 scope ce fp) [] (wipe σ (own_.map (·.2))) H' s' ∧ tn i s'.heap ∧ (∀ b ∈ fp, H' b = none) ∧ W i m H' := by
        intro s' H' I' nx
        obtain ⟨m', hm, w'⟩ := hNx H' nx
        have pinned : ∀ b ∈ fp, ∀ o, s7.heap.get? b = some o → s'.heap.get? b = some o ∧ H' b = none := fun b hb o e => by
          have z := I'.pin (b, o) (List.mem_append_right _ (List.mem_append_right _ (mem_pinsAt hb e)))
          exact ⟨z.1, z.2.1⟩
        have hl : (wipe σ (own_.map (·.2))).length = σ8.length := by rw [← hw8, wipe_length]
        refine ⟨m', hm, i + 1, H', (I'.unpinned (pins := [])).weak hl (fun j v e => ?_), T.keep _ _ _ st7 fun b hb o e => (pinned b hb o e).1, fun b hb => ?_, w'⟩
        · rw [← hw8] at e
          exact (wipe_some e).1
        · obtain ⟨o, e, _⟩ := T.obj _ _ st7 b hb
          exact (pinned b hb o e).2
      cases b with
      | false => exact back I9 q9
      | true =>
        refine thnF (pk.run _ s9 σ8 H9 _ I9 q9) fun z s10 ⟨yk, H10, I10, r10, q10⟩ => ?_
        refine thnF (pe.run _ s10 σ8 H10 _ I10 q10) fun z2 s11 ⟨yv, H11, I11, r11, kvs, k, b, ek, hb, hD11, hz11, nx⟩ => ?_
        subst ek
        obtain rfl : z = Value.ref b := r10
        exact put_dictT (X := X.blk s3 H3 scope ce fp) hu I11 hD11 hz11 hb r11 fun s12 I12 => back I12 nx
  have fin := codeAny_compStart_dict loop (T.self X.A 0 _ _ _ st4 loop)
  rw [← hs4, ← hce, ← hcs] at fin
  rw [← hs3] at fin
  exact fin
end
end Cz

set_option Elab.async false
set_option linter.all false
set_option maxRecDepth 100000
set_option maxHeartbeats 2000000
/-! a tuple whose object is known; dict(t) -/
namespace Cz
open PySem L2
/-- v is a tuple of the data ds, and its object is known to bear no dict -/
def Ft (H : Hp) (v : V) (ds : List PyData) : Prop := ∃ (a : Addr) (xs : List V) (o : Obj), v = .ref a ∧ H a = some (.frz o (.tup xs)) ∧ o.dict = none ∧ Da H xs ds
section
variable {H H' : Hp} {v : V} {ds : List PyData} {K : PySem.W.Frag}
theorem Ft.ups (h : Ft H v ds) (s : Same H H') : Ft H' v ds := let ⟨a, xs, o, e, h1, h2, h3⟩ := h; ⟨a, xs, o, e, s _ _ h1, h2, h3.ups s⟩
theorem Ft.sq (h : Ft H v ds) : ∃ a xs, v = .ref a ∧ (∀ H', Same H H' → SqT K H' a xs) ∧ Da H xs ds := by
  obtain ⟨a, xs, o, e, h1, h2, h3⟩ := h
  exact ⟨a, xs, e, fun H' s => .inl (.inr ⟨o, s _ _ h1⟩), h3⟩
theorem Ft.dp (h : Ft H v ds) : Dp K H v (.tuple ds) := by
  obtain ⟨a, xs, o, rfl, h1, h2, h3⟩ := h
  exact .tup (.inl (.inr ⟨o, h1⟩)) (h3.dp K)
end
section
variable {X : Cx}
/-- tuple(a list), the tuple's object kept in mind -/
def rTupF (K : PySem.W.Frag) : List V → Hp → VK → Prop := fun vs H Q => ∃ (a : Addr) (xs : List V), vs = [.ref a] ∧ SqL K H a xs ∧ ∀ p o, H p = none → o.dict = none → Q (.ref p) (upd H p (.frz o (.tup xs)))
theorem cr_tupF : CallR X (.type "tuple") (rTupF X.K) := by
  intro pins s σ H vs us Q I r h
  obtain ⟨a, xs, rfl, hs, q⟩ := h
  obtain ⟨u, rfl, rx⟩ := vals1 r
  cases rx
  obtain ⟨its, rv, pl, hz⟩ := I.list hs
  refine call_tuple_list pl.isList (fun h' hk => ?_) (by rw [List.size_toArray, ← rv.length]; exact hz)
  have I1 : L2.Inv X pins σ H { s with heap := h' } := I.kept (t' := s.toks) hk
  have hn := I1.hok.fresh (Nat.le_refl h'.objs.size)
  refine ⟨.ref h'.objs.size, _, I1.laid (t' := s.toks) (o := .frz { cls := .type "tuple", data := .seq its.toArray } (.tup xs)) (fun b o e => Heap.get?_push_of_some _ e) (Nat.le_refl _) ⟨Heap.get?_push_size _ rfl, hz, its, rv, PyProof.Rows.IsTup.new _ _⟩, rfl, q _ _ hn rfl⟩
/-- dict(such a tuple of pairs) -/
def pairD (p : List Key × Int) : PyData := .tuple [keyD p.1, .int p.2]
def rDictT : List V → Hp → VK → Prop := fun vs H Q => ∃ (v : V) (ps : List (List Key × Int)), vs = [v] ∧ Ft H v (ps.map pairD) ∧ (ps.map (·.1)).Nodup ∧ ps.length ≤ 1000 ∧
  ∀ p, H p = none → Q (.ref p) (upd H p (.dT (ps.map fun x => (x.1, .int x.2))))
theorem pair_inv {H : Hp} {v : V} {p : List Key × Int} (h : Dt H v (pairD p)) : ∃ T b, v = .ref T ∧ H T = some (.tup [.ref b, .int p.2]) ∧ H b = some (.tup (p.1.map kV)) := by
  obtain ⟨T, xs, rfl, h1, h2⟩ := h.tup_at
  cases h2 with
  | cons g1 g2 =>
    cases g2 with
    | cons g3 g4 =>
      cases g4
      obtain ⟨b, rfl, hb⟩ := dt_key_inv g1
      rw [g3.int_eq] at h1
      exact ⟨T, b, rfl, h1, hb⟩
/-- the pairs as they lie: tuple, key's tuple, key's value, number's value -/
theorem pairs_lie {H : Hp} {h : Heap} {P : Program} {w : World} (ok : HOk P w H h) : ∀ {ps : List (List Key × Int)} {xs : List V} {us : List Value}, Da H xs (ps.map pairD) → Vals xs us →
    ∃ zs : List (Addr × List Key × Addr × Value), us = zs.map (fun z => .ref z.1) ∧ zs.map (fun z => z.2.1) = ps.map (·.1) ∧ (∀ z ∈ zs, h.IsTuple z.1 #[.ref z.2.2.1, z.2.2.2] ∧ H z.2.2.1 = some (.tup (z.2.1.map kV)) ∧ z.2.2.1 < h.objs.size) ∧
      Paired (fun (p : List Key × V) (q : List Key × Addr × Value) => p.1 = q.1 ∧ H q.2.1 = some (.tup (p.1.map kV)) ∧ RelV p.2 q.2.2) (ps.map fun x => (x.1, V.int x.2)) (zs.map (·.2))
  | [], _, _, .nil, .nil => ⟨[], rfl, rfl, fun z hz => by simp at hz, .nil⟩
  | p :: ps, _, _, .cons g a, .cons r t => by
    obtain ⟨zs, e1, e2, e3, e4⟩ := pairs_lie ok a t
    obtain ⟨T, b, rfl, hT, hb⟩ := pair_inv g
    cases r
    obtain ⟨_, its, rv, it⟩ := (show ObjOk P w H h T (.tup [.ref b, .int p.2]) from ok T _ hT)
    obtain ⟨u1, u2, rfl, r1, r2⟩ := vals2 rv
    cases r1
    refine ⟨(T, p.1, b, u2) :: zs, by rw [e1]; rfl, by simp [e2], fun z hz => ?_, .cons ⟨rfl, hb, r2⟩ e4⟩
    rcases List.mem_cons.mp hz with rfl | hz
    · exact ⟨it, hb, ok.lt hb⟩
    · exact e3 z hz
theorem cr_dictT (hc : X.calm = true) (hu : X.A.units + 64 < cLine) : CallR X (.type "dict") rDictT := by
  intro pins s σ H vs us Q I r h
  obtain ⟨v, ps, rfl, ⟨a, xs, o, rfl, h1, h2, h3⟩, nd, few, q⟩ := h
  obtain ⟨u, rfl, rx⟩ := vals1 r
  cases rx
  obtain ⟨ho, hz, its, rv, o', ho', hcl, n, hdat⟩ := I.hok a _ h1
  rw [ho] at ho'
  obtain rfl := Option.some.inj ho'
  obtain ⟨zs, e1, e2, e3, e4⟩ := pairs_lie I.hok h3 rv
  have lz : zs.length = ps.length := by
    have := congrArg List.length e2
    simpa using this
  have hn := I.hok.fresh (Nat.le_refl s.heap.objs.size)
  let pv : List (Value × Value) := zs.map fun z => (Value.ref z.2.2.1, z.2.2.2)
  have hpl : pv.length = zs.length := by simp [pv]
  have nd2 : ((zs.map (·.2)).map (·.1)).Nodup := by rw [List.map_map]; exact e2 ▸ nd
  have sl : zs.length ≤ sizeLine := by rw [lz, sizeLine_eq]; omega
  refine call_dict_pairsH (knd := tupleKind (mixKind X.prog X.w)) (ps := zs.map (·.2)) (PairArg.tuple (prog := X.prog) (w := X.w) a its.toArray (fun j => ((zs.map (·.1)).getD j 0)) pv) (I.ok.hd hc) ?_ ⟨⟨o, n, ho, hcl, h2, hdat⟩, ?_⟩ ?_ ?_ (by rw [hpl]; exact sl) (fun h' tk dd hk => ?_)
  · show X.A.units + 1 + 1 < cLine
    omega
  · refine ⟨by rw [e1]; simp [pv], fun j k v hj => ?_⟩
    have hj : (zs[j]?).map (fun z => (Value.ref z.2.2.1, z.2.2.2)) = some (k, v) := by simpa [pv] using hj
    cases ez : zs[j]? with
    | none => rw [ez] at hj; simp at hj
    | some z =>
      rw [ez] at hj
      have hj : (Value.ref z.2.2.1, z.2.2.2) = (k, v) := Option.some.inj hj
      cases hj
      refine ⟨by rw [e1]; simp [ez], .inl ?_⟩
      have := (e3 z (List.mem_of_getElem? ez)).1
      have g : (zs.map (·.1)).getD j 0 = z.1 := by simp [List.getD, ez]
      show s.heap.IsTuple ((zs.map (·.1)).getD j 0) _
      rw [g]
      exact this
  · refine ⟨by simp [pv], fun i key v hi => ?_⟩
    have hj : (zs[i]?).map (fun z => (Value.ref z.2.2.1, z.2.2.2)) = some (key, v) := by
      have hi : pv[i]? = some (key, v) := hi
      simpa [pv] using hi
    cases ez : zs[i]? with
    | none => rw [ez] at hj; simp at hj
    | some z =>
      rw [ez] at hj
      have hj : (Value.ref z.2.2.1, z.2.2.2) = (key, v) := Option.some.inj hj
      cases hj
      exact ⟨z.2.1, z.2.2.1, by rw [List.getElem?_map, ez]; rfl, rfl⟩
  · intro h' hk y hy
    obtain ⟨z, hz, rfl⟩ := List.mem_map.mp hy
    obtain ⟨_, hb, lt⟩ := e3 z hz
    obtain ⟨zz, it, rr, ob, e, c1, n1, c2⟩ := (show ObjOk X.prog X.w H s.heap z.2.2.1 (.tup (z.2.1.map kV)) from I.hok _ _ hb)
    exact ⟨ob, it.toArray, n1, hk _ _ (Nat.ne_of_lt lt) (by simp) e, c1, c2, by simpa using items_are rr⟩
  · rw [storedAllH_nil_of_nodup _ nd2] at dd
    obtain ⟨od, es, ep, hq, g2, g3, g4, _, g5⟩ := dd
    have hs : (s.heap.objs.size == sysModules) = false := beq_eq_false_iff_ne.mpr (Ne.symm (Nat.ne_of_lt I.big))
    refine ⟨.ref s.heap.objs.size, _, I.laid (t' := tk) (o := .dT (ps.map fun x => (x.1, .int x.2))) (fun b o e => hk b o (by simp) e) (Nat.le_refl _) ⟨by rw [List.length_map, ← lz]; exact sl, hs, zs.map (·.2), ?_, od, es, ep, hq, g2, g3, g4, g5⟩, rfl, q _ hn⟩
    exact KT.keeps e4 fun b ys eb => by rw [upd_ne (ne_of_none eb hn)]; exact eb
end
end Cz

set_option Elab.async false
set_option linter.all false
set_option maxRecDepth 100000
/-! the text by places; the built-in names -/
namespace Cz
open PySem L2
def topS (i : Nat) : Stmt := PySem.Challenge.pw_chancestrokes_k14_whole_waits.main.body.getD i (.Pass ⟨0, 0, 0, 0⟩)
theorem bt_len : bootBuiltins "len" = some (.builtin "len") := by decide +kernel
theorem bt_abs : bootBuiltins "abs" = some (.builtin "abs") := by decide +kernel
theorem bt_sum : bootBuiltins "sum" = some (.builtin "sum") := by decide +kernel
theorem bt_all : bootBuiltins "all" = some (.builtin "all") := by decide +kernel
theorem bt_isinstance : bootBuiltins "isinstance" = some (.builtin "isinstance") := by decide +kernel
theorem bt_sorted : bootBuiltins "sorted" = some (.builtin "sorted") := by decide +kernel
theorem bt_int : bootBuiltins "int" = some (.type "int") := by decide +kernel
theorem bt_bool : bootBuiltins "bool" = some (.type "bool") := by decide +kernel
theorem bt_str : bootBuiltins "str" = some (.type "str") := by decide +kernel
theorem bt_list : bootBuiltins "list" = some (.type "list") := by decide +kernel
theorem bt_tuple : bootBuiltins "tuple" = some (.type "tuple") := by decide +kernel
theorem bt_dict : bootBuiltins "dict" = some (.type "dict") := by decide +kernel
theorem hu65 {k : Nat} {A : Around} (hr : Room k A) : A.units + 65 < cLine := by have := hr.un; omega
/-! rules inside a block: the block's frag is the def's own -/
section
variable {X : Cx} {K : PySem.W.Frag}
theorem kIxT (h : X.K = K) : IxR X (rIxT K) := h ▸ ix_tup
theorem kIxL (h : X.K = K) : IxR X (rIxL K) := h ▸ ix_list
theorem kIx (h : X.K = K) : IxR X (rIx K) := h ▸ ix_seq
theorem kInD (h : X.K = K) (hu : X.A.units + 65 < cLine) : OpR X (compareOp .In) (rInD K) := h ▸ op_inD hu
theorem kNotInD (h : X.K = K) (hu : X.A.units + 65 < cLine) : OpR X (compareOp .NotIn) (rNotInD K) := h ▸ op_notInD hu
theorem kInS (h : X.K = K) : OpR X (compareOp .In) (rIn K false) := h ▸ op_in_seq
theorem kLen (h : X.K = K) : CallR X (.builtin "len") (rLen K) := h ▸ cb_len
theorem kEqD (h : X.K = K) (hu : X.A.units + 64 < cLine) : OpR X (compareOp .Eq) (rEqD K) := h ▸ op_eqD hu
theorem kNeD (h : X.K = K) (hu : X.A.units + 64 < cLine) : OpR X (compareOp .NotEq) (rNeD K) := h ▸ op_neD hu
def rLenS : List V → Hp → VK → Prop := fun xs H Q => ∃ z : Str, xs = [.str z] ∧ z.length ≤ sizeLine ∧ Q (.int z.length) H
theorem kLenS : CallR X (.builtin "len") rLenS := fun pins s σ H xs us Q I r h => by
  obtain ⟨z, rfl, hz, q⟩ := h
  exact call_len pins s σ H _ us Q I r ⟨_, _, rfl, ⟨hz, rfl⟩, q⟩
theorem kIsi (h : X.K = K) : CallR X (.builtin "isinstance") (rIsi K) := h ▸ call_isi
def rJoin (K : PySem.W.Frag) : V → List V → Hp → VK → Prop := fun x xs H Q => ∃ a p, ∃ ys : List Str, x = .str a ∧ xs = [.ref p] ∧ (SqL K H p (ys.map V.str) ∨ SqT K H p (ys.map V.str)) ∧ (ys.map (·.length)).sum + ys.length * a.length ≤ 16777216 ∧ Q (.str (Txt.join a ys)) H
theorem kJoin {o e : Expr} {to te : TE} {apos pos : Pos} (hK : X.K = K) (ho : PE X o to) (he : PE X e te) (hs : starEach [e] X.env = [(false, eval e X.env)] := by rfl) (hbase : attributeBase o "join" X.env (eval o X.env) = eval o X.env := by rfl) (hline : (apos.endLine == pos.line) = true := by rfl) :
    PE X (.Call (.Attribute o "join" apos) [e] [] pos) (tM1 (rJoin K) to te) := hK ▸ pe_join ho he hs hbase hline
theorem kAll (h : X.K = K) (hc : X.calm = true) : CallR X (.builtin "all") (rAll K) := h ▸ cr_all hc
theorem kLtT (h : X.K = K) (hu : X.A.units < cLine) : OpR X (compareOp .Lt) (rLtT K) := h ▸ op_ltT hu
theorem kTup {es : List Expr} {k : Nat} {t : TGs} {pos : Pos} (n : Nat) (hK : X.K = K) (hc : X.calm = true) (h : PGs X es t)
    (hn : (assignEach es X.env).length = n := by rfl) (hst : (assignEach es X.env).findIdx? (·.1) = none := by rfl) : PG X (.Tuple es k pos) (gTup K n t) := hK ▸ pg_tup hc h hn hst
theorem kZip {e e2 : Expr} {ta : TA} {p pos tpos : Pos} {elts : List Expr} {kk : Nat} (hg : Gl X "zip") (hm : X.mg "zip" = none) (ha : PA X [e, e2] ta)
    (hs : starEach [e, e2] X.env = (false, eval e X.env) :: starEach [e2] X.env := by rfl) (hpl : (backTo pos (starEach [e2] X.env)).any (·.1) = false := by rfl) :
    PI X (.Tuple elts kk tpos) (.Call (.Name "zip" p) [e, e2] [] pos) (RZ.iZipA X.K ta) := RZ.pi_zipA hg hm ha hs hpl
theorem kStar {e : Expr} {p : Pos} {es : List Expr} {te : TE} {t : TA} (hK : X.K = K) (he : PE X e te) (hr : PA X es t) (hs : starEach (.Starred e p :: es) X.env = (true, eval e X.env) :: starEach es X.env := by rfl) : PA X (.Starred e p :: es) (StX.tStar K te t) := hK ▸ StX.pa_star he hr hs
end
/-- pictures as data: rows of cells, true is black -/
abbrev Pic := List (List Bool)
def rowS (r : List Bool) : Str := ⟨(r.map fun b => if b then 35 else 46).toArray⟩
def encP (p : Pic) : PyData := .tuple (p.map fun r => .str (rowS r))
end Cz

set_option Elab.async false
set_option linter.all false
set_option maxRecDepth 100000
set_option maxHeartbeats 1000000
/-! the plain things, and how they lie -/
namespace Cz
open PySem L2
/-! ### effects, measures, pictures, fractions as data -/
abbrev Eff := List Nat
abbrev Told := List (Eff × Int)
def lnD (n : Nat) : PyData := .int (n : Int)
def effD (e : Eff) : PyData := .tuple (e.map lnD)
def keyE (e : Eff) : List Key := List.map (fun n : Nat => (.inl (n : Int) : Key)) e
def keyP (p : Pic) : List Key := p.map fun r => .inr (rowS r)
def toldK (t : Told) : List (List Key × Int) := t.map fun x => (keyE x.1, x.2)
def toldD (t : Told) : List PyData := (toldK t).map pairD
def frD (q : Rat) : PyData := .tuple [.int q.num, .int (q.den : Int)]
theorem keyD_E (e : Eff) : keyD (keyE e) = effD e := by unfold keyD keyE effD; rw [List.map_map]; rfl
theorem keyD_P (p : Pic) : keyD (keyP p) = encP p := by unfold keyD keyP encP; rw [List.map_map]; rfl
theorem toldD_at {t : Told} {i : Nat} {x : Eff × Int} (h : t[i]? = some x) : (toldD t)[i]? = some (.tuple [effD x.1, .int x.2]) := by
  unfold toldD toldK
  rw [List.map_map, List.getElem?_map, h]
  show some (pairD _) = _
  unfold pairD
  rw [keyD_E]
theorem toldD_len (t : Told) : (toldD t).length = t.length := by unfold toldD toldK; simp
theorem keyE_inj {a b : Eff} (h : keyE a = keyE b) : a = b := by
  unfold keyE at h
  exact (List.map_inj_right (fun x y q => by have := Sum.inl.inj q; exact_mod_cast this)).mp h
theorem rowS_inj {a b : List Bool} (h : rowS a = rowS b) : a = b := by
  unfold rowS at h
  have h := congrArg (fun z : Str => z.cps.toList) h
  simp only at h
  exact (List.map_inj_right (fun x y q => by cases x <;> cases y <;> simp_all)).mp h
theorem keyP_inj {a b : Pic} (h : keyP a = keyP b) : a = b := by
  unfold keyP at h
  exact (List.map_inj_right (fun x y q => rowS_inj (Sum.inr.inj q))).mp h
theorem encP_inj {a b : Pic} (h : encP a = encP b) : a = b := by
  rw [← keyD_P, ← keyD_P] at h
  unfold keyD at h
  have h := PyData.tuple.inj h
  exact keyP_inj ((List.map_inj_right (fun x y q => kd_inj q)).mp h)
theorem effD_inj {a b : Eff} (h : effD a = effD b) : a = b := by
  unfold effD at h
  have h := PyData.tuple.inj h
  exact (List.map_inj_right (fun x y q => by unfold lnD at q; exact_mod_cast PyData.int.inj q)).mp h
theorem frD_inj {a b : Rat} (h : frD a = frD b) : a = b := by
  unfold frD at h
  have h := PyData.tuple.inj h
  simp only [List.cons.injEq, PyData.int.injEq, and_true] at h
  exact Rat.ext h.1 (by exact_mod_cast h.2)
/-! ### they are plain and shallow -/
theorem rowS_len (r : List Bool) : (rowS r).length = r.length := by show (rowS r).cps.size = _; unfold rowS; simp
theorem rowS_ok (r : List Bool) : PyData.strOk (rowS r) = true := by
  show (rowS r).cps.all _ = true
  rw [← Array.all_toList, List.all_eq_true]
  intro c hc
  obtain ⟨b, _, rfl⟩ := List.mem_map.mp (show c ∈ r.map fun b => if b then 35 else 46 from hc)
  cases b <;> decide
theorem PlA_map {α : Type} {f : α → PyData} : ∀ {l : List α}, (∀ a ∈ l, Pl (f a) = true) → PlA (l.map f) = true
  | [], _ => rfl
  | a :: l, h => by
    simp only [List.map_cons, PlA, Bool.and_eq_true]
    exact ⟨h a (by simp), PlA_map fun b hb => h b (by simp [hb])⟩
theorem depthA {α : Type} {f : α → PyData} {n : Nat} : ∀ {l : List α}, (∀ a ∈ l, (f a).depth ≤ n) → PyData.depthAll (l.map f) ≤ n
  | [], _ => Nat.zero_le _
  | a :: l, h => by
    have h1 := h a (by simp)
    have h2 := depthA (l := l) fun b hb => h b (by simp [hb])
    simp only [List.map_cons, PyData.depthAll]
    omega
theorem Pl_pic (p : Pic) : Pl (encP p) = true := PlA_map fun r _ => rowS_ok r
theorem Pl_eff (e : Eff) : Pl (effD e) = true := PlA_map fun _ _ => rfl
theorem Pl_fr (q : Rat) : Pl (frD q) = true := rfl
theorem dp_pic (p : Pic) : (encP p).depth ≤ 2 := by
  have := depthA (f := fun r => PyData.str (rowS r)) (n := 1) (l := p) fun _ _ => by simp [PyData.depth]
  show PyData.depth (.tuple _) ≤ 2
  simp only [PyData.depth]
  omega
theorem dp_eff (e : Eff) : (effD e).depth ≤ 2 := by
  have := depthA (f := lnD) (n := 1) (l := e) fun _ _ => by simp [PyData.depth, lnD]
  show PyData.depth (.tuple _) ≤ 2
  simp only [PyData.depth]
  omega
theorem dp_fr (q : Rat) : (frD q).depth ≤ 2 := by unfold frD; simp [PyData.depth, PyData.depthAll]
theorem sh_pic (p : Pic) : SeqAt.shaped (encP p) = true := shaped_of (Pl_pic p) (Nat.le_trans (dp_pic p) (by decide))
theorem sh_eff (p : Eff) : SeqAt.shaped (effD p) = true := shaped_of (Pl_eff p) (Nat.le_trans (dp_eff p) (by decide))
theorem sh_fr (p : Rat) : SeqAt.shaped (frD p) = true := shaped_of (Pl_fr p) (Nat.le_trans (dp_fr p) (by decide))
theorem toldD_map (t : Told) : toldD t = t.map fun x => .tuple [effD x.1, .int x.2] := by
  unfold toldD toldK
  rw [List.map_map]
  refine List.map_congr_left fun x _ => ?_
  show pairD _ = _
  unfold pairD
  rw [keyD_E]
theorem sh_told (t : Told) : SeqAt.shaped (.tuple (toldD t)) = true := by
  rw [toldD_map]
  refine shaped_of (PlA_map fun x _ => ?_) ?_
  · show (Pl (effD x.1) && (Pl (.int x.2) && true)) = true
    rw [Pl_eff]; rfl
  · have := depthA (f := fun x : Eff × Int => PyData.tuple [effD x.1, .int x.2]) (n := 3) (l := t) fun x _ => by
      have := dp_eff x.1
      simp only [PyData.depth, PyData.depthAll]
      omega
    simp only [PyData.depth]
    omega
theorem eq_pic (a b : Pic) : PyData.eqv (encP a) (encP b) = decide (a = b) := eqv_dec Pl_pic (fun _ _ => encP_inj) a b
theorem eq_eff (a b : Eff) : PyData.eqv (effD a) (effD b) = decide (a = b) := eqv_dec Pl_eff (fun _ _ => effD_inj) a b
theorem eq_fr (a b : Rat) : PyData.eqv (frD a) (frD b) = decide (a = b) := eqv_dec Pl_fr (fun _ _ => frD_inj) a b
/-! ### boards and strokes -/
structure Shp (r c : Nat) (p : Pic) : Prop where
  len : p.length = r
  row : ∀ x ∈ p, x.length = c
  r0 : 0 < r
  c0 : 0 < c
  r12 : r ≤ 12
  c12 : c ≤ 12
def paint (p : Pic) (l : Nat) : Pic := if l < p.length then p.set l (List.replicate (p.headD []).length true) else p.map fun x => x.set (l - p.length) false
def act (p : Pic) (e : Eff) : Pic := e.foldl paint p
theorem Shp.head {r c : Nat} {p : Pic} (h : Shp r c p) : ∃ x, p[0]? = some x ∧ p.headD [] = x ∧ x.length = c := by
  have h0 : 0 < p.length := by rw [h.len]; exact h.r0
  cases p with
  | nil => simp at h0
  | cons x l => exact ⟨x, rfl, rfl, h.row x (by simp)⟩
theorem Shp.paint {r c : Nat} {p : Pic} (h : Shp r c p) (l : Nat) : Shp r c (paint p l) := by
  obtain ⟨x, h1, h2, h3⟩ := h.head
  unfold Cz.paint
  split
  · refine ⟨by rw [List.length_set, h.len], fun y hy => ?_, h.r0, h.c0, h.r12, h.c12⟩
    rcases List.mem_or_eq_of_mem_set hy with q | q
    · exact h.row y q
    · rw [q, List.length_replicate, h2, h3]
  · refine ⟨by rw [List.length_map, h.len], fun y hy => ?_, h.r0, h.c0, h.r12, h.c12⟩
    obtain ⟨z, hz, rfl⟩ := List.mem_map.mp hy
    rw [List.length_set, h.row z hz]
theorem Shp.act {r c : Nat} (e : Eff) : ∀ {p : Pic}, Shp r c p → Shp r c (act p e) := by
  induction e with
  | nil => exact fun h => h
  | cons l e ih => exact fun h => ih (h.paint l)
/-! ### what a def gives back -/
def retD (H : Hp) (d : PyData) (Q : VK) : Prop := ∀ v H', Same H H' → Dt H' v d → Q v H'
def retL (H : Hp) (ds : List PyData) (Q : VK) : Prop := ∀ v H', Same H H' → Ls H' v ds → Q v H'
def retB (H : Hp) (b : Bool) (Q : VK) : Prop := ∀ H', Same H H' → Q (.bl b) H'
def retI (H : Hp) (i : Int) (Q : VK) : Prop := ∀ H', Same H H' → Q (.int i) H'
def retN (H : Hp) (Q : VK) : Prop := ∀ H', Same H H' → Q .non H'
theorem retD.gi {H : Hp} {d : PyData} {Q : VK} (h : retD H d Q) {v : V} {H' : Hp} (s : Same H H') (hv : Dt H' v d) : Q v H' := h v H' s hv
/-! ### readings -/
section
variable {K : PySem.W.Frag} {H H' : Hp} {Q : VK} {v u : V} {ds es : List PyData} {d : PyData} {a : Addr} {xs ys : List V}
theorem sameR (H : Hp) : Same H H := fun _ _ h => h
/-- a slice of a tuple -/
def cutD (xs : List PyData) (lo hi : Option Int) : List PyData := (xs.drop (HT.sIx xs.length 0 lo)).take (HT.sIx xs.length xs.length hi - HT.sIx xs.length 0 lo)
theorem Da.cut (h : Da H xs ds) (lo hi : Option Int) : Da H (cutV xs lo hi) (cutD ds lo hi) := by
  unfold cutV cutD
  rw [h.len]
  exact (h.drop _).take _
theorem rd_slT {lo hi : Option Int} (h : Dt H v (.tuple ds)) (q : ∀ u H', Same H H' → Dt H' u (.tuple (cutD ds lo hi)) → Q u H') : rSlA K v lo hi H Q := by
  obtain ⟨a, xs, rfl, h1, h2⟩ := h.tup_at
  refine ⟨a, xs, rfl, SqT.of h1, fun e => q _ _ (sameR _) (.tup h1 ?_), fun _ p hp => q _ _ (same_upd hp) (Dt.newT hp (h2.cut lo hi))⟩
  unfold cutD
  rw [← h2.len, e.1, e.2, List.drop_zero, Nat.sub_zero, h2.len, List.take_length]
  exact h2
theorem rd_catT (h : Dt H v (.tuple ds)) (g : Dt H u (.tuple es)) (hl : ds.length + es.length ≤ 1000) (q : ∀ u H', Same H H' → Dt H' u (.tuple (ds ++ es)) → Q u H') : rCatA K v u H Q := by
  obtain ⟨a, xs, rfl, h1, h2⟩ := h.tup_at
  obtain ⟨b, ys, rfl, g1, g2⟩ := g.tup_at
  refine ⟨a, b, xs, ys, rfl, rfl, SqT.of h1, SqT.of g1, by rw [h2.len, g2.len]; exact Nat.le_trans hl (by decide), fun e => q _ _ (sameR _) ?_, fun _ e => q _ _ (sameR _) ?_, fun _ _ p hp => q _ _ (same_upd hp) (Dt.newT hp (h2.app g2))⟩
  · subst e
    cases h2
    exact g
  · subst e
    cases g2
    rw [List.append_nil]
    exact h
end
end Cz

set_option Elab.async false
set_option linter.all false
set_option maxRecDepth 100000
set_option maxHeartbeats 1000000
/-! more readings -/
namespace Cz
open PySem L2
section
variable {K : PySem.W.Frag} {H H' : Hp} {Q : VK} {v u : V} {ds es : List PyData} {d : PyData} {a : Addr} {xs ys : List V} {σ : St}
/-! ### isinstance -/
theorem ty_int (i : Int) : TyX K H (.int i) (.type "int") := .base (.int i)
theorem ty_str (x : Str) : TyX K H (.str x) (.type "str") := .base (.str x)
theorem ty_bl (x : Bool) : TyX K H (.bl x) (.type "bool") := .base (.bl x)
theorem ty_non : TyX K H .non (.type "NoneType") := .base .non
theorem ty_tup (h : Dt H v (.tuple ds)) : TyX K H v (.type "tuple") := by
  obtain ⟨a, xs, rfl, h1, _⟩ := h.tup_at
  exact .base (.tup h1)
theorem ty_ft (h : Ft H v ds) : TyX K H v (.type "tuple") := by
  obtain ⟨a, xs, o, rfl, h1, _⟩ := h
  exact .fTuple h1
theorem ty_ls (h : Ls H v ds) : TyX K H v (.type "list") := by
  obtain ⟨a, xs, rfl, h1, _⟩ := h
  exact .base (.lst h1)
theorem rd_isi {t n : String} {b : Bool} (ht : TyX K H v (.type t)) (hb : kitB t n = some b) (q : Q (.bl b) H) : rIsi K [v, .ty n] H Q := ⟨v, _, _, _, b, rfl, .ty n, ht, kit_ty hb, q⟩
theorem k_ii : kitB "int" "int" = some true := by decide +kernel
theorem k_ib : kitB "int" "bool" = some false := by decide +kernel
theorem k_bb : kitB "bool" "bool" = some true := by decide +kernel
theorem k_bi : kitB "bool" "int" = some true := by decide +kernel
theorem k_ss : kitB "str" "str" = some true := by decide +kernel
theorem k_tt : kitB "tuple" "tuple" = some true := by decide +kernel
theorem k_ll : kitB "list" "list" = some true := by decide +kernel
theorem k_tl : kitB "tuple" "list" = some false := by decide +kernel
theorem k_il : kitB "int" "list" = some false := by decide +kernel
theorem k_it : kitB "int" "tuple" = some false := by decide +kernel
theorem k_bt : kitB "bool" "tuple" = some false := by decide +kernel
theorem k_bl : kitB "bool" "list" = some false := by decide +kernel
theorem k_is : kitB "int" "str" = some false := by decide +kernel
theorem k_bs : kitB "bool" "str" = some false := by decide +kernel
/-- over a fixed tuple -/
theorem Ft.lcT {g : TG} {tt : TT} {te : TE} {vs : List Nat} (hx : Ft H v ds) (f : Nat → PyData → Option PyData) (turn : ∀ i d u H', ds[i]? = some d → Same H H' → Dt H' u d → Turnd g tt te vs σ H' u (f i d)) (hn : ds.length ≤ 1000)
    (q : ∀ Dd H', H Dd = none → Same H H' → Ls H' (.ref Dd) (keepsOf f ds) → Q (.ref Dd) H') : ∃ a, v = .ref a ∧ (∃ xs, SqT K H a xs) ∧ LcK g tt te vs Q σ (Itt K a) H := by
  obtain ⟨a, xs, rfl, h1, h2⟩ := hx.sq (K := K)
  refine ⟨a, rfl, ⟨xs, h1 H (sameR H)⟩, fun Dd hD => lc_tup (Qd := Q (.ref Dd)) (K := K) (a := a) (xs := xs) (fun i H' => LcInv H Dd i (keepsOf f (ds.take i)) H') (LcInv.start hD) (fun i H' _ p => h1 H' p.same) (fun i x H' hi p => ?_) (fun H' p => ?_)⟩
  · obtain ⟨d, e, hu⟩ := h2.got hi
    have hl := (List.getElem?_eq_some_iff.mp e).1
    exact (turn i d x H' e p.same (hu.ups p.same)).go p (small hn hl) fun H2 I => by rw [keeps_take f ds i d e]; exact I
  · rw [h2.len, List.take_length] at p
    exact q Dd H' hD p.same p.fin
/-- for over a fixed tuple -/
theorem Ft.forT {g : TG} {tb : TS} {D : Ends} (hx : Ft H v ds) (Pv : Nat → St → Hp → Prop) (h0 : Pv 0 σ H) (hsm : ∀ i σ' H', Pv i σ' H' → Same H H')
    (hs : ∀ i d u σ' H', ds[i]? = some d → Pv i σ' H' → Dt H' u d → g u σ' H' fun σ2 H2 => tb { D with nx := Pv (i + 1), ct := Pv (i + 1), bk := D.nx } σ2 H2) (hd : ∀ σ' H', Pv ds.length σ' H' → D.nx σ' H') :
    ∃ a, v = .ref a ∧ (∃ xs, SqT K H a xs) ∧ FoK g tb D σ (Itt K a) H := by
  obtain ⟨a, xs, rfl, h1, h2⟩ := hx.sq (K := K)
  refine ⟨a, rfl, ⟨xs, h1 H (sameR H)⟩, for_tup (K := K) (a := a) (xs := xs) Pv h0 (fun i σ' H' _ p => h1 H' (hsm i σ' H' p)) (fun i x σ' H' hi p => ?_) (by rw [h2.len]; exact hd)⟩
  obtain ⟨d, e, hu⟩ := h2.got hi
  exact hs i d x σ' H' e p (hu.ups (hsm i σ' H' p))
/-- over any walk, changing nothing that stood -/
theorem lcW {g : TG} {tt : TT} {te : TE} {vs : List Nat} {J : It} {n : Nat} {G : Hp → Prop} {Y : Nat → Hp → V → Hp → Prop} (w : Walk J n G Y) (hG : ∀ H', Same H H' → G H') (f : Nat → Option PyData)
    (turn : ∀ i x H1 H', i < n → Same H H1 → Y i H1 x H' → Same H1 H' ∧ Turnd g tt te vs σ H' x (f i)) (hn : n ≤ 1000) (q : ∀ Dd H', H Dd = none → Same H H' → Ls H' (.ref Dd) ((List.range n).filterMap f) → Q (.ref Dd) H') : LcK g tt te vs Q σ J H := by
  intro Dd hD
  refine lc_it (Qd := Q (.ref Dd)) w (fun i H' => LcInv H Dd i ((List.range i).filterMap f) H') (LcInv.start hD) (fun i H' _ p => hG H' p.same) (fun i x H1 H' hi p y => ?_) (fun H' p => q Dd H' hD p.same p.fin)
  obtain ⟨s, t⟩ := turn i x H1 H' hi p.same y
  have p' : LcInv H Dd i ((List.range i).filterMap f) H' := by
    obtain ⟨h0, s0, xs, h1, h2, h3⟩ := p
    exact ⟨h0, s0.trans s, xs, s _ _ h1, h2.ups s, h3⟩
  refine t.go p' (small hn hi) fun H2 I => ?_
  rw [List.range_succ, List.filterMap_append, List.filterMap_cons]
  cases e : f i with
  | none => rw [e] at I; simpa using I
  | some d => rw [e] at I; simpa using I
/-- every sign of a row is black or white -/
theorem rowS_sign {x : List Bool} {i c : Nat} (h : (rowS x).cps[i]? = some c) : c = 35 ∨ c = 46 := by
  have h := Array.mem_of_getElem? h
  have h : c ∈ (rowS x).cps.toList := by simpa using h
  obtain ⟨b, _, rfl⟩ := List.mem_map.mp (show c ∈ x.map fun b => if b then 35 else 46 from h)
  cases b
  · exact .inr rfl
  · exact .inl rfl
theorem range_all {n : Nat} : (List.range n).filterMap (fun _ => some (PyData.bool true)) = ((List.range n).map fun _ => true).map .bool := by
  rw [List.map_map, ← List.filterMap_eq_map]; rfl
/-! ### what a comprehension keeps -/
theorem keeps_all {α : Type} (f : Nat → PyData → Option PyData) (g : α → PyData) (k : α → PyData) : ∀ (l : List α), (∀ i a, l[i]? = some a → f i (g a) = some (k a)) → keepsOf f (l.map g) = l.map k := by
  intro l h
  unfold keepsOf
  suffices ∀ (l : List α) (n : Nat), (∀ i a, l[i]? = some a → f (n + i) (g a) = some (k a)) → ((l.map g).zipIdx n).filterMap (fun p => f p.2 p.1) = l.map k from this l 0 fun i a e => by rw [Nat.zero_add]; exact h i a e
  intro l
  induction l with
  | nil => intro n _; rfl
  | cons a l ih =>
    intro n h
    have e : f n (g a) = some (k a) := h 0 a rfl
    simp only [List.map_cons, List.zipIdx_cons, List.filterMap_cons, e]
    rw [ih (n + 1) fun i b e => by have := h (i + 1) b e; rw [← this]; congr 1; omega]
theorem rd_all {bs : List Bool} (h : Ls H v (bs.map .bool)) (q : Q (.bl (bs.all id)) H) : rAll K [v] H Q := by
  obtain ⟨a, xs, rfl, h1, h2⟩ := h
  rw [h2.bls] at h1
  exact ⟨a, bs, rfl, SqL.of h1, q⟩
theorem rd_sum {ns : List Int} (h : Ls H v (ns.map .int)) (q : Q (.int ns.sum) H) : rSum K [v] H Q := by
  obtain ⟨a, xs, rfl, h1, h2⟩ := h
  rw [h2.ints] at h1
  exact ⟨a, ns, rfl, SqL.of h1, q⟩
/-- tuple(l) -/
theorem rd_tupOf {X : Cx} (h : Ls H v ds) (q : ∀ u H', Same H H' → Dt H' u (.tuple ds) → Q u H') : ∃ p ys, [v] = [.ref p] ∧ ((SqL X.K H p ys ∧ ∀ l, H l = none → Q (.ref l) (upd H l (.tup ys))) ∨ (SqT X.K H p ys ∧ Q (.ref p) H)) := by
  obtain ⟨a, xs, rfl, h1, h2⟩ := h
  exact ⟨a, xs, rfl, .inl ⟨SqL.of h1, fun l hl => q _ _ (same_upd hl) (Dt.newT hl h2)⟩⟩
/-- list(t) -/
theorem rd_lstOf {X : Cx} (h : Dt H v (.tuple ds)) (q : ∀ u H', Same H H' → Ls H' u ds → Q u H') : ∃ p ys, [v] = [.ref p] ∧ (SqL X.K H p ys ∨ SqT X.K H p ys) ∧ ∀ l, H l = none → Q (.ref l) (upd H l (.lst ys)) := by
  obtain ⟨a, xs, rfl, h1, h2⟩ := h.tup_at
  exact ⟨a, xs, rfl, .inr (SqT.of h1), fun l hl => q _ _ (same_upd hl) (Ls.new hl h2)⟩
theorem rd_rev {te : TE} (q : te σ H fun x H1 => ∃ a xs, x = .ref a ∧ SqL K H1 a xs ∧ ∀ p, H1 p = none → Q (.ref p) (upd H1 p (.lst xs.reverse))) : tRevL K te σ H Q := q
theorem rd_ifT {A B : Prop} {b : Bool} (h : b = true) (q : A) : if b = true then A else B := by rw [if_pos h]; exact q
theorem rd_ifF {A B : Prop} {b : Bool} (h : b = false) (q : B) : if b = true then A else B := by rw [if_neg (by rw [h]; decide)]; exact q
theorem rd_k {k : Bool} {R : Bool → Prop} (q : R k) : ∃ k', V.bl k = .bl k' ∧ R k' := ⟨k, rfl, q⟩
theorem rd_lenP {p : Pic} {r c : Nat} (h : Dt H v (encP p)) (hp : Shp r c p) (q : Q (.int (r : Nat)) H) : rLen K [v] H Q := rd_len h (by rw [List.length_map, hp.len]; exact q)
theorem encP_at {p : Pic} {i : Nat} {d : PyData} (h : (p.map fun r => PyData.str (rowS r))[i]? = some d) : ∃ x, p[i]? = some x ∧ d = .str (rowS x) := by
  rw [List.getElem?_map] at h
  cases e : p[i]? with
  | none => rw [e] at h; cases h
  | some x => rw [e] at h; cases h; exact ⟨x, rfl, rfl⟩
theorem encP_0 {p : Pic} {r c : Nat} (hp : Shp r c p) : ∃ x : List Bool, (p.map fun r => PyData.str (rowS r))[0]? = some (.str (rowS x)) ∧ x.length = c ∧ p.headD [] = x := by
  obtain ⟨x, h1, h2, h3⟩ := hp.head
  exact ⟨x, by rw [List.getElem?_map, h1]; rfl, h3, h2⟩
theorem rd_lenS {x : List Bool} {c : Nat} (hx : x.length = c) (hc : c ≤ 12) (q : Q (.int (c : Nat)) H) : rLenS [.str (rowS x)] H Q := ⟨_, rfl, by rw [rowS_len, hx]; exact Nat.le_trans hc (by decide), by rw [rowS_len, hx]; exact q⟩
theorem all_true {α : Type} (l : List α) : ((l.map fun _ => true).all id) = true := by rw [List.all_eq_true]; intro b hb; obtain ⟨_, _, rfl⟩ := List.mem_map.mp hb; rfl
theorem rd_iS {te : TE} {R : It → Hp → Prop} (q : te σ H fun x H1 => ∃ z, x = .str z ∧ R (Its z) H1) : iStr te σ H R := q
theorem rd_body {m : Nat} {W : Nat → St → Hp → Prop} {P : (St → Hp → Prop) → Prop} (q : P (fun σ' H' => ∃ m', m' < m ∧ W m' σ' H')) : ∃ N : St → Hp → Prop, (∀ σ' H', N σ' H' → ∃ m', m' < m ∧ W m' σ' H') ∧ P N := ⟨_, fun _ _ h => h, q⟩
theorem rd_never {D : Ends} (h : False) : tNever D σ H := h
end
end Cz

set_option Elab.async false
set_option linter.all false
set_option maxRecDepth 100000
set_option maxHeartbeats 4000000

namespace Cz
open PySem L2
local macro_rules | `(tactic| infer_instance) => `(tactic| with_reducible first
  | refine rd_seq ?_ | refine rd_cons ?_ | refine rd_nil ?_ | refine rd_c ?_ | refine rd_op ?_ | (refine rd_var (v := ?_) ?_ ?_; rotate_left 1; (with_unfolding_all rfl)) | refine rd_un ?_ | refine rd_call ?_ | refine rd_cb ?_ | refine rd_I0 ?_ | refine rd_test ?_ | refine rd_tB ?_ | refine rd_k ?_
  | refine rd_not ?_ | refine rd_and ?_ | refine rd_or ?_ | refine rd_andV ?_ | refine rd_orV ?_ | refine rd_notV ?_ | refine rd_ife ?_ | refine rd_chain ?_ | refine rd_tup ?_ | refine rd_lst ?_ | refine rd_bm0 ?_ | refine rd_bm ?_ | refine rd_sl ?_ | refine rd_nopart ?_ | refine rd_part ?_ | refine rd_i ?_
  | refine rd_next ?_ | refine rd_cont ?_ | refine rd_drop ?_ | refine rd_ret ?_ | refine rd_retN ?_ | refine rd_if ?_ | refine rd_asg ?_ | refine rd_gname ?_ | refine rd_par ?_ | refine rd_par3 ?_ | refine rd_v2 ?_ | refine rd_v3 ?_ | refine rd_gnil ?_ | refine rd_for ?_ | refine rd_lc ?_ | refine rd_yes ?_ | refine rd_iT ?_ | refine rd_iL ?_ | refine rd_iR1 ?_ | refine rd_iR2 ?_ | refine rd_iS ?_ | refine rd_rev ?_ | (with_unfolding_all refine rd_ifT rfl ?_) | (with_unfolding_all refine rd_ifF rfl ?_))

abbrev s_is_int : Stmt := topS 11
abbrev n_is_int : List Str := ["value"]
theorem sc_is_int : FnScope n_is_int ["value"] (defScope s_is_int) := ⟨rfl, rfl, rfl, by decide +kernel, rfl, by decide +kernel, by decide +kernel⟩

def sp_is_int (K : PySem.W.Frag) : Sp := fun vs H Q E => ∃ i, vs = [.int i] ∧ Q (.bl true) H
theorem ok_is_int {P : Program} {w : World} {K : PySem.W.Frag} {mg : Str → Option Value} {base : Heap} {f : Addr} {fd : FuncData} (F : Fun K "is_int" "is_int" s_is_int f fd) (Z : Bl mg) (C : Ct mg)  : FnOk P w K mg base CX0 1 f fd ["value"] (sp_is_int K) := by
  refine F.ok (k := 0) sc_is_int (fun vs H Q E h => ?_) (fun cdv A outer s H vs Q E hr h => ?_)
  · obtain ⟨i, rfl, q⟩ := h
    rfl
  · refine ⟨_, (pss_one (ps_ret (pe_and (pe_callB (kIsi (K := K) rfl) (by rfl) Z.isi bt_isinstance (pa_cons (pv 0) (pa_cons (pe_ty Z.int bt_int) pa_nil))) (pe_one (pe_not (pe_callB (kIsi (K := K) rfl) (by rfl) Z.isi bt_isinstance (pa_cons (pv 0) (pa_cons (pe_ty Z.bool bt_bool) pa_nil)))))))), ?_⟩
    clear hr Z C
    obtain ⟨i, rfl, q⟩ := h
    ((try dsimp only); repeat infer_instance)
    refine rd_isi (ty_int i) k_ii ?_
    ((try dsimp only); repeat infer_instance)
    refine rd_isi (ty_int i) k_ib ?_
    ((try dsimp only); repeat infer_instance)
    exact q

abbrev s_is_in : Stmt := topS 12
abbrev n_is_in : List Str := ["value", "least", "most"]
theorem sc_is_in : FnScope n_is_in ["value", "least", "most"] (defScope s_is_in) := ⟨rfl, rfl, rfl, by decide +kernel, rfl, by decide +kernel, by decide +kernel⟩

def sp_is_in (K : PySem.W.Frag) : Sp := fun vs H Q E => ∃ i lo hi, vs = [.int i, .int lo, .int hi] ∧ Q (.bl (decide (lo ≤ i) && decide (i ≤ hi))) H
theorem ok_is_in {P : Program} {w : World} {K : PySem.W.Frag} {mg : Str → Option Value} {base : Heap} {f : Addr} {fd : FuncData} (F : Fun K "is_in" "is_in" s_is_in f fd) (Z : Bl mg) (C : Ct mg) (D_is_int : Dn P w K mg base "is_int" ["value"] 1 (sp_is_int K)) : FnOk P w K mg base CX0 2 f fd ["value", "least", "most"] (sp_is_in K) := by
  refine F.ok (k := 1) sc_is_in (fun vs H Q E h => ?_) (fun cdv A outer s H vs Q E hr h => ?_)
  · obtain ⟨i, lo, hi, rfl, q⟩ := h
    rfl
  · refine ⟨_, (pss_one (ps_ret (pe_and (pe_fn D_is_int hr (pa_cons (pv 0) pa_nil)) (pe_one (pe_chain op_le op_le (pv 1) (pv 0) (pv 2)))))), ?_⟩
    clear hr Z C D_is_int
    obtain ⟨i, lo, hi, rfl, q⟩ := h
    ((try dsimp only); repeat infer_instance)
    refine ⟨i, rfl, ?_⟩
    ((try dsimp only); repeat infer_instance)
    by_cases h : lo ≤ i
    · refine rd_ifT (decide_eq_true h) ?_
      ((try dsimp only); repeat infer_instance)
      rw [decide_eq_true h] at q
      exact q
    · refine rd_ifF (decide_eq_false h) ?_
      rw [decide_eq_false h] at q
      exact q

abbrev s_need_number : Stmt := topS 13
abbrev n_need_number : List Str := ["value", "least", "most"]
theorem sc_need_number : FnScope n_need_number ["value", "least", "most"] (defScope s_need_number) := ⟨rfl, rfl, rfl, by decide +kernel, rfl, by decide +kernel, by decide +kernel⟩

def sp_need_number (K : PySem.W.Frag) : Sp := fun vs H Q E => ∃ i lo hi, vs = [.int i, .int lo, .int hi] ∧ lo ≤ i ∧ i ≤ hi ∧ Q .non H
theorem ok_need_number {P : Program} {w : World} {K : PySem.W.Frag} {mg : Str → Option Value} {base : Heap} {f : Addr} {fd : FuncData} (F : Fun K "need_number" "need_number" s_need_number f fd) (Z : Bl mg) (C : Ct mg) (D_is_in : Dn P w K mg base "is_in" ["value", "least", "most"] 2 (sp_is_in K)) : FnOk P w K mg base CX0 3 f fd ["value", "least", "most"] (sp_need_number K) := by
  refine F.ok (k := 2) sc_need_number (fun vs H Q E h => ?_) (fun cdv A outer s H vs Q E hr h => ?_)
  · obtain ⟨i, lo, hi, rfl, h1, h2, q⟩ := h
    rfl
  · refine ⟨_, (pss_one (ps_if (pt_not (pt_val (pe_fn D_is_in hr (pa_cons (pv 0) (pa_cons (pv 1) (pa_cons (pv 2) pa_nil))))))
      (pss_one ps_never)
      pss_nil)), ?_⟩
    clear hr Z C D_is_in
    obtain ⟨i, lo, hi, rfl, h1, h2, q⟩ := h
    ((try dsimp only); repeat infer_instance)
    refine ⟨i, lo, hi, rfl, ?_⟩
    ((try dsimp only); repeat infer_instance)
    rw [decide_eq_true h1, decide_eq_true h2]
    ((try dsimp only); repeat infer_instance)
    exact q

abbrev s_need_board : Stmt := topS 14
abbrev n_need_board : List Str := ["rows", "columns"]
theorem sc_need_board : FnScope n_need_board ["rows", "columns"] (defScope s_need_board) := ⟨rfl, rfl, rfl, by decide +kernel, rfl, by decide +kernel, by decide +kernel⟩

def sp_need_board (K : PySem.W.Frag) : Sp := fun vs H Q E => ∃ r c, vs = [.int r, .int c] ∧ 1 ≤ r ∧ r ≤ 12 ∧ 1 ≤ c ∧ c ≤ 12 ∧ Q .non H
theorem ok_need_board {P : Program} {w : World} {K : PySem.W.Frag} {mg : Str → Option Value} {base : Heap} {f : Addr} {fd : FuncData} (F : Fun K "need_board" "need_board" s_need_board f fd) (Z : Bl mg) (C : Ct mg) (D_need_number : Dn P w K mg base "need_number" ["value", "least", "most"] 3 (sp_need_number K)) : FnOk P w K mg base CX0 4 f fd ["rows", "columns"] (sp_need_board K) := by
  refine F.ok (k := 3) sc_need_board (fun vs H Q E h => ?_) (fun cdv A outer s H vs Q E hr h => ?_)
  · obtain ⟨r, c, rfl, h1, h2, h3, h4, q⟩ := h
    rfl
  · refine ⟨_, (pss_cons (ps_expr (pe_fn D_need_number hr (pa_cons (pv 0) (pa_cons pe_int (pa_cons (pe_k C.side) pa_nil)))))
    (pss_one (ps_expr (pe_fn D_need_number hr (pa_cons (pv 1) (pa_cons pe_int (pa_cons (pe_k C.side) pa_nil))))))), ?_⟩
    clear hr Z C D_need_number
    obtain ⟨r, c, rfl, h1, h2, h3, h4, q⟩ := h
    ((try dsimp only); repeat infer_instance)
    refine ⟨r, _, _, rfl, h1, h2, ?_⟩
    ((try dsimp only); repeat infer_instance)
    refine ⟨c, _, _, rfl, h3, h4, ?_⟩
    ((try dsimp only); repeat infer_instance)
    exact q

abbrev s_need_cells : Stmt := topS 15
abbrev n_need_cells : List Str := ["rows", "columns", "most"]
theorem sc_need_cells : FnScope n_need_cells ["rows", "columns", "most"] (defScope s_need_cells) := ⟨rfl, rfl, rfl, by decide +kernel, rfl, by decide +kernel, by decide +kernel⟩

def sp_need_cells (K : PySem.W.Frag) : Sp := fun vs H Q E => ∃ r c m, vs = [.int r, .int c, .int m] ∧ 1 ≤ r ∧ r ≤ 12 ∧ 1 ≤ c ∧ c ≤ 12 ∧ r * c ≤ m ∧ Q .non H
theorem ok_need_cells {P : Program} {w : World} {K : PySem.W.Frag} {mg : Str → Option Value} {base : Heap} {f : Addr} {fd : FuncData} (F : Fun K "need_cells" "need_cells" s_need_cells f fd) (Z : Bl mg) (C : Ct mg) (D_need_board : Dn P w K mg base "need_board" ["rows", "columns"] 4 (sp_need_board K)) : FnOk P w K mg base CX0 5 f fd ["rows", "columns", "most"] (sp_need_cells K) := by
  refine F.ok (k := 4) sc_need_cells (fun vs H Q E h => ?_) (fun cdv A outer s H vs Q E hr h => ?_)
  · obtain ⟨r, c, m, rfl, h1, h2, h3, h4, h5, q⟩ := h
    rfl
  · refine ⟨_, (pss_cons (ps_expr (pe_fn D_need_board hr (pa_cons (pv 0) (pa_cons (pv 1) pa_nil))))
    (pss_one (ps_if (pt_cmpR op_gt (pe_op op_mul (pv 0) (pv 1)) (pv 2) (nomark _))
      (pss_one ps_never)
      pss_nil))), ?_⟩
    clear hr Z C D_need_board
    obtain ⟨r, c, m, rfl, h1, h2, h3, h4, h5, q⟩ := h
    ((try dsimp only); repeat infer_instance)
    refine ⟨r, c, rfl, h1, h2, h3, h4, ?_⟩
    ((try dsimp only); repeat infer_instance)
    refine rd_I (.inl ⟨by omega, by omega⟩) ?_
    ((try dsimp only); repeat infer_instance)
    refine rd_ifF (by simpa using h5) ?_
    ((try dsimp only); repeat infer_instance)
    exact q

abbrev s_is_picture : Stmt := topS 16
abbrev n_is_picture : List Str := ["value", "row", "sign"]
theorem sc_is_picture : FnScope n_is_picture ["value"] (defScope s_is_picture) := ⟨rfl, rfl, rfl, by decide +kernel, rfl, by decide +kernel, by decide +kernel⟩
abbrev in_is_picture : Scope := { kind := .function, names := [(".0", .local), ("row", .local), ("len", .globalImplicit), ("all", .globalImplicit), ("value", .cell)], isGenerator := false, isCoroutine := false }
def sp_is_picture (K : PySem.W.Frag) : Sp := fun vs H Q E => ∃ r c p v, vs = [v] ∧ Dt H v (encP p) ∧ Shp r c p ∧ retB H true Q
theorem ok_is_picture {P : Program} {w : World} {K : PySem.W.Frag} {mg : Str → Option Value} {base : Heap} {f : Addr} {fd : FuncData} (F : Fun K "is_picture" "is_picture" s_is_picture f fd) (Z : Bl mg) (C : Ct mg)  : FnOk P w K mg base CX0 1 f fd ["value"] (sp_is_picture K) := by
  refine F.ok (k := 0) sc_is_picture (fun vs H Q E h => ?_) (fun cdv A outer s H vs Q E hr h => ?_)
  · obtain ⟨r, c, p, v, rfl, hv, hp, q⟩ := h
    rfl
  · refine ⟨_, (pss_cons (ps_if (PW.pt (pw_or (pt_not (pt_val (pe_callB (kIsi (K := K) rfl) (by rfl) Z.isi bt_isinstance (pa_cons (pv 0) (pa_cons (pe_ty Z.tup bt_tuple) pa_nil))))) (pw_or1 (pt_not (pt_chain op_le op_le pe_int (pe_callB (kLen (K := K) rfl) (by rfl) Z.len bt_len (pa_cons (pv 0) pa_nil)) (pe_k C.side))))))
      (pss_one (ps_ret pe_bl))
      pss_nil)
    (pss_cons (ps_if (PW.pt (pw_or (pt_not (pt_val (pe_callB (kAll (K := K) rfl rfl) (by rfl) Z.all bt_all (pa_cons (pe_lc (own := [("row", 1)]) rfl sc_is_picture.nd (pi_tup (pv 0)) (blkOk_by (N := n_is_picture) (sc := (defScope s_is_picture)) (by decide +kernel)) (fun _ _ _ _ _ => (pg_name (i := 1) sc_is_picture.nd rfl (.inl rfl) (.inr rfl))) (fun _ _ _ _ _ => pts_nil) (fun _ _ _ _ _ => (pe_callB (kIsi (K := K) rfl) (by rfl) Z.isi bt_isinstance (pa_cons (pv 1) (pa_cons (pe_ty Z.str bt_str) pa_nil))))) pa_nil)))) (pw_or1 (pt_not (pt_chain op_le op_le pe_int (pe_callB kLenS (by rfl) Z.len bt_len (pa_cons (pe_ix (kIxT (K := K) rfl) (pv 0) pe_int (fun _ _ => rfl)) pa_nil)) (pe_k C.side))))))
      (pss_one (ps_ret pe_bl))
      pss_nil)
    (pss_one (ps_ret (pe_callB (kAll (K := K) rfl rfl) (by rfl) Z.all bt_all (pa_cons (pe_lc (own := [("row", 1)]) rfl sc_is_picture.nd (pi_tup (pv 0)) (blkOk_by (N := n_is_picture) (sc := (defScope s_is_picture)) (by decide +kernel)) (fun _ _ _ _ _ => (pg_name (i := 1) sc_is_picture.nd rfl (.inl rfl) (.inr rfl))) (fun _ _ _ _ _ => pts_nil) (fun _ _ _ _ _ => (pe_and (pe_cmpR op_eq (pe_callB kLenS (by rfl) Z.len bt_len (pa_cons (pv 1) pa_nil)) (pe_callB kLenS (by rfl) Z.len bt_len (pa_cons (pe_ix (kIxT (K := K) rfl) (pv 0) pe_int (fun _ _ => rfl)) pa_nil)) (nomark _)) (pe_one (pe_callB (kAll (K := K) rfl rfl) (by rfl) Z.all bt_all (pa_cons (pe_lc (own := [("sign", 2)]) rfl sc_is_picture.nd (pi_str (pv 1)) (blkOk_by (N := n_is_picture) (sc := in_is_picture) (by decide +kernel)) (fun _ _ _ _ _ => (pg_name (i := 2) sc_is_picture.nd rfl (.inl rfl) (.inr rfl))) (fun _ _ _ _ _ => pts_nil) (fun _ _ _ _ _ => (pe_cmpR (kInS (K := K) rfl) (pv 2) (pe_tup (pa_cons (pe_ks C.black) (pa_cons (pe_ks C.white) pa_nil))) rfl))) pa_nil)))))) pa_nil)))))), ?_⟩
    clear hr Z C
    obtain ⟨r, c, p, v, rfl, hv, hp, q⟩ := h
    ((try dsimp only); repeat infer_instance)
    refine rd_isi (ty_tup hv) k_tt ?_
    ((try dsimp only); repeat infer_instance)
    refine rd_lenP hv hp ?_
    ((try dsimp only); repeat infer_instance)
    refine rd_ifT (decide_eq_true (by have := hp.r0; omega)) ?_
    ((try dsimp only); repeat infer_instance)
    refine rd_ifF (by rw [decide_eq_true (by have := hp.r12; omega)]; rfl) ?_
    ((try dsimp only); repeat infer_instance)
    refine lcT hv (fun _ _ => some (.bool true)) (fun i d u H' hd s hu R Y hR hY => ?_) (by rw [List.length_map, hp.len]; exact Nat.le_trans hp.r12 (by decide)) (fun Dd H' hn s hL => ?_)
    · obtain ⟨x, hx, rfl⟩ := encP_at hd
      rw [hu.str_eq]
      ((try dsimp only); repeat infer_instance)
      refine ⟨rfl, ?_⟩
      ((try dsimp only); repeat infer_instance)
      refine rd_isi (ty_str _) k_ss ?_
      exact hY _ rfl _ _ (sameR _) (.bl true)
    · rw [keeps_all (fun _ _ => some (.bool true)) (fun r => .str (rowS r)) (fun _ => .bool true) p fun _ _ _ => rfl] at hL
      ((try dsimp only); repeat infer_instance)
      refine rd_all (bs := p.map fun _ => true) (by rw [List.map_map]; exact hL) ?_
      rw [all_true]
      obtain ⟨x, h0, hx, _⟩ := encP_0 hp
      ((try dsimp only); repeat infer_instance)
      refine rd_ixTS (hv.ups s) h0 ?_
      ((try dsimp only); repeat infer_instance)
      refine rd_lenS hx hp.c12 ?_
      ((try dsimp only); repeat infer_instance)
      refine rd_ifT (decide_eq_true (by have := hp.c0; omega)) ?_
      ((try dsimp only); repeat infer_instance)
      refine rd_ifF (by rw [decide_eq_true (by have := hp.c12; omega)]; rfl) ?_
      ((try dsimp only); repeat infer_instance)
      refine lcT (hv.ups s) (fun _ _ => some (.bool true)) (fun i d u H2 hd s2 hu R Y hR hY => ?_) (by rw [List.length_map, hp.len]; exact Nat.le_trans hp.r12 (by decide)) (fun Dd H' hn s3 hL => ?_)
      · obtain ⟨y, hy, rfl⟩ := encP_at hd
        rw [hu.str_eq]
        have hyl := hp.row y (List.mem_of_getElem? hy)
        ((try dsimp only); repeat infer_instance)
        refine ⟨rfl, ?_⟩
        ((try dsimp only); repeat infer_instance)
        refine rd_lenS hyl hp.c12 ?_
        ((try dsimp only); repeat infer_instance)
        refine rd_ixTS ((hv.ups s).ups s2) h0 ?_
        ((try dsimp only); repeat infer_instance)
        refine rd_lenS hx hp.c12 ?_
        refine rd_eq rfl ?_
        rw [decide_eq_true rfl]
        ((try dsimp only); repeat infer_instance)
        refine ⟨_, rfl, ?_⟩
        refine lcW walk_str (fun _ _ => True.intro) (fun _ => some (.bool true)) (fun i x H3 H4 hi s4 hY2 => ⟨by rw [hY2.1]; exact sameR _, fun R2 Y2 hR2 hY2' => ?_⟩) (by show (rowS y).length ≤ _; rw [rowS_len, hyl]; exact Nat.le_trans hp.c12 (by decide)) (fun D2 H5 hn2 s5 hL2 => ?_)
        · obtain ⟨rfl, c, hc, rfl⟩ := hY2
          ((try dsimp only); repeat infer_instance)
          refine ⟨rfl, ?_⟩
          ((try dsimp only); repeat infer_instance)
          refine ⟨by decide, fun p hp0 => ?_⟩
          refine ⟨p, _, rfl, .inr (SqT.of upd_same), rfl, rfl, ?_⟩
          refine hY2' _ rfl _ _ (same_upd hp0) ?_
          rcases rowS_sign hc with rfl | rfl <;> exact .bl true
        · rw [range_all] at hL2
          refine rd_all hL2 ?_
          rw [all_true]
          exact hY _ rfl _ _ s5 (.bl true)
      · rw [keeps_all (fun _ _ => some (.bool true)) (fun r => .str (rowS r)) (fun _ => .bool true) p fun _ _ _ => rfl] at hL
        ((try dsimp only); repeat infer_instance)
        refine rd_all (bs := p.map fun _ => true) (by rw [List.map_map]; exact hL) ?_
        rw [all_true]
        exact q _ (s.trans s3)

abbrev s_need_picture : Stmt := topS 17
abbrev n_need_picture : List Str := ["rows", "columns", "value"]
theorem sc_need_picture : FnScope n_need_picture ["rows", "columns", "value"] (defScope s_need_picture) := ⟨rfl, rfl, rfl, by decide +kernel, rfl, by decide +kernel, by decide +kernel⟩

def sp_need_picture (K : PySem.W.Frag) : Sp := fun vs H Q E => ∃ (r c : Nat) (p : Pic) (v : V), vs = [.int r, .int c, v] ∧ Dt H v (encP p) ∧ Shp r c p ∧ retN H Q
theorem ok_need_picture {P : Program} {w : World} {K : PySem.W.Frag} {mg : Str → Option Value} {base : Heap} {f : Addr} {fd : FuncData} (F : Fun K "need_picture" "need_picture" s_need_picture f fd) (Z : Bl mg) (C : Ct mg) (D_is_picture : Dn P w K mg base "is_picture" ["value"] 1 (sp_is_picture K)) : FnOk P w K mg base CX0 2 f fd ["rows", "columns", "value"] (sp_need_picture K) := by
  refine F.ok (k := 1) sc_need_picture (fun vs H Q E h => ?_) (fun cdv A outer s H vs Q E hr h => ?_)
  · obtain ⟨r, c, p, v, rfl, hv, hp, q⟩ := h
    rfl
  · refine ⟨_, (pss_cons (ps_if (pt_not (pt_val (pe_fn D_is_picture hr (pa_cons (pv 2) pa_nil))))
      (pss_one ps_never)
      pss_nil)
    (pss_one (ps_if (PW.pt (pw_or (pt_cmpR op_ne (pe_callB (kLen (K := K) rfl) (by rfl) Z.len bt_len (pa_cons (pv 2) pa_nil)) (pv 0) (nomark _)) (pw_or1 (pt_cmpR op_ne (pe_callB kLenS (by rfl) Z.len bt_len (pa_cons (pe_ix (kIxT (K := K) rfl) (pv 2) pe_int (fun _ _ => rfl)) pa_nil)) (pv 1) (nomark _)))))
      (pss_one ps_never)
      pss_nil))), ?_⟩
    clear hr Z C D_is_picture
    obtain ⟨r, c, p, v, rfl, hv, hp, q⟩ := h
    ((try dsimp only); repeat infer_instance)
    refine ⟨r, c, p, v, rfl, hv, hp, fun H1 s1 => ?_⟩
    ((try dsimp only); repeat infer_instance)
    obtain ⟨x, h0, hx, _⟩ := encP_0 hp
    refine rd_lenP (hv.ups s1) hp ?_
    ((try dsimp only); repeat infer_instance)
    refine rd_ne rfl ?_
    refine rd_k ?_
    refine rd_ifF (by simp) ?_
    ((try dsimp only); repeat infer_instance)
    refine rd_ixTS (hv.ups s1) h0 ?_
    ((try dsimp only); repeat infer_instance)
    refine rd_lenS hx hp.c12 ?_
    ((try dsimp only); repeat infer_instance)
    refine rd_ne rfl ?_
    refine rd_k ?_
    refine rd_ifF (by simp) ?_
    ((try dsimp only); repeat infer_instance)
    exact q _ s1

abbrev s_are_strokes : Stmt := topS 18
abbrev n_are_strokes : List Str := ["rows", "columns", "value", "line"]
theorem sc_are_strokes : FnScope n_are_strokes ["rows", "columns", "value"] (defScope s_are_strokes) := ⟨rfl, rfl, rfl, by decide +kernel, rfl, by decide +kernel, by decide +kernel⟩

def sp_are_strokes (K : PySem.W.Frag) : Sp := fun vs H Q E => ∃ (r c : Nat) (e : Eff) (v : V), vs = [.int r, .int c, v] ∧ Ls H v (e.map lnD) ∧ e.length ≤ 30 ∧ (∀ n ∈ e, n < r + c) ∧ retB H true Q
theorem ok_are_strokes {P : Program} {w : World} {K : PySem.W.Frag} {mg : Str → Option Value} {base : Heap} {f : Addr} {fd : FuncData} (F : Fun K "are_strokes" "are_strokes" s_are_strokes f fd) (Z : Bl mg) (C : Ct mg) (D_is_in : Dn P w K mg base "is_in" ["value", "least", "most"] 2 (sp_is_in K)) : FnOk P w K mg base CX0 3 f fd ["rows", "columns", "value"] (sp_are_strokes K) := by
  refine F.ok (k := 2) sc_are_strokes (fun vs H Q E h => ?_) (fun cdv A outer s H vs Q E hr h => ?_)
  · obtain ⟨r, c, e, v, rfl, hv, hl, he, q⟩ := h
    rfl
  · refine ⟨_, (pss_one (ps_ret (pe_and (pe_callB (kIsi (K := K) rfl) (by rfl) Z.isi bt_isinstance (pa_cons (pv 2) (pa_cons (pe_ty Z.lst bt_list) pa_nil))) (pe_one (pe_callB (kAll (K := K) rfl rfl) (by rfl) Z.all bt_all (pa_cons (pe_lc (own := [("line", 3)]) rfl sc_are_strokes.nd (pi_list (pv 2)) (blkOk_by (N := n_are_strokes) (sc := (defScope s_are_strokes)) (by decide +kernel)) (fun _ _ _ _ _ => (pg_name (i := 3) sc_are_strokes.nd rfl (.inl rfl) (.inr rfl))) (fun _ _ _ _ _ => pts_nil) (fun _ _ _ _ _ => (pe_fn D_is_in hr (pa_cons (pv 3) (pa_cons pe_int (pa_cons (pe_op op_sub (pe_op op_add (pv 0) (pv 1)) pe_int) pa_nil)))))) pa_nil)))))), ?_⟩
    clear hr Z C D_is_in
    obtain ⟨r, c, e, v, rfl, hv, hl, he, q⟩ := h
    ((try dsimp only); repeat infer_instance)
    refine rd_isi (ty_ls hv) k_ll ?_
    ((try dsimp only); repeat infer_instance)
    refine lcL hv (fun _ _ => some (.bool true)) (fun i d u H' hd s hu R Y hR hY => ?_) (by rw [List.length_map]; omega) (fun Dd H' hn s hL => ?_)
    · obtain ⟨n, hn, rfl⟩ : ∃ n, e[i]? = some n ∧ d = lnD n := by
        rw [List.getElem?_map] at hd
        cases q : e[i]? with
        | none => rw [q] at hd; cases hd
        | some n => rw [q] at hd; cases hd; exact ⟨n, rfl, rfl⟩
      rw [hu.int_eq]
      have := he n (List.mem_of_getElem? hn)
      ((try dsimp only); repeat infer_instance)
      refine ⟨rfl, ?_⟩
      ((try dsimp only); repeat infer_instance)
      refine ⟨_, _, _, rfl, ?_⟩
      rw [decide_eq_true (by omega), decide_eq_true (by omega)]
      exact hY _ rfl _ _ (sameR _) (.bl true)
    · rw [keeps_all (fun _ _ => some (.bool true)) lnD (fun _ => .bool true) e fun _ _ _ => rfl] at hL
      ((try dsimp only); repeat infer_instance)
      refine rd_all (bs := e.map fun _ => true) (by rw [List.map_map]; exact hL) ?_
      rw [all_true]
      exact q _ s

end Cz

set_option Elab.async false
set_option linter.all false
set_option maxRecDepth 100000
set_option maxHeartbeats 1000000
/-! painting, fractions: the plain facts of the walk -/
namespace Cz
open PySem L2
/-! ### lines painted -/
theorem mul_black : ∀ n : Nat, n ≤ 12 → Txt.mul "#" (n : Int) = rowS (List.replicate n true) := by
  have h : ∀ n : Fin 13, Txt.mul "#" ((n : Nat) : Int) = rowS (List.replicate n true) := by decide +kernel
  exact fun n hn => h ⟨n, by omega⟩
theorem str_ext {a b : Str} (h : a.cps.toList = b.cps.toList) : a = b := by
  cases a; cases b
  simp only at h
  congr 1
  exact Array.ext' h
theorem app_cps (a b : Str) : (a ++ b).cps.toList = a.cps.toList ++ b.cps.toList := by
  show (a.cps ++ b.cps).toList = _
  exact Array.toList_append
theorem sIx_take (n k : Nat) : HT.sIx n n (some (k : Int)) = min k n := HT.sIx_nat n n k
def cell (b : Bool) : Nat := if b then 35 else 46
theorem row_cps (x : List Bool) : (rowS x).cps.toList = x.map cell := rfl
theorem white_row {x : List Bool} {k : Nat} (hk : k < x.length) : cutS (rowS x) none (some (k : Int)) ++ "." ++ cutS (rowS x) (some ((k : Int) + 1)) none = rowS (x.set k false) := by
  apply str_ext
  rw [app_cps, app_cps, row_cps]
  unfold cutS
  rw [row_cps, rowS_len]
  have e1 : HT.sIx x.length x.length (some (k : Int)) = k := by rw [HT.sIx_nat]; omega
  have e2 : HT.sIx x.length 0 (some ((k : Int) + 1)) = k + 1 := by
    have := HT.sIx_nat x.length 0 (k + 1)
    rw [show ((k : Int) + 1) = ((k + 1 : Nat) : Int) by omega, this]; omega
  rw [e1, e2, HT.sIx_none, HT.sIx_none]
  simp only [List.drop_zero, Nat.sub_zero]
  rw [List.set_eq_take_append_cons_drop, if_pos hk, List.map_append, List.map_cons, ← List.map_take, ← List.map_drop]
  have : ((x.map cell).drop (k + 1)).take (x.length - (k + 1)) = (x.map cell).drop (k + 1) := List.take_of_length_le (by simp)
  rw [List.map_drop, List.map_take, this]
  have d : (Str.ofString ".").cps.toList = [46] := by decide +kernel
  rw [d, List.append_assoc]
  rfl
theorem cutS_len (z : Str) (lo hi : Option Int) : (cutS z lo hi).length ≤ z.length := by
  show (cutS z lo hi).cps.size ≤ z.cps.size
  unfold cutS
  rw [List.size_toArray, List.length_take, List.length_drop, Array.length_toList]
  omega
theorem black_rows {p : Pic} {k : Nat} {x : List Bool} (hk : k < p.length) : (cutD (p.map fun r => PyData.str (rowS r)) none (some (k : Int)) ++ [PyData.str (rowS x)]) ++ cutD (p.map fun r => PyData.str (rowS r)) (some ((k : Int) + 1)) none = (p.set k x).map fun r => PyData.str (rowS r) := by
  unfold cutD
  rw [List.length_map]
  have e1 : HT.sIx p.length p.length (some (k : Int)) = k := by rw [HT.sIx_nat]; omega
  have e2 : HT.sIx p.length 0 (some ((k : Int) + 1)) = k + 1 := by
    have := HT.sIx_nat p.length 0 (k + 1)
    rw [show ((k : Int) + 1) = ((k + 1 : Nat) : Int) by omega, this]; omega
  rw [e1, e2, HT.sIx_none, HT.sIx_none]
  simp only [List.drop_zero, Nat.sub_zero]
  rw [List.set_eq_take_append_cons_drop, if_pos hk, List.map_append, List.map_cons, ← List.map_take, ← List.map_drop, List.append_assoc]
  congr 1
  show _ :: _ = _
  congr 1
  exact List.take_of_length_le (by simp)
theorem cutD_len (z : List PyData) (lo hi : Option Int) : (cutD z lo hi).length ≤ z.length := by
  unfold cutD
  rw [List.length_take, List.length_drop]
  omega
/-! ### fractions -/
/-- both parts below 2^n -/
def Bd (n : Nat) (q : Rat) : Prop := q.num.natAbs < 2 ^ n ∧ q.den < 2 ^ n
theorem Bd.mono {m n : Nat} {q : Rat} (h : Bd m q) (hn : m ≤ n) : Bd n q := ⟨Nat.lt_of_lt_of_le h.1 (Nat.pow_le_pow_right (by decide) hn), Nat.lt_of_lt_of_le h.2 (Nat.pow_le_pow_right (by decide) hn)⟩
theorem Bd.of_sz {n : Nat} {q : Rat} (h : Cs.Sz (2 ^ n) q) : Bd (n + 1) q := by
  have := h.num
  have e : 2 ^ n < 2 ^ (n + 1) := Nat.pow_lt_pow_right (by decide) (by omega)
  exact ⟨by omega, by omega⟩
/-- a quotient's lowest terms are no greater -/
theorem Bd.quot {a b : Int} {n : Nat} (hb : 0 < b) (h1 : a.natAbs < 2 ^ n) (h2 : b.natAbs < 2 ^ n) : Bd n ((a : Rat) / (b : Rat)) := by
  obtain ⟨e1, e2⟩ := Cs.low_num a b hb
  refine ⟨?_, ?_⟩
  · rw [e1]; exact Nat.lt_of_le_of_lt (Int.natAbs_ediv_le_natAbs _ _) h1
  · have e3 : ((a : Rat) / (b : Rat)).den = b.natAbs / Nat.gcd a.natAbs b.natAbs := by
      have : (((a : Rat) / (b : Rat)).den : Int) = ((b.natAbs / Nat.gcd a.natAbs b.natAbs : Nat) : Int) := by
        rw [e2, Int.natCast_ediv]; congr 1; omega
      exact_mod_cast this
    rw [e3]
    exact Nat.lt_of_le_of_lt (Nat.div_le_self _ _) h2
theorem q_eq (q : Rat) : q = (q.num : Rat) / ((q.den : Int) : Rat) := by
  rw [Rat.intCast_natCast, ← Rat.mkRat_eq_div, Rat.mkRat_self]
theorem den_pos (q : Rat) : (0 : Int) < (q.den : Int) := by have := q.den_pos; omega
theorem den_ne (q : Rat) : ((q.den : Int) : Rat) ≠ 0 := by
  intro h
  have := q.den_pos
  have : (q.den : Int) = 0 := by exact_mod_cast h
  omega
theorem mul_eq (a b : Rat) : a * b = ((a.num * b.num : Int) : Rat) / ((a.den * b.den : Int) : Rat) := by
  have h1 := den_ne a
  have h2 := den_ne b
  rw [Rat.intCast_mul, Rat.intCast_mul]
  conv => lhs; rw [q_eq a, q_eq b]
  grind
theorem add_eq (a b : Rat) : a + b = ((a.num * b.den + b.num * a.den : Int) : Rat) / ((a.den * b.den : Int) : Rat) := by
  have h1 := den_ne a
  have h2 := den_ne b
  rw [Rat.intCast_mul, Rat.intCast_add, Rat.intCast_mul, Rat.intCast_mul]
  conv => lhs; rw [q_eq a, q_eq b]
  grind
theorem sub_eq (a b : Rat) : a - b = ((a.num * b.den - b.num * a.den : Int) : Rat) / ((a.den * b.den : Int) : Rat) := by
  have h1 := den_ne a
  have h2 := den_ne b
  rw [Rat.intCast_mul, Rat.intCast_sub, Rat.intCast_mul, Rat.intCast_mul]
  conv => lhs; rw [q_eq a, q_eq b]
  grind
theorem div_eq (a b : Rat) (hb : b ≠ 0) : a / b = ((a.num * b.den : Int) : Rat) / ((a.den * b.num : Int) : Rat) := by
  have h1 := den_ne a
  have h2 := den_ne b
  have h3 : ((b.num : Int) : Rat) ≠ 0 := by
    intro h
    apply hb
    rw [q_eq b, h]; grind
  rw [Rat.intCast_mul, Rat.intCast_mul]
  conv => lhs; rw [q_eq a, q_eq b]
  grind
theorem div_neg (a b : Int) : ((-a : Int) : Rat) / ((-b : Int) : Rat) = (a : Rat) / (b : Rat) := by
  rw [Rat.intCast_neg, Rat.intCast_neg]
  by_cases h : (b : Rat) = 0
  · rw [h]; grind
  · grind
theorem lt_prod {i j : Int} (h1 : i.natAbs < 2 ^ 2000) (h2 : j.natAbs < 2 ^ 2000) : (i * j).natAbs < 2 ^ 4000 := wide_lt h1 h2
theorem le4400 {n : Nat} (h : n < 2 ^ 4000 + 2 ^ 4000) : n < 2 ^ 4400 := by
  have e : 2 ^ 4000 + 2 ^ 4000 = 2 ^ 4001 := by rw [Nat.pow_succ]; omega
  exact Nat.lt_of_lt_of_le (by rw [e] at h; exact h) (Nat.pow_le_pow_right (by decide) (by decide))
theorem nd_abs {q : Rat} (h : Bd 2000 q) : ((q.den : Int)).natAbs < 2 ^ 2000 := by rw [Int.natAbs_natCast]; exact h.2
theorem sub_bd {a b : Rat} (h1 : Bd 2000 a) (h2 : Bd 2000 b) : 0 < (a.den : Int) * b.den ∧ (a.num * b.den - b.num * a.den).natAbs < 2 ^ 4400 ∧ ((a.den : Int) * b.den).natAbs < 2 ^ 4400 ∧ True := by
  have x1 := lt_prod h1.1 (nd_abs h2)
  have x2 := lt_prod h2.1 (nd_abs h1)
  have x3 := lt_prod (nd_abs h1) (nd_abs h2)
  generalize a.num * (b.den : Int) = y1 at *
  generalize b.num * (a.den : Int) = y2 at *
  refine ⟨Int.mul_pos (den_pos a) (den_pos b), le4400 (by omega), le4400 (by omega), True.intro⟩
theorem add_bd {a b : Rat} (h1 : Bd 2000 a) (h2 : Bd 2000 b) : 0 < (a.den : Int) * b.den ∧ (a.num * b.den + b.num * a.den).natAbs < 2 ^ 4400 ∧ ((a.den : Int) * b.den).natAbs < 2 ^ 4400 := by
  have x1 := lt_prod h1.1 (nd_abs h2)
  have x2 := lt_prod h2.1 (nd_abs h1)
  have x3 := lt_prod (nd_abs h1) (nd_abs h2)
  generalize a.num * (b.den : Int) = y1 at *
  generalize b.num * (a.den : Int) = y2 at *
  refine ⟨Int.mul_pos (den_pos a) (den_pos b), le4400 (by omega), le4400 (by omega)⟩
theorem mul_bd {a b : Rat} (h1 : Bd 2000 a) (h2 : Bd 2000 b) : 0 < (a.den : Int) * b.den ∧ (a.num * b.num).natAbs < 2 ^ 4400 ∧ ((a.den : Int) * b.den).natAbs < 2 ^ 4400 :=
  ⟨Int.mul_pos (den_pos a) (den_pos b), le4400 (by have := lt_prod h1.1 h2.1; omega), le4400 (by have := lt_prod (nd_abs h1) (nd_abs h2); omega)⟩
theorem div_bd {a b : Rat} (h1 : Bd 2000 a) (h2 : Bd 2000 b) : (a.num * b.den).natAbs < 2 ^ 4400 ∧ ((a.den : Int) * b.num).natAbs < 2 ^ 4400 :=
  ⟨le4400 (by have := lt_prod h1.1 (nd_abs h2); omega), le4400 (by have := lt_prod (nd_abs h1) h2.1; omega)⟩
end Cz

set_option Elab.async false
set_option linter.all false
set_option maxRecDepth 100000
set_option maxHeartbeats 4000000

namespace Cz
open PySem L2
local macro_rules | `(tactic| infer_instance) => `(tactic| with_reducible first
  | refine rd_seq ?_ | refine rd_cons ?_ | refine rd_nil ?_ | refine rd_c ?_ | refine rd_op ?_ | (refine rd_var (v := ?_) ?_ ?_; rotate_left 1; (with_unfolding_all rfl)) | refine rd_un ?_ | refine rd_call ?_ | refine rd_cb ?_ | refine rd_I0 ?_ | refine rd_test ?_ | refine rd_tB ?_ | refine rd_k ?_
  | refine rd_not ?_ | refine rd_and ?_ | refine rd_or ?_ | refine rd_andV ?_ | refine rd_orV ?_ | refine rd_notV ?_ | refine rd_ife ?_ | refine rd_chain ?_ | refine rd_tup ?_ | refine rd_lst ?_ | refine rd_bm0 ?_ | refine rd_bm ?_ | refine rd_sl ?_ | refine rd_nopart ?_ | refine rd_part ?_ | refine rd_i ?_
  | refine rd_next ?_ | refine rd_cont ?_ | refine rd_drop ?_ | refine rd_ret ?_ | refine rd_retN ?_ | refine rd_if ?_ | refine rd_asg ?_ | refine rd_gname ?_ | refine rd_par ?_ | refine rd_par3 ?_ | refine rd_v2 ?_ | refine rd_v3 ?_ | refine rd_gnil ?_ | refine rd_for ?_ | refine rd_lc ?_ | refine rd_yes ?_ | refine rd_iT ?_ | refine rd_iL ?_ | refine rd_iR1 ?_ | refine rd_iR2 ?_ | refine rd_iS ?_ | refine rd_rev ?_ | (with_unfolding_all refine rd_ifT rfl ?_) | (with_unfolding_all refine rd_ifF rfl ?_))

theorem same3 {H H1 H2 : Hp} (a : Same H H1) (b : Same H1 H2) : Same H H2 := fun x o h => b x o (a x o h)
abbrev s_painted_line : Stmt := topS 19
abbrev n_painted_line : List Str := ["picture", "line", "at", "row"]
theorem sc_painted_line : FnScope n_painted_line ["picture", "line"] (defScope s_painted_line) := ⟨rfl, rfl, rfl, by decide +kernel, rfl, by decide +kernel, by decide +kernel⟩

def sp_painted_line (K : PySem.W.Frag) : Sp := fun vs H Q E => ∃ (r c : Nat) (p : Pic) (v : V) (l : Nat), vs = [v, .int l] ∧ Dt H v (encP p) ∧ Shp r c p ∧ l < r + c ∧ retD H (encP (paint p l)) Q
theorem ok_painted_line {P : Program} {w : World} {K : PySem.W.Frag} {mg : Str → Option Value} {base : Heap} {f : Addr} {fd : FuncData} (F : Fun K "painted_line" "painted_line" s_painted_line f fd) (Z : Bl mg) (C : Ct mg)  : FnOk P w K mg base CX0 1 f fd ["picture", "line"] (sp_painted_line K) := by
  refine F.ok (k := 0) sc_painted_line (fun vs H Q E h => ?_) (fun cdv A outer s H vs Q E hr h => ?_)
  · obtain ⟨r, c, p, v, l, rfl, hv, hp, hl, q⟩ := h
    rfl
  · refine ⟨_, (pss_cons (ps_if (pt_cmpR op_lt (pv 1) (pe_callB (kLen (K := K) rfl) (by rfl) Z.len bt_len (pa_cons (pv 0) pa_nil)) (nomark _))
      (pss_one (ps_ret (pe_op op_catA (pe_op op_catA (pe_slice sl_tupA (pv 0) po_none (po_some (pv 1))) (pe_tup (pa_cons (pe_op op_strRep (pe_ks C.black) (pe_callB kLenS (by rfl) Z.len bt_len (pa_cons (pe_ix (kIxT (K := K) rfl) (pv 0) pe_int (fun _ _ => rfl)) pa_nil))) pa_nil))) (pe_slice sl_tupA (pv 0) (po_some (pe_op op_add (pv 1) pe_int)) po_none))))
      pss_nil)
    (pss_cons (ps_set (i := 2) sc_painted_line.nd rfl (.inr rfl) (pe_op op_sub (pv 1) (pe_callB (kLen (K := K) rfl) (by rfl) Z.len bt_len (pa_cons (pv 0) pa_nil))))
    (pss_one (ps_ret (pe_callTy call_tuple_of (by rfl) Z.tup bt_tuple (pa_cons (pe_lc (own := [("row", 3)]) rfl sc_painted_line.nd (pi_tup (pv 0)) (blkOk_by (N := n_painted_line) (sc := (defScope s_painted_line)) (by decide +kernel)) (fun _ _ _ _ _ => (pg_name (i := 3) sc_painted_line.nd rfl (.inl rfl) (.inr rfl))) (fun _ _ _ _ _ => pts_nil) (fun _ _ _ _ _ => (pe_op op_add_str (pe_op op_add_str (pe_slice sl_str (pv 3) po_none (po_some (pv 2))) (pe_ks C.white)) (pe_slice sl_str (pv 3) (po_some (pe_op op_add (pv 2) pe_int)) po_none)))) pa_nil)))))), ?_⟩
    clear hr Z C
    obtain ⟨r, c, p, v, l, rfl, hv, hp, hl, q⟩ := h
    obtain ⟨x, h0, hx, hd⟩ := encP_0 hp
    ((try dsimp only); repeat infer_instance)
    refine rd_lenP hv hp ?_
    ((try dsimp only); repeat infer_instance)
    by_cases hlr : l < r
    · have e : paint p l = p.set l (List.replicate c true) := by unfold paint; rw [hp.len, if_pos hlr, hd, hx]
      refine rd_ifT (decide_eq_true (by omega)) ?_
      ((try dsimp only); repeat infer_instance)
      refine rd_slT hv fun u1 H1 s1 d1 => ?_
      ((try dsimp only); repeat infer_instance)
      refine rd_ixTS (hv.ups s1) h0 ?_
      ((try dsimp only); repeat infer_instance)
      refine rd_lenS hx hp.c12 ?_
      refine ⟨_, _, rfl, rfl, by omega, by have := hp.c12; omega, by decide, ?_⟩
      ((try dsimp only); repeat infer_instance)
      refine ⟨by show 1 ≤ _; decide, fun p2 hp2 => ?_⟩
      rw [mul_black c hp.c12]
      refine rd_catT (d1.ups (same_upd hp2)) (Dt.newT hp2 (Da.one (.str _))) (Nat.le_trans (Nat.add_le_add (cutD_len _ _ _) (Nat.le_refl _)) (by rw [List.length_map, hp.len]; have := hp.r12; simp; omega)) fun u3 H3 s3 d3 => ?_
      ((try dsimp only); repeat infer_instance)
      refine rd_slT (((hv.ups s1).ups (same_upd hp2)).ups s3) fun u4 H4 s4 d4 => ?_
      refine rd_catT (d3.ups s4) d4 ?_ fun u5 H5 s5 d5 => ?_
      · have := cutD_len (p.map fun r => PyData.str (rowS r)) none (some (l : Int))
        have := cutD_len (p.map fun r => PyData.str (rowS r)) (some ((l : Int) + 1)) none
        have := hp.r12
        simp only [List.length_map, hp.len] at *
        simp
        omega
      · rw [black_rows (by rw [hp.len]; exact hlr), ← e] at d5
        exact q _ _ (same3 (same3 (same3 (same3 s1 (same_upd hp2)) s3) s4) s5) d5
    · have e : paint p l = p.map fun x => x.set (l - r) false := by unfold paint; rw [hp.len, if_neg hlr]
      refine rd_ifF (decide_eq_false (by omega)) ?_
      ((try dsimp only); repeat infer_instance)
      refine rd_lenP hv hp ?_
      ((try dsimp only); repeat infer_instance)
      rw [show (l : Int) - r = ((l - r : Nat) : Int) by omega]
      refine lcT hv (fun _ d => match d with | .str z => some (.str (cutS z none (some ((l - r : Nat) : Int)) ++ "." ++ cutS z (some (((l - r : Nat) : Int) + 1)) none)) | _ => none) (fun i d u H' hdd s hu R Y hR hY => ?_) (by rw [List.length_map, hp.len]; exact Nat.le_trans hp.r12 (by decide)) (fun Dd H' hn s hL => ?_)
      · obtain ⟨y, hy, rfl⟩ := encP_at hdd
        rw [hu.str_eq]
        have hyl := hp.row y (List.mem_of_getElem? hy)
        have hyz : (rowS y).length ≤ 12 := by rw [rowS_len, hyl]; exact hp.c12
        ((try dsimp only); repeat infer_instance)
        refine ⟨rfl, ?_⟩
        ((try dsimp only); repeat infer_instance)
        refine ⟨_, rfl, Nat.le_trans hyz (by decide), ?_⟩
        ((try dsimp only); repeat infer_instance)
        refine ⟨_, _, rfl, rfl, Nat.le_trans (Nat.add_le_add (cutS_len _ _ _) (Nat.le_refl _)) (Nat.le_trans (Nat.add_le_add hyz (Nat.le_refl _)) (by decide)), ?_⟩
        ((try dsimp only); repeat infer_instance)
        refine ⟨_, rfl, Nat.le_trans hyz (by decide), ?_⟩
        refine ⟨_, _, rfl, rfl, ?_, ?_⟩
        · have h1 := cutS_len (rowS y) none (some ((l - r : Nat) : Int))
          have h2 := cutS_len (rowS y) (some (((l - r : Nat) : Int) + 1)) none
          have h3 : ∀ a b : Str, (a ++ b).length = a.length + b.length := fun a b => by show (a.cps ++ b.cps).size = _; rw [Array.size_append]; rfl
          have h4 : (Str.ofString ".").length = 1 := by decide +kernel
          have h5 := sizeLine_eq
          rw [h3, h4]
          omega
        · exact hY _ rfl _ _ (sameR _) (.str _)
      · rw [keeps_all _ (fun r => .str (rowS r)) (fun x => .str (rowS (x.set (l - r) false))) p fun i y hy => ?_] at hL
        · ((try dsimp only); repeat infer_instance)
          refine rd_tupOf hL fun u H2 s2 d2 => ?_
          refine q _ _ (same3 s s2) ?_
          rw [e]
          unfold encP
          rw [List.map_map]
          exact d2
        · have hyl := hp.row y (List.mem_of_getElem? hy)
          show some _ = some _
          rw [white_row (by omega)]

abbrev s_laid : Stmt := topS 20
abbrev n_laid : List Str := ["picture", "effect", "line"]
theorem sc_laid : FnScope n_laid ["picture", "effect"] (defScope s_laid) := ⟨rfl, rfl, rfl, by decide +kernel, rfl, by decide +kernel, by decide +kernel⟩

def sp_laid (K : PySem.W.Frag) : Sp := fun vs H Q E => ∃ (r c : Nat) (p : Pic) (v u : V) (e : Eff), vs = [v, u] ∧ Dt H v (encP p) ∧ Shp r c p ∧ Dt H u (effD e) ∧ (∀ n ∈ e, n < r + c) ∧ retD H (encP (act p e)) Q
theorem ok_laid {P : Program} {w : World} {K : PySem.W.Frag} {mg : Str → Option Value} {base : Heap} {f : Addr} {fd : FuncData} (F : Fun K "laid" "laid" s_laid f fd) (Z : Bl mg) (C : Ct mg) (D_painted_line : Dn P w K mg base "painted_line" ["picture", "line"] 1 (sp_painted_line K)) : FnOk P w K mg base CX0 2 f fd ["picture", "effect"] (sp_laid K) := by
  refine F.ok (k := 1) sc_laid (fun vs H Q E h => ?_) (fun cdv A outer s H vs Q E hr h => ?_)
  · obtain ⟨r, c, p, v, u, e, rfl, hv, hp, hu, he, q⟩ := h
    rfl
  · refine ⟨_, (pss_cons (ps_for PassesOwn.never rfl (pi_tup (pv 1)) (pg_name (i := 2) sc_laid.nd rfl (.inl rfl))
      (pss_one (ps_set (i := 0) sc_laid.nd rfl (.inl rfl) (pe_fn D_painted_line hr (pa_cons (pv 0) (pa_cons (pv 2) pa_nil))))))
    (pss_one (ps_ret (pv 0)))), ?_⟩
    clear hr Z C D_painted_line
    obtain ⟨r, c, p, v, u, e, rfl, hv, hp, hu, he, q⟩ := h
    ((try dsimp only); repeat infer_instance)
    refine forT hu (fun i σ' H' => Same H H' ∧ ∃ x y, σ' = [some x, some u, y] ∧ Dt H' x (encP (act p (e.take i)))) ⟨sameR _, v, none, rfl, hv⟩ (fun i σ' H' p => .of p.1) (fun i d x σ' H' hd hP hx => ?_) (fun σ' H' hP => ?_)
    · obtain ⟨s1, y, z, rfl, hy⟩ := hP
      rw [List.getElem?_map] at hd
      cases hi : e[i]? with
      | none => rw [hi] at hd; cases hd
      | some n =>
        rw [hi] at hd
        cases hd
        rw [hx.int_eq]
        ((try dsimp only); repeat infer_instance)
        refine ⟨r, c, _, _, n, rfl, hy, hp.act _, he n (List.mem_of_getElem? hi), fun v2 H2 s2 d2 => ?_⟩
        ((try dsimp only); repeat infer_instance)
        refine ⟨same3 s1 s2, _, _, rfl, ?_⟩
        have : act p (e.take (i + 1)) = paint (act p (e.take i)) n := by
          unfold act
          rw [List.take_add_one, hi, List.foldl_append]
          rfl
        rw [this]
        exact d2
    · obtain ⟨s1, y, z, rfl, hy⟩ := hP
      rw [List.length_map, List.take_length] at hy
      ((try dsimp only); repeat infer_instance)
      exact q _ _ s1 hy

abbrev s__law_stroke : Stmt := topS 55
abbrev n__law_stroke : List Str := ["_law_picture_here", "_law_line", "_law_at", "_law_told"]
theorem sc__law_stroke : FnScope n__law_stroke ["_law_picture_here", "_law_line"] (defScope s__law_stroke) := ⟨rfl, rfl, rfl, by decide +kernel, rfl, by decide +kernel, by decide +kernel⟩

def sp__law_stroke (K : PySem.W.Frag) : Sp := fun vs H Q E => ∃ (r c : Nat) (p : Pic) (v : V) (l : Nat), vs = [v, .int l] ∧ Dt H v (encP p) ∧ Shp r c p ∧ l < r + c ∧ retD H (encP (paint p l)) Q
theorem ok__law_stroke {P : Program} {w : World} {K : PySem.W.Frag} {mg : Str → Option Value} {base : Heap} {f : Addr} {fd : FuncData} (F : Fun K "_law_stroke" "_law_stroke" s__law_stroke f fd) (Z : Bl mg) (C : Ct mg)  : FnOk P w K mg base CX0 1 f fd ["_law_picture_here", "_law_line"] (sp__law_stroke K) := by
  refine F.ok (k := 0) sc__law_stroke (fun vs H Q E h => ?_) (fun cdv A outer s H vs Q E hr h => ?_)
  · obtain ⟨r, c, p, v, l, rfl, hv, hp, hl, q⟩ := h
    rfl
  · refine ⟨_, (pss_cons (ps_if (pt_cmpR op_lt (pv 1) (pe_callB (kLen (K := K) rfl) (by rfl) Z.len bt_len (pa_cons (pv 0) pa_nil)) (nomark _))
      (pss_one (ps_ret (pe_op op_catA (pe_op op_catA (pe_slice sl_tupA (pv 0) po_none (po_some (pv 1))) (pe_tup (pa_cons (pe_op op_strRep pe_str (pe_callB kLenS (by rfl) Z.len bt_len (pa_cons (pe_ix (kIxT (K := K) rfl) (pv 0) pe_int (fun _ _ => rfl)) pa_nil))) pa_nil))) (pe_slice sl_tupA (pv 0) (po_some (pe_op op_add (pv 1) pe_int)) po_none))))
      pss_nil)
    (pss_cons (ps_set (i := 2) sc__law_stroke.nd rfl (.inr rfl) (pe_op op_sub (pv 1) (pe_callB (kLen (K := K) rfl) (by rfl) Z.len bt_len (pa_cons (pv 0) pa_nil))))
    (pss_one (ps_ret (pe_callTy call_tuple_of (by rfl) Z.tup bt_tuple (pa_cons (pe_lc (own := [("_law_told", 3)]) rfl sc__law_stroke.nd (pi_tup (pv 0)) (blkOk_by (N := n__law_stroke) (sc := (defScope s__law_stroke)) (by decide +kernel)) (fun _ _ _ _ _ => (pg_name (i := 3) sc__law_stroke.nd rfl (.inl rfl) (.inr rfl))) (fun _ _ _ _ _ => pts_nil) (fun _ _ _ _ _ => (pe_op op_add_str (pe_op op_add_str (pe_slice sl_str (pv 3) po_none (po_some (pv 2))) pe_str) (pe_slice sl_str (pv 3) (po_some (pe_op op_add (pv 2) pe_int)) po_none)))) pa_nil)))))), ?_⟩
    clear hr Z C
    obtain ⟨r, c, p, v, l, rfl, hv, hp, hl, q⟩ := h
    obtain ⟨x, h0, hx, hd⟩ := encP_0 hp
    ((try dsimp only); repeat infer_instance)
    refine rd_lenP hv hp ?_
    ((try dsimp only); repeat infer_instance)
    by_cases hlr : l < r
    · have e : paint p l = p.set l (List.replicate c true) := by unfold paint; rw [hp.len, if_pos hlr, hd, hx]
      refine rd_ifT (decide_eq_true (by omega)) ?_
      ((try dsimp only); repeat infer_instance)
      refine rd_slT hv fun u1 H1 s1 d1 => ?_
      ((try dsimp only); repeat infer_instance)
      refine rd_ixTS (hv.ups s1) h0 ?_
      ((try dsimp only); repeat infer_instance)
      refine rd_lenS hx hp.c12 ?_
      refine ⟨_, _, rfl, rfl, by omega, by have := hp.c12; omega, by decide, ?_⟩
      ((try dsimp only); repeat infer_instance)
      refine ⟨by show 1 ≤ _; decide, fun p2 hp2 => ?_⟩
      rw [mul_black c hp.c12]
      refine rd_catT (d1.ups (same_upd hp2)) (Dt.newT hp2 (Da.one (.str _))) (Nat.le_trans (Nat.add_le_add (cutD_len _ _ _) (Nat.le_refl _)) (by rw [List.length_map, hp.len]; have := hp.r12; simp; omega)) fun u3 H3 s3 d3 => ?_
      ((try dsimp only); repeat infer_instance)
      refine rd_slT (((hv.ups s1).ups (same_upd hp2)).ups s3) fun u4 H4 s4 d4 => ?_
      refine rd_catT (d3.ups s4) d4 ?_ fun u5 H5 s5 d5 => ?_
      · have := cutD_len (p.map fun r => PyData.str (rowS r)) none (some (l : Int))
        have := cutD_len (p.map fun r => PyData.str (rowS r)) (some ((l : Int) + 1)) none
        have := hp.r12
        simp only [List.length_map, hp.len] at *
        simp
        omega
      · rw [black_rows (by rw [hp.len]; exact hlr), ← e] at d5
        exact q _ _ (same3 (same3 (same3 (same3 s1 (same_upd hp2)) s3) s4) s5) d5
    · have e : paint p l = p.map fun x => x.set (l - r) false := by unfold paint; rw [hp.len, if_neg hlr]
      refine rd_ifF (decide_eq_false (by omega)) ?_
      ((try dsimp only); repeat infer_instance)
      refine rd_lenP hv hp ?_
      ((try dsimp only); repeat infer_instance)
      rw [show (l : Int) - r = ((l - r : Nat) : Int) by omega]
      refine lcT hv (fun _ d => match d with | .str z => some (.str (cutS z none (some ((l - r : Nat) : Int)) ++ "." ++ cutS z (some (((l - r : Nat) : Int) + 1)) none)) | _ => none) (fun i d u H' hdd s hu R Y hR hY => ?_) (by rw [List.length_map, hp.len]; exact Nat.le_trans hp.r12 (by decide)) (fun Dd H' hn s hL => ?_)
      · obtain ⟨y, hy, rfl⟩ := encP_at hdd
        rw [hu.str_eq]
        have hyl := hp.row y (List.mem_of_getElem? hy)
        have hyz : (rowS y).length ≤ 12 := by rw [rowS_len, hyl]; exact hp.c12
        ((try dsimp only); repeat infer_instance)
        refine ⟨rfl, ?_⟩
        ((try dsimp only); repeat infer_instance)
        refine ⟨_, rfl, Nat.le_trans hyz (by decide), ?_⟩
        ((try dsimp only); repeat infer_instance)
        refine ⟨_, _, rfl, rfl, Nat.le_trans (Nat.add_le_add (cutS_len _ _ _) (Nat.le_refl _)) (Nat.le_trans (Nat.add_le_add hyz (Nat.le_refl _)) (by decide)), ?_⟩
        ((try dsimp only); repeat infer_instance)
        refine ⟨_, rfl, Nat.le_trans hyz (by decide), ?_⟩
        refine ⟨_, _, rfl, rfl, ?_, ?_⟩
        · have h1 := cutS_len (rowS y) none (some ((l - r : Nat) : Int))
          have h2 := cutS_len (rowS y) (some (((l - r : Nat) : Int) + 1)) none
          have h3 : ∀ a b : Str, (a ++ b).length = a.length + b.length := fun a b => by show (a.cps ++ b.cps).size = _; rw [Array.size_append]; rfl
          have h4 : (Str.ofString ".").length = 1 := by decide +kernel
          have h5 := sizeLine_eq
          rw [h3, h4]
          omega
        · exact hY _ rfl _ _ (sameR _) (.str _)
      · rw [keeps_all _ (fun r => .str (rowS r)) (fun x => .str (rowS (x.set (l - r) false))) p fun i y hy => ?_] at hL
        · ((try dsimp only); repeat infer_instance)
          refine rd_tupOf hL fun u H2 s2 d2 => ?_
          refine q _ _ (same3 s s2) ?_
          rw [e]
          unfold encP
          rw [List.map_map]
          exact d2
        · have hyl := hp.row y (List.mem_of_getElem? hy)
          show some _ = some _
          rw [white_row (by omega)]

abbrev s__law_strokes : Stmt := topS 56
abbrev n__law_strokes : List Str := ["_law_picture_here", "_law_lines", "_law_line"]
theorem sc__law_strokes : FnScope n__law_strokes ["_law_picture_here", "_law_lines"] (defScope s__law_strokes) := ⟨rfl, rfl, rfl, by decide +kernel, rfl, by decide +kernel, by decide +kernel⟩

def sp__law_strokes (K : PySem.W.Frag) : Sp := fun vs H Q E => ∃ (r c : Nat) (p : Pic) (v u : V) (e : Eff), vs = [v, u] ∧ Dt H v (encP p) ∧ Shp r c p ∧ (Dt H u (effD e) ∨ Ls H u (e.map lnD)) ∧ (∀ n ∈ e, n < r + c) ∧ retD H (encP (act p e)) Q
theorem ok__law_strokes {P : Program} {w : World} {K : PySem.W.Frag} {mg : Str → Option Value} {base : Heap} {f : Addr} {fd : FuncData} (F : Fun K "_law_strokes" "_law_strokes" s__law_strokes f fd) (Z : Bl mg) (C : Ct mg) (D_law_stroke : Dn P w K mg base "_law_stroke" ["_law_picture_here", "_law_line"] 1 (sp__law_stroke K)) : FnOk P w K mg base CX0 2 f fd ["_law_picture_here", "_law_lines"] (sp__law_strokes K) := by
  refine F.ok (k := 1) sc__law_strokes (fun vs H Q E h => ?_) (fun cdv A outer s H vs Q E hr h => ?_)
  · obtain ⟨r, c, p, v, u, e, rfl, hv, hp, hu, he, q⟩ := h
    rfl
  · refine ⟨_, (pss_cons (ps_for PassesOwn.never rfl (pi_seq (pv 1)) (pg_name (i := 2) sc__law_strokes.nd rfl (.inl rfl))
      (pss_one (ps_set (i := 0) sc__law_strokes.nd rfl (.inl rfl) (pe_fn D_law_stroke hr (pa_cons (pv 0) (pa_cons (pv 2) pa_nil))))))
    (pss_one (ps_ret (pv 0)))), ?_⟩
    clear hr Z C D_law_stroke
    obtain ⟨r, c, p, v, u, e, rfl, hv, hp, hu, he, q⟩ := h
    ((try dsimp only); repeat infer_instance)
    rcases hu with hu | hu
    · refine .inr ?_
      ((try dsimp only); repeat infer_instance)
      refine forT hu (fun i σ' H' => Same H H' ∧ ∃ x y, σ' = [some x, some u, y] ∧ Dt H' x (encP (act p (e.take i)))) ⟨sameR _, v, none, rfl, hv⟩ (fun i σ' H' p => .of p.1) (fun i d x σ' H' hd hP hx => ?_) (fun σ' H' hP => ?_)
      · obtain ⟨s1, y, z, rfl, hy⟩ := hP
        rw [List.getElem?_map] at hd
        cases hi : e[i]? with
        | none => rw [hi] at hd; cases hd
        | some n =>
          rw [hi] at hd
          cases hd
          rw [hx.int_eq]
          ((try dsimp only); repeat infer_instance)
          refine ⟨r, c, _, _, n, rfl, hy, hp.act _, he n (List.mem_of_getElem? hi), fun v2 H2 s2 d2 => ?_⟩
          ((try dsimp only); repeat infer_instance)
          refine ⟨same3 s1 s2, _, _, rfl, ?_⟩
          have : act p (e.take (i + 1)) = paint (act p (e.take i)) n := by
            unfold act
            rw [List.take_add_one, hi, List.foldl_append]
            rfl
          rw [this]
          exact d2
      · obtain ⟨s1, y, z, rfl, hy⟩ := hP
        rw [List.length_map, List.take_length] at hy
        ((try dsimp only); repeat infer_instance)
        exact q _ _ s1 hy
    · refine .inl ?_
      ((try dsimp only); repeat infer_instance)
      obtain ⟨a, xs, rfl, g1, g2⟩ := hu
      refine forL g1 g2 (fun i σ' H' => Same H H' ∧ ∃ x y, σ' = [some x, some (.ref a), y] ∧ Dt H' x (encP (act p (e.take i)))) ⟨sameR _, v, none, rfl, hv⟩ (fun i σ' H' p => ⟨.of p.1, p.1 _ _ g1⟩) (fun i d x σ' H' hd hP hx => ?_) (fun σ' H' hP => ?_)
      · obtain ⟨s1, y, z, rfl, hy⟩ := hP
        rw [List.getElem?_map] at hd
        cases hi : e[i]? with
        | none => rw [hi] at hd; cases hd
        | some n =>
          rw [hi] at hd
          cases hd
          rw [hx.int_eq]
          ((try dsimp only); repeat infer_instance)
          refine ⟨r, c, _, _, n, rfl, hy, hp.act _, he n (List.mem_of_getElem? hi), fun v2 H2 s2 d2 => ?_⟩
          ((try dsimp only); repeat infer_instance)
          refine ⟨same3 s1 s2, _, _, rfl, ?_⟩
          have : act p (e.take (i + 1)) = paint (act p (e.take i)) n := by
            unfold act
            rw [List.take_add_one, hi, List.foldl_append]
            rfl
          rw [this]
          exact d2
      · obtain ⟨s1, y, z, rfl, hy⟩ := hP
        rw [List.length_map, List.take_length] at hy
        ((try dsimp only); repeat infer_instance)
        exact q _ _ s1 hy

end Cz

set_option Elab.async false
set_option linter.all false
set_option maxRecDepth 100000
set_option maxHeartbeats 4000000

namespace Cz
open PySem L2
local macro_rules | `(tactic| infer_instance) => `(tactic| with_reducible first
  | refine rd_seq ?_ | refine rd_cons ?_ | refine rd_nil ?_ | refine rd_c ?_ | refine rd_op ?_ | (refine rd_var (v := ?_) ?_ ?_; rotate_left 1; (with_unfolding_all rfl)) | refine rd_un ?_ | refine rd_call ?_ | refine rd_cb ?_ | refine rd_I0 ?_ | refine rd_test ?_ | refine rd_tB ?_ | refine rd_k ?_
  | refine rd_not ?_ | refine rd_and ?_ | refine rd_or ?_ | refine rd_andV ?_ | refine rd_orV ?_ | refine rd_notV ?_ | refine rd_ife ?_ | refine rd_chain ?_ | refine rd_tup ?_ | refine rd_lst ?_ | refine rd_bm0 ?_ | refine rd_bm ?_ | refine rd_sl ?_ | refine rd_nopart ?_ | refine rd_part ?_ | refine rd_i ?_
  | refine rd_next ?_ | refine rd_cont ?_ | refine rd_drop ?_ | refine rd_ret ?_ | refine rd_retN ?_ | refine rd_if ?_ | refine rd_asg ?_ | refine rd_gname ?_ | refine rd_par ?_ | refine rd_par3 ?_ | refine rd_v2 ?_ | refine rd_v3 ?_ | refine rd_gnil ?_ | refine rd_for ?_ | refine rd_lc ?_ | refine rd_yes ?_ | refine rd_iT ?_ | refine rd_iL ?_ | refine rd_iR1 ?_ | refine rd_iR2 ?_ | refine rd_iS ?_ | refine rd_rev ?_ | (with_unfolding_all refine rd_ifT rfl ?_) | (with_unfolding_all refine rd_ifF rfl ?_))

/-- a gcd of two whole numbers -/
abbrev gcdI (a b : Int) : Int := (Nat.gcd a.natAbs b.natAbs : Nat)
theorem gcd_mod {a b : Int} (ha : 0 ≤ a) (hb : 0 < b) : gcdI b (a % b) = gcdI a b := by
  unfold gcdI
  congr 1
  have e : (a % b).natAbs = a.natAbs % b.natAbs := by
    rw [Int.natAbs_emod_of_nonneg ha]
  rw [e, Nat.gcd_comm b.natAbs, ← Nat.gcd_rec, Nat.gcd_comm]
abbrev s_common : Stmt := topS 24
abbrev n_common : List Str := ["one", "other"]
theorem sc_common : FnScope n_common ["one", "other"] (defScope s_common) := ⟨rfl, rfl, rfl, by decide +kernel, rfl, by decide +kernel, by decide +kernel⟩

def sp_common (K : PySem.W.Frag) : Sp := fun vs H Q E => ∃ (a b : Int), vs = [.int a, .int b] ∧ 0 ≤ a ∧ 0 ≤ b ∧ Q (.int (gcdI a b)) H
theorem ok_common {P : Program} {w : World} {K : PySem.W.Frag} {mg : Str → Option Value} {base : Heap} {f : Addr} {fd : FuncData} (F : Fun K "common" "common" s_common f fd) (Z : Bl mg) (C : Ct mg)  : FnOk P w K mg base CX0 1 f fd ["one", "other"] (sp_common K) := by
  refine F.ok (k := 0) sc_common (fun vs H Q E h => ?_) (fun cdv A outer s H vs Q E hr h => ?_)
  · obtain ⟨a, b, rfl, ha, hb, q⟩ := h
    rfl
  · refine ⟨_, (pss_cons (ps_while PassesOwn.never (pt_cmpR op_gt (pv 1) pe_int (nomark _))
      (pss_one (ps_par (i := 0) (j := 1) rfl sc_common.nd rfl rfl (by decide) rfl rfl (pa_cons (pv 1) (pa_cons (pe_op op_mod (pv 0) (pv 1)) pa_nil)) (by rfl))))
    (pss_one (ps_ret (pv 0)))), ?_⟩
    clear hr Z C
    obtain ⟨a, b, rfl, ha, hb, q⟩ := h
    ((try dsimp only); repeat infer_instance)
    refine ⟨fun m σ H' => H' = H ∧ ∃ x y : Int, σ = [some (.int x), some (.int y)] ∧ 0 ≤ x ∧ 0 ≤ y ∧ m = y.toNat ∧ gcdI x y = gcdI a b, ⟨_, rfl, a, b, rfl, ha, hb, rfl, rfl⟩, ?_⟩
    rintro m σ H' ⟨rfl, x, y, rfl, hx, hy, rfl, hg⟩
    ((try dsimp only); repeat infer_instance)
    by_cases h0 : 0 < y
    · refine rd_ifT (decide_eq_true h0) ?_
      refine rd_body ?_
      ((try dsimp only); repeat infer_instance)
      refine rd_I h0 ?_
      ((try dsimp only); repeat infer_instance)
      have h1 := Int.emod_nonneg x (show y ≠ 0 by omega)
      have h2 := Int.emod_lt_of_pos x h0
      exact ⟨_, by omega, rfl, y, x % y, rfl, hy, h1, rfl, by rw [gcd_mod hx h0]; exact hg⟩
    · refine rd_ifF (decide_eq_false h0) ?_
      have e : y = 0 := by omega
      subst e
      ((try dsimp only); repeat infer_instance)
      rw [← hg] at q
      have : gcdI x 0 = x := by unfold gcdI; simp; omega
      rw [this] at q
      exact q

abbrev s_lowered : Stmt := topS 25
abbrev n_lowered : List Str := ["above", "low", "shared"]
theorem sc_lowered : FnScope n_lowered ["above", "low"] (defScope s_lowered) := ⟨rfl, rfl, rfl, by decide +kernel, rfl, by decide +kernel, by decide +kernel⟩

def sp_lowered (K : PySem.W.Frag) : Sp := fun vs H Q E => ∃ (a b : Int), vs = [.int a, .int b] ∧ 0 < b ∧ a.natAbs < 2 ^ 4400 ∧ b.natAbs < 2 ^ 4400 ∧ retD H (frD ((a : Rat) / (b : Rat))) Q
theorem ok_lowered {P : Program} {w : World} {K : PySem.W.Frag} {mg : Str → Option Value} {base : Heap} {f : Addr} {fd : FuncData} (F : Fun K "lowered" "lowered" s_lowered f fd) (Z : Bl mg) (C : Ct mg) (D_common : Dn P w K mg base "common" ["one", "other"] 1 (sp_common K)) : FnOk P w K mg base CX0 2 f fd ["above", "low"] (sp_lowered K) := by
  refine F.ok (k := 1) sc_lowered (fun vs H Q E h => ?_) (fun cdv A outer s H vs Q E hr h => ?_)
  · obtain ⟨a, b, rfl, hb, h1, h2, q⟩ := h
    rfl
  · refine ⟨_, (pss_cons (ps_set (i := 2) sc_lowered.nd rfl (.inl rfl) (pe_fn D_common hr (pa_cons (pe_callB call_abs (by rfl) Z.abs bt_abs (pa_cons (pv 0) pa_nil)) (pa_cons (pv 1) pa_nil))))
    (pss_one (ps_ret (pe_tup (pa_cons (pe_op op_fdivW (pv 0) (pv 2)) (pa_cons (pe_op op_fdivW (pv 1) (pv 2)) pa_nil)))))), ?_⟩
    clear hr Z C D_common
    obtain ⟨a, b, rfl, hb, h1, h2, q⟩ := h
    ((try dsimp only); repeat infer_instance)
    refine ⟨a, rfl, ?_⟩
    have ea : gcdI (if a < 0 then -a else a) b = gcdI a b := by unfold gcdI; congr 2; split <;> omega
    obtain ⟨n1, n2⟩ := Cs.low_num a b hb
    have g0 : 0 < gcdI a b := by
      have : 0 < Nat.gcd a.natAbs b.natAbs := Nat.gcd_pos_of_pos_right _ (by omega)
      unfold gcdI
      omega
    have g1 : (gcdI a b).natAbs < 2 ^ 4400 := by
      have : Nat.gcd a.natAbs b.natAbs ≤ b.natAbs := Nat.gcd_le_right _ (by omega)
      unfold gcdI
      rw [Int.natAbs_natCast]
      exact Nat.lt_of_le_of_lt this h2
    ((try dsimp only); repeat infer_instance)
    refine ⟨_, _, rfl, by split <;> omega, by omega, ?_⟩
    rw [ea]
    ((try dsimp only); repeat infer_instance)
    refine rd_I (wide_div g0 g1 (by decide) (by decide)) ?_
    ((try dsimp only); repeat infer_instance)
    refine rd_I (wide_div g0 g1 (by decide) (by decide)) ?_
    ((try dsimp only); repeat infer_instance)
    refine ⟨by show 2 ≤ _; decide, fun p hp => ?_⟩
    refine q _ _ (same_upd hp) ?_
    unfold frD
    rw [n1, n2]
    exact Dt.newT hp (.cons (.int _) (.cons (.int _) .nil))

abbrev s_minus : Stmt := topS 26
abbrev n_minus : List Str := ["one", "other"]
theorem sc_minus : FnScope n_minus ["one", "other"] (defScope s_minus) := ⟨rfl, rfl, rfl, by decide +kernel, rfl, by decide +kernel, by decide +kernel⟩

def sp_minus (K : PySem.W.Frag) : Sp := fun vs H Q E => ∃ (a b : Rat) (u v : V), vs = [u, v] ∧ Dt H u (frD a) ∧ Dt H v (frD b) ∧ Bd 2000 a ∧ Bd 2000 b ∧ retD H (frD (a - b)) Q
theorem ok_minus {P : Program} {w : World} {K : PySem.W.Frag} {mg : Str → Option Value} {base : Heap} {f : Addr} {fd : FuncData} (F : Fun K "minus" "minus" s_minus f fd) (Z : Bl mg) (C : Ct mg) (D_lowered : Dn P w K mg base "lowered" ["above", "low"] 2 (sp_lowered K)) : FnOk P w K mg base CX0 3 f fd ["one", "other"] (sp_minus K) := by
  refine F.ok (k := 2) sc_minus (fun vs H Q E h => ?_) (fun cdv A outer s H vs Q E hr h => ?_)
  · obtain ⟨a, b, u, v, rfl, hu, hv, h1, h2, q⟩ := h
    rfl
  · refine ⟨_, (pss_one (ps_ret (pe_fn D_lowered hr (pa_cons (pe_op op_sub (pe_op op_mulW (pe_ix (kIxT (K := K) rfl) (pv 0) pe_int (fun _ _ => rfl)) (pe_ix (kIxT (K := K) rfl) (pv 1) pe_int (fun _ _ => rfl))) (pe_op op_mulW (pe_ix (kIxT (K := K) rfl) (pv 1) pe_int (fun _ _ => rfl)) (pe_ix (kIxT (K := K) rfl) (pv 0) pe_int (fun _ _ => rfl)))) (pa_cons (pe_op op_mulW (pe_ix (kIxT (K := K) rfl) (pv 0) pe_int (fun _ _ => rfl)) (pe_ix (kIxT (K := K) rfl) (pv 1) pe_int (fun _ _ => rfl))) pa_nil))))), ?_⟩
    clear hr Z C D_lowered
    obtain ⟨a, b, u, v, rfl, hu, hv, h1, h2, q⟩ := h
    ((try dsimp only); repeat infer_instance)
    refine rd_ixTI hu rfl ?_
    ((try dsimp only); repeat infer_instance)
    refine rd_ixTI hv rfl ?_
    refine rd_I (wide_mul (a := 2000) (b := 2000) h1.1 (by rw [Int.natAbs_natCast]; exact h2.2) (by decide) (by decide) (by decide)) ?_
    ((try dsimp only); repeat infer_instance)
    refine rd_ixTI hv rfl ?_
    ((try dsimp only); repeat infer_instance)
    refine rd_ixTI hu rfl ?_
    refine rd_I (wide_mul (a := 2000) (b := 2000) h2.1 (by rw [Int.natAbs_natCast]; exact h1.2) (by decide) (by decide) (by decide)) ?_
    ((try dsimp only); repeat infer_instance)
    refine rd_ixTI hu rfl ?_
    ((try dsimp only); repeat infer_instance)
    refine rd_ixTI hv rfl ?_
    refine rd_I (wide_mul (a := 2000) (b := 2000) (by rw [Int.natAbs_natCast]; exact h1.2) (by rw [Int.natAbs_natCast]; exact h2.2) (by decide) (by decide) (by decide)) ?_
    ((try dsimp only); repeat infer_instance)
    obtain ⟨z1, z2, z3, z4⟩ := sub_bd h1 h2
    refine ⟨_, _, rfl, z1, z2, z3, ?_⟩
    rw [← sub_eq]
    exact q

abbrev s_times : Stmt := topS 27
abbrev n_times : List Str := ["one", "other"]
theorem sc_times : FnScope n_times ["one", "other"] (defScope s_times) := ⟨rfl, rfl, rfl, by decide +kernel, rfl, by decide +kernel, by decide +kernel⟩

def sp_times (K : PySem.W.Frag) : Sp := fun vs H Q E => ∃ (a b : Rat) (u v : V), vs = [u, v] ∧ Dt H u (frD a) ∧ Dt H v (frD b) ∧ Bd 2000 a ∧ Bd 2000 b ∧ retD H (frD (a * b)) Q
theorem ok_times {P : Program} {w : World} {K : PySem.W.Frag} {mg : Str → Option Value} {base : Heap} {f : Addr} {fd : FuncData} (F : Fun K "times" "times" s_times f fd) (Z : Bl mg) (C : Ct mg) (D_lowered : Dn P w K mg base "lowered" ["above", "low"] 2 (sp_lowered K)) : FnOk P w K mg base CX0 3 f fd ["one", "other"] (sp_times K) := by
  refine F.ok (k := 2) sc_times (fun vs H Q E h => ?_) (fun cdv A outer s H vs Q E hr h => ?_)
  · obtain ⟨a, b, u, v, rfl, hu, hv, h1, h2, q⟩ := h
    rfl
  · refine ⟨_, (pss_one (ps_ret (pe_fn D_lowered hr (pa_cons (pe_op op_mulW (pe_ix (kIxT (K := K) rfl) (pv 0) pe_int (fun _ _ => rfl)) (pe_ix (kIxT (K := K) rfl) (pv 1) pe_int (fun _ _ => rfl))) (pa_cons (pe_op op_mulW (pe_ix (kIxT (K := K) rfl) (pv 0) pe_int (fun _ _ => rfl)) (pe_ix (kIxT (K := K) rfl) (pv 1) pe_int (fun _ _ => rfl))) pa_nil))))), ?_⟩
    clear hr Z C D_lowered
    obtain ⟨a, b, u, v, rfl, hu, hv, h1, h2, q⟩ := h
    ((try dsimp only); repeat infer_instance)
    refine rd_ixTI hu rfl ?_
    ((try dsimp only); repeat infer_instance)
    refine rd_ixTI hv rfl ?_
    refine rd_I (wide_mul (a := 2000) (b := 2000) h1.1 h2.1 (by decide) (by decide) (by decide)) ?_
    ((try dsimp only); repeat infer_instance)
    refine rd_ixTI hu rfl ?_
    ((try dsimp only); repeat infer_instance)
    refine rd_ixTI hv rfl ?_
    refine rd_I (wide_mul (a := 2000) (b := 2000) (by rw [Int.natAbs_natCast]; exact h1.2) (by rw [Int.natAbs_natCast]; exact h2.2) (by decide) (by decide) (by decide)) ?_
    ((try dsimp only); repeat infer_instance)
    obtain ⟨z1, z2, z3⟩ := mul_bd h1 h2
    refine ⟨_, _, rfl, z1, z2, z3, ?_⟩
    rw [← mul_eq]
    exact q

abbrev s_over : Stmt := topS 28
abbrev n_over : List Str := ["one", "other", "above", "low"]
theorem sc_over : FnScope n_over ["one", "other"] (defScope s_over) := ⟨rfl, rfl, rfl, by decide +kernel, rfl, by decide +kernel, by decide +kernel⟩

def sp_over (K : PySem.W.Frag) : Sp := fun vs H Q E => ∃ (a b : Rat) (u v : V), vs = [u, v] ∧ Dt H u (frD a) ∧ Dt H v (frD b) ∧ Bd 2000 a ∧ Bd 2000 b ∧ b ≠ 0 ∧ retD H (frD (a / b)) Q
theorem ok_over {P : Program} {w : World} {K : PySem.W.Frag} {mg : Str → Option Value} {base : Heap} {f : Addr} {fd : FuncData} (F : Fun K "over" "over" s_over f fd) (Z : Bl mg) (C : Ct mg) (D_lowered : Dn P w K mg base "lowered" ["above", "low"] 2 (sp_lowered K)) : FnOk P w K mg base CX0 3 f fd ["one", "other"] (sp_over K) := by
  refine F.ok (k := 2) sc_over (fun vs H Q E h => ?_) (fun cdv A outer s H vs Q E hr h => ?_)
  · obtain ⟨a, b, u, v, rfl, hu, hv, h1, h2, hb, q⟩ := h
    rfl
  · refine ⟨_, (pss_cons (ps_par (i := 2) (j := 3) rfl sc_over.nd rfl rfl (by decide) rfl rfl (pa_cons (pe_op op_mulW (pe_ix (kIxT (K := K) rfl) (pv 0) pe_int (fun _ _ => rfl)) (pe_ix (kIxT (K := K) rfl) (pv 1) pe_int (fun _ _ => rfl))) (pa_cons (pe_op op_mulW (pe_ix (kIxT (K := K) rfl) (pv 0) pe_int (fun _ _ => rfl)) (pe_ix (kIxT (K := K) rfl) (pv 1) pe_int (fun _ _ => rfl))) pa_nil)) (by rfl))
    (pss_one (ps_ret (pe_ifExp (pt_cmpR op_gt (pv 3) pe_int (nomark _)) (pe_fn D_lowered hr (pa_cons (pv 2) (pa_cons (pv 3) pa_nil))) (pe_fn D_lowered hr (pa_cons (pe_un un_neg (pv 2)) (pa_cons (pe_un un_neg (pv 3)) pa_nil))))))), ?_⟩
    clear hr Z C D_lowered
    obtain ⟨a, b, u, v, rfl, hu, hv, h1, h2, hb, q⟩ := h
    ((try dsimp only); repeat infer_instance)
    refine rd_ixTI hu rfl ?_
    ((try dsimp only); repeat infer_instance)
    refine rd_ixTI hv rfl ?_
    refine rd_I (wide_mul (a := 2000) (b := 2000) h1.1 (by rw [Int.natAbs_natCast]; exact h2.2) (by decide) (by decide) (by decide)) ?_
    ((try dsimp only); repeat infer_instance)
    refine rd_ixTI hu rfl ?_
    ((try dsimp only); repeat infer_instance)
    refine rd_ixTI hv rfl ?_
    refine rd_I (wide_mul (a := 2000) (b := 2000) (by rw [Int.natAbs_natCast]; exact h1.2) h2.1 (by decide) (by decide) (by decide)) ?_
    ((try dsimp only); repeat infer_instance)
    obtain ⟨z1, z2⟩ := div_bd h1 h2
    rw [div_eq a b hb] at q
    by_cases h0 : 0 < (a.den : Int) * b.num
    · refine rd_ifT (decide_eq_true h0) ?_
      ((try dsimp only); repeat infer_instance)
      exact ⟨_, _, rfl, h0, z1, z2, q⟩
    · refine rd_ifF (decide_eq_false h0) ?_
      ((try dsimp only); repeat infer_instance)
      refine rd_U ?_
      ((try dsimp only); repeat infer_instance)
      refine rd_U ?_
      ((try dsimp only); repeat infer_instance)
      refine ⟨_, _, rfl, ?_, by rw [Int.natAbs_neg]; exact z1, by rw [Int.natAbs_neg]; exact z2, ?_⟩
      · have d0 := den_pos a
        have : b.num ≠ 0 := fun e => hb (by rw [q_eq b, e]; grind)
        have : (a.den : Int) * b.num ≠ 0 := fun e => by
          rcases Int.mul_eq_zero.mp e with q | q <;> omega
        omega
      · rw [div_neg]
        exact q

end Cz

set_option Elab.async false
set_option linter.all false
set_option maxRecDepth 100000
set_option maxHeartbeats 4000000

namespace Cz
open PySem L2
local macro_rules | `(tactic| infer_instance) => `(tactic| with_reducible first
  | refine rd_seq ?_ | refine rd_cons ?_ | refine rd_nil ?_ | refine rd_c ?_ | refine rd_op ?_ | (refine rd_var (v := ?_) ?_ ?_; rotate_left 1; (with_unfolding_all rfl)) | refine rd_un ?_ | refine rd_call ?_ | refine rd_cb ?_ | refine rd_I0 ?_ | refine rd_test ?_ | refine rd_tB ?_ | refine rd_k ?_
  | refine rd_not ?_ | refine rd_and ?_ | refine rd_or ?_ | refine rd_andV ?_ | refine rd_orV ?_ | refine rd_notV ?_ | refine rd_ife ?_ | refine rd_chain ?_ | refine rd_tup ?_ | refine rd_lst ?_ | refine rd_bm0 ?_ | refine rd_bm ?_ | refine rd_sl ?_ | refine rd_nopart ?_ | refine rd_part ?_ | refine rd_i ?_
  | refine rd_next ?_ | refine rd_cont ?_ | refine rd_drop ?_ | refine rd_ret ?_ | refine rd_retN ?_ | refine rd_if ?_ | refine rd_asg ?_ | refine rd_gname ?_ | refine rd_par ?_ | refine rd_par3 ?_ | refine rd_v2 ?_ | refine rd_v3 ?_ | refine rd_gnil ?_ | refine rd_for ?_ | refine rd_lc ?_ | refine rd_yes ?_ | refine rd_iT ?_ | refine rd_iL ?_ | refine rd_iR1 ?_ | refine rd_iR2 ?_ | refine rd_iS ?_ | refine rd_rev ?_ | (with_unfolding_all refine rd_ifT rfl ?_) | (with_unfolding_all refine rd_ifF rfl ?_))

abbrev s__law_common : Stmt := topS 58
abbrev n__law_common : List Str := ["_law_one", "_law_other"]
theorem sc__law_common : FnScope n__law_common ["_law_one", "_law_other"] (defScope s__law_common) := ⟨rfl, rfl, rfl, by decide +kernel, rfl, by decide +kernel, by decide +kernel⟩

def sp__law_common (K : PySem.W.Frag) : Sp := fun vs H Q E => ∃ (a b : Int), vs = [.int a, .int b] ∧ a.natAbs < 2 ^ 4400 ∧ b.natAbs < 2 ^ 4400 ∧ Q (.int (gcdI a b)) H
theorem ok__law_common {P : Program} {w : World} {K : PySem.W.Frag} {mg : Str → Option Value} {base : Heap} {f : Addr} {fd : FuncData} (F : Fun K "_law_common" "_law_common" s__law_common f fd) (Z : Bl mg) (C : Ct mg)  : FnOk P w K mg base CX0 1 f fd ["_law_one", "_law_other"] (sp__law_common K) := by
  refine F.ok (k := 0) sc__law_common (fun vs H Q E h => ?_) (fun cdv A outer s H vs Q E hr h => ?_)
  · obtain ⟨a, b, rfl, ha, hb, q⟩ := h
    rfl
  · refine ⟨_, (pss_cons (ps_par (i := 0) (j := 1) rfl sc__law_common.nd rfl rfl (by decide) rfl rfl (pa_cons (pe_callB call_abs (by rfl) Z.abs bt_abs (pa_cons (pv 0) pa_nil)) (pa_cons (pe_callB call_abs (by rfl) Z.abs bt_abs (pa_cons (pv 1) pa_nil)) pa_nil)) (by rfl))
    (pss_cons (ps_while PassesOwn.never (pt_cmpR op_ne (pv 1) pe_int (nomark _))
      (pss_one (ps_par (i := 0) (j := 1) rfl sc__law_common.nd rfl rfl (by decide) rfl rfl (pa_cons (pv 1) (pa_cons (pe_op op_sub (pv 0) (pe_op op_mulW (pv 1) (pe_op op_fdivW (pv 0) (pv 1)))) pa_nil)) (by rfl))))
    (pss_one (ps_ret (pv 0))))), ?_⟩
    clear hr Z C
    obtain ⟨a, b, rfl, ha, hb, q⟩ := h
    ((try dsimp only); repeat infer_instance)
    refine ⟨a, rfl, ?_⟩
    ((try dsimp only); repeat infer_instance)
    refine ⟨b, rfl, ?_⟩
    ((try dsimp only); repeat infer_instance)
    refine ⟨fun m σ H' => H' = H ∧ ∃ x y : Int, σ = [some (.int x), some (.int y)] ∧ 0 ≤ x ∧ 0 ≤ y ∧ x.natAbs < 2 ^ 4400 ∧ y.natAbs < 2 ^ 4400 ∧ m = y.toNat ∧ gcdI x y = gcdI a b, ⟨_, rfl, _, _, rfl, by split <;> omega, by split <;> omega, by split <;> omega, by split <;> omega, rfl, ?_⟩, ?_⟩
    · unfold gcdI
      congr 2 <;> split <;> omega
    rintro m σ H' ⟨rfl, x, y, rfl, hx, hy, bx, by', rfl, hg⟩
    ((try dsimp only); repeat infer_instance)
    refine rd_ne rfl ?_
    refine rd_k ?_
    by_cases h0 : 0 < y
    · refine rd_ifT (by simp; omega) ?_
      refine rd_body ?_
      ((try dsimp only); repeat infer_instance)
      refine rd_I (wide_div h0 by' (by decide) (by decide)) ?_
      have hd : 0 ≤ x / y := Int.ediv_nonneg hx hy
      have hl : x / y ≤ x := Int.ediv_le_self _ hx
      refine rd_I (wide_mul by' (wide_le hd hl bx) (by decide) (by decide) (by decide)) ?_
      ((try dsimp only); repeat infer_instance)
      have h1 := Int.emod_nonneg x (show y ≠ 0 by omega)
      have h2 := Int.emod_lt_of_pos x h0
      have e : x - y * (x / y) = x % y := by have := Int.emod_def x y; omega
      rw [e]
      exact ⟨_, by omega, rfl, y, x % y, rfl, hy, h1, by', by omega, rfl, by rw [gcd_mod hx h0]; exact hg⟩
    · have e : y = 0 := by omega
      subst e
      refine rd_ifF (by simp) ?_
      ((try dsimp only); repeat infer_instance)
      rw [← hg] at q
      have : gcdI x 0 = x := by unfold gcdI; simp; omega
      rw [this] at q
      exact q

abbrev s__law_share : Stmt := topS 59
abbrev n__law_share : List Str := ["_law_above", "_law_low", "_law_shared"]
theorem sc__law_share : FnScope n__law_share ["_law_above", "_law_low"] (defScope s__law_share) := ⟨rfl, rfl, rfl, by decide +kernel, rfl, by decide +kernel, by decide +kernel⟩

def sp__law_share (K : PySem.W.Frag) : Sp := fun vs H Q E => ∃ (a b : Int), vs = [.int a, .int b] ∧ 0 < b ∧ a.natAbs < 2 ^ 4400 ∧ b.natAbs < 2 ^ 4400 ∧ retD H (frD ((a : Rat) / (b : Rat))) Q
theorem ok__law_share {P : Program} {w : World} {K : PySem.W.Frag} {mg : Str → Option Value} {base : Heap} {f : Addr} {fd : FuncData} (F : Fun K "_law_share" "_law_share" s__law_share f fd) (Z : Bl mg) (C : Ct mg) (D_law_common : Dn P w K mg base "_law_common" ["_law_one", "_law_other"] 1 (sp__law_common K)) : FnOk P w K mg base CX0 2 f fd ["_law_above", "_law_low"] (sp__law_share K) := by
  refine F.ok (k := 1) sc__law_share (fun vs H Q E h => ?_) (fun cdv A outer s H vs Q E hr h => ?_)
  · obtain ⟨a, b, rfl, hb, h1, h2, q⟩ := h
    rfl
  · refine ⟨_, (pss_cons (ps_set (i := 2) sc__law_share.nd rfl (.inl rfl) (pe_fn D_law_common hr (pa_cons (pv 0) (pa_cons (pv 1) pa_nil))))
    (pss_one (ps_ret (pe_tup (pa_cons (pe_op op_fdivW (pv 0) (pv 2)) (pa_cons (pe_op op_fdivW (pv 1) (pv 2)) pa_nil)))))), ?_⟩
    clear hr Z C D_law_common
    obtain ⟨a, b, rfl, hb, h1, h2, q⟩ := h
    obtain ⟨n1, n2⟩ := Cs.low_num a b hb
    have g0 : 0 < gcdI a b := by
      have : 0 < Nat.gcd a.natAbs b.natAbs := Nat.gcd_pos_of_pos_right _ (by omega)
      unfold gcdI
      omega
    have g1 : (gcdI a b).natAbs < 2 ^ 4400 := by
      have : Nat.gcd a.natAbs b.natAbs ≤ b.natAbs := Nat.gcd_le_right _ (by omega)
      unfold gcdI
      rw [Int.natAbs_natCast]
      exact Nat.lt_of_le_of_lt this h2
    ((try dsimp only); repeat infer_instance)
    refine ⟨_, _, rfl, h1, h2, ?_⟩
    ((try dsimp only); repeat infer_instance)
    refine rd_I (wide_div g0 g1 (by decide) (by decide)) ?_
    ((try dsimp only); repeat infer_instance)
    refine rd_I (wide_div g0 g1 (by decide) (by decide)) ?_
    ((try dsimp only); repeat infer_instance)
    refine ⟨by show 2 ≤ _; decide, fun p hp => ?_⟩
    refine q _ _ (same_upd hp) ?_
    unfold frD
    rw [n1, n2]
    exact Dt.newT hp (.cons (.int _) (.cons (.int _) .nil))

abbrev s__law_plus : Stmt := topS 60
abbrev n__law_plus : List Str := ["_law_one", "_law_other"]
theorem sc__law_plus : FnScope n__law_plus ["_law_one", "_law_other"] (defScope s__law_plus) := ⟨rfl, rfl, rfl, by decide +kernel, rfl, by decide +kernel, by decide +kernel⟩

def sp__law_plus (K : PySem.W.Frag) : Sp := fun vs H Q E => ∃ (a b : Rat) (u v : V), vs = [u, v] ∧ Dt H u (frD a) ∧ Dt H v (frD b) ∧ Bd 2000 a ∧ Bd 2000 b ∧ retD H (frD (a + b)) Q
theorem ok__law_plus {P : Program} {w : World} {K : PySem.W.Frag} {mg : Str → Option Value} {base : Heap} {f : Addr} {fd : FuncData} (F : Fun K "_law_plus" "_law_plus" s__law_plus f fd) (Z : Bl mg) (C : Ct mg) (D_law_share : Dn P w K mg base "_law_share" ["_law_above", "_law_low"] 2 (sp__law_share K)) : FnOk P w K mg base CX0 3 f fd ["_law_one", "_law_other"] (sp__law_plus K) := by
  refine F.ok (k := 2) sc__law_plus (fun vs H Q E h => ?_) (fun cdv A outer s H vs Q E hr h => ?_)
  · obtain ⟨a, b, u, v, rfl, hu, hv, h1, h2, q⟩ := h
    rfl
  · refine ⟨_, (pss_one (ps_ret (pe_fn D_law_share hr (pa_cons (pe_op op_add (pe_op op_mulW (pe_ix (kIxT (K := K) rfl) (pv 0) pe_int (fun _ _ => rfl)) (pe_ix (kIxT (K := K) rfl) (pv 1) pe_int (fun _ _ => rfl))) (pe_op op_mulW (pe_ix (kIxT (K := K) rfl) (pv 1) pe_int (fun _ _ => rfl)) (pe_ix (kIxT (K := K) rfl) (pv 0) pe_int (fun _ _ => rfl)))) (pa_cons (pe_op op_mulW (pe_ix (kIxT (K := K) rfl) (pv 0) pe_int (fun _ _ => rfl)) (pe_ix (kIxT (K := K) rfl) (pv 1) pe_int (fun _ _ => rfl))) pa_nil))))), ?_⟩
    clear hr Z C D_law_share
    obtain ⟨a, b, u, v, rfl, hu, hv, h1, h2, q⟩ := h
    ((try dsimp only); repeat infer_instance)
    refine rd_ixTI hu rfl ?_
    ((try dsimp only); repeat infer_instance)
    refine rd_ixTI hv rfl ?_
    refine rd_I (wide_mul (a := 2000) (b := 2000) h1.1 (by rw [Int.natAbs_natCast]; exact h2.2) (by decide) (by decide) (by decide)) ?_
    ((try dsimp only); repeat infer_instance)
    refine rd_ixTI hv rfl ?_
    ((try dsimp only); repeat infer_instance)
    refine rd_ixTI hu rfl ?_
    refine rd_I (wide_mul (a := 2000) (b := 2000) h2.1 (by rw [Int.natAbs_natCast]; exact h1.2) (by decide) (by decide) (by decide)) ?_
    ((try dsimp only); repeat infer_instance)
    refine rd_ixTI hu rfl ?_
    ((try dsimp only); repeat infer_instance)
    refine rd_ixTI hv rfl ?_
    refine rd_I (wide_mul (a := 2000) (b := 2000) (by rw [Int.natAbs_natCast]; exact h1.2) (by rw [Int.natAbs_natCast]; exact h2.2) (by decide) (by decide) (by decide)) ?_
    ((try dsimp only); repeat infer_instance)
    obtain ⟨z1, z2, z3⟩ := add_bd h1 h2
    refine ⟨_, _, rfl, z1, z2, z3, ?_⟩
    rw [← add_eq]
    exact q

abbrev s__law_times : Stmt := topS 61
abbrev n__law_times : List Str := ["_law_one", "_law_other"]
theorem sc__law_times : FnScope n__law_times ["_law_one", "_law_other"] (defScope s__law_times) := ⟨rfl, rfl, rfl, by decide +kernel, rfl, by decide +kernel, by decide +kernel⟩

def sp__law_times (K : PySem.W.Frag) : Sp := fun vs H Q E => ∃ (a b : Rat) (u v : V), vs = [u, v] ∧ Dt H u (frD a) ∧ Dt H v (frD b) ∧ Bd 2000 a ∧ Bd 2000 b ∧ retD H (frD (a * b)) Q
theorem ok__law_times {P : Program} {w : World} {K : PySem.W.Frag} {mg : Str → Option Value} {base : Heap} {f : Addr} {fd : FuncData} (F : Fun K "_law_times" "_law_times" s__law_times f fd) (Z : Bl mg) (C : Ct mg) (D_law_share : Dn P w K mg base "_law_share" ["_law_above", "_law_low"] 2 (sp__law_share K)) : FnOk P w K mg base CX0 3 f fd ["_law_one", "_law_other"] (sp__law_times K) := by
  refine F.ok (k := 2) sc__law_times (fun vs H Q E h => ?_) (fun cdv A outer s H vs Q E hr h => ?_)
  · obtain ⟨a, b, u, v, rfl, hu, hv, h1, h2, q⟩ := h
    rfl
  · refine ⟨_, (pss_one (ps_ret (pe_fn D_law_share hr (pa_cons (pe_op op_mulW (pe_ix (kIxT (K := K) rfl) (pv 0) pe_int (fun _ _ => rfl)) (pe_ix (kIxT (K := K) rfl) (pv 1) pe_int (fun _ _ => rfl))) (pa_cons (pe_op op_mulW (pe_ix (kIxT (K := K) rfl) (pv 0) pe_int (fun _ _ => rfl)) (pe_ix (kIxT (K := K) rfl) (pv 1) pe_int (fun _ _ => rfl))) pa_nil))))), ?_⟩
    clear hr Z C D_law_share
    obtain ⟨a, b, u, v, rfl, hu, hv, h1, h2, q⟩ := h
    ((try dsimp only); repeat infer_instance)
    refine rd_ixTI hu rfl ?_
    ((try dsimp only); repeat infer_instance)
    refine rd_ixTI hv rfl ?_
    refine rd_I (wide_mul (a := 2000) (b := 2000) h1.1 h2.1 (by decide) (by decide) (by decide)) ?_
    ((try dsimp only); repeat infer_instance)
    refine rd_ixTI hu rfl ?_
    ((try dsimp only); repeat infer_instance)
    refine rd_ixTI hv rfl ?_
    refine rd_I (wide_mul (a := 2000) (b := 2000) (by rw [Int.natAbs_natCast]; exact h1.2) (by rw [Int.natAbs_natCast]; exact h2.2) (by decide) (by decide) (by decide)) ?_
    ((try dsimp only); repeat infer_instance)
    obtain ⟨z1, z2, z3⟩ := mul_bd h1 h2
    refine ⟨_, _, rfl, z1, z2, z3, ?_⟩
    rw [← mul_eq]
    exact q

end Cz

set_option Elab.async false
set_option linter.all false
set_option maxRecDepth 100000
set_option maxHeartbeats 4000000

namespace Cz
open PySem L2
local macro_rules | `(tactic| infer_instance) => `(tactic| with_reducible first
  | refine rd_seq ?_ | refine rd_cons ?_ | refine rd_nil ?_ | refine rd_c ?_ | refine rd_op ?_ | (refine rd_var (v := ?_) ?_ ?_; rotate_left 1; (with_unfolding_all rfl)) | refine rd_un ?_ | refine rd_call ?_ | refine rd_cb ?_ | refine rd_I0 ?_ | refine rd_test ?_ | refine rd_tB ?_ | refine rd_k ?_
  | refine rd_not ?_ | refine rd_and ?_ | refine rd_or ?_ | refine rd_andV ?_ | refine rd_orV ?_ | refine rd_notV ?_ | refine rd_ife ?_ | refine rd_chain ?_ | refine rd_tup ?_ | refine rd_lst ?_ | refine rd_bm0 ?_ | refine rd_bm ?_ | refine rd_sl ?_ | refine rd_nopart ?_ | refine rd_part ?_ | refine rd_i ?_
  | refine rd_next ?_ | refine rd_cont ?_ | refine rd_drop ?_ | refine rd_ret ?_ | refine rd_retN ?_ | refine rd_if ?_ | refine rd_asg ?_ | refine rd_gname ?_ | refine rd_par ?_ | refine rd_par3 ?_ | refine rd_v2 ?_ | refine rd_v3 ?_ | refine rd_gnil ?_ | refine rd_for ?_ | refine rd_lc ?_ | refine rd_yes ?_ | refine rd_iT ?_ | refine rd_iL ?_ | refine rd_iR1 ?_ | refine rd_iR2 ?_ | refine rd_iS ?_ | refine rd_rev ?_ | (with_unfolding_all refine rd_ifT rfl ?_) | (with_unfolding_all refine rd_ifF rfl ?_))

theorem toldD_get {t : Told} {i : Nat} {d : PyData} (h : (toldD t)[i]? = some d) : ∃ x, t[i]? = some x ∧ d = .tuple [effD x.1, .int x.2] := by
  rw [toldD_map, List.getElem?_map] at h
  cases e : t[i]? with
  | none => rw [e] at h; cases h
  | some x => rw [e] at h; cases h; exact ⟨x, rfl, rfl⟩
def sndD : PyData → Option PyData
  | .tuple [_, w] => some w
  | _ => none
theorem wt_eq (t : Told) : (t.map (·.2)).sum = Cs.wt t := rfl
abbrev s_weight_of : Stmt := topS 36
abbrev n_weight_of : List Str := ["told", "one", "weight"]
theorem sc_weight_of : FnScope n_weight_of ["told"] (defScope s_weight_of) := ⟨rfl, rfl, rfl, by decide +kernel, rfl, by decide +kernel, by decide +kernel⟩

def sp_weight_of (K : PySem.W.Frag) : Sp := fun vs H Q E => ∃ (t : Told) (v : V), vs = [v] ∧ Ft H v (toldD t) ∧ t.length ≤ 1000 ∧ retI H (Cs.wt t) Q
theorem ok_weight_of {P : Program} {w : World} {K : PySem.W.Frag} {mg : Str → Option Value} {base : Heap} {f : Addr} {fd : FuncData} (F : Fun K "weight_of" "weight_of" s_weight_of f fd) (Z : Bl mg) (C : Ct mg)  : FnOk P w K mg base CX0 1 f fd ["told"] (sp_weight_of K) := by
  refine F.ok (k := 0) sc_weight_of (fun vs H Q E h => ?_) (fun cdv A outer s H vs Q E hr h => ?_)
  · obtain ⟨t, v, rfl, hv, hl, q⟩ := h
    rfl
  · refine ⟨_, (pss_one (ps_ret (pe_callB (cr_sum rfl) (by rfl) Z.sum bt_sum (pa_cons (pe_lc (own := [("one", 1), ("weight", 2)]) rfl sc_weight_of.nd (pi_tup (pv 0)) (blkOk_by (N := n_weight_of) (sc := (defScope s_weight_of)) (by decide +kernel)) (fun _ _ _ _ _ => (kTup (K := K) 2 rfl rfl (pgs_cons (pg_name (i := 1) sc_weight_of.nd rfl (.inl rfl) (.inr rfl)) (pgs_cons (pg_name (i := 2) sc_weight_of.nd rfl (.inl rfl) (.inr rfl)) pgs_nil)))) (fun _ _ _ _ _ => pts_nil) (fun _ _ _ _ _ => (pv 2))) pa_nil)))), ?_⟩
    clear hr Z C
    obtain ⟨t, v, rfl, hv, hl, q⟩ := h
    ((try dsimp only); repeat infer_instance)
    refine hv.lcT (fun _ d => sndD d) (fun i d u H' hd s hu R Y hR hY => ?_) (by rw [toldD_len]; exact hl) (fun Dd H' hn s hL => ?_)
    · obtain ⟨x, hx, rfl⟩ := toldD_get hd
      refine rd_gtup hu rfl fun xs hxs => ?_
      refine rd_gcons hxs fun e r he hr => ?_
      ((try dsimp only); repeat infer_instance)
      refine rd_gcons hr fun w r2 hw hr2 => ?_
      rw [hw.int_eq]
      ((try dsimp only); repeat infer_instance)
      refine rd_gnil' hr2 ?_
      refine ⟨rfl, ?_⟩
      ((try dsimp only); repeat infer_instance)
      exact hY _ rfl _ _ (sameR _) (.int _)
    · rw [toldD_map, keeps_all (fun _ d => sndD d) (fun x : Eff × Int => .tuple [effD x.1, .int x.2]) (fun x => .int x.2) t fun _ _ _ => rfl] at hL
      ((try dsimp only); repeat infer_instance)
      refine rd_sum (ns := t.map (·.2)) (by rw [List.map_map]; exact hL) ?_
      exact q _ s

abbrev s__law_whole : Stmt := topS 53
abbrev n__law_whole : List Str := ["_law_told", "_law_one", "_law_weight"]
theorem sc__law_whole : FnScope n__law_whole ["_law_told"] (defScope s__law_whole) := ⟨rfl, rfl, rfl, by decide +kernel, rfl, by decide +kernel, by decide +kernel⟩

def sp__law_whole (K : PySem.W.Frag) : Sp := fun vs H Q E => ∃ (t : Told) (v : V), vs = [v] ∧ Ft H v (toldD t) ∧ t.length ≤ 1000 ∧ retI H (Cs.wt t) Q
theorem ok__law_whole {P : Program} {w : World} {K : PySem.W.Frag} {mg : Str → Option Value} {base : Heap} {f : Addr} {fd : FuncData} (F : Fun K "_law_whole" "_law_whole" s__law_whole f fd) (Z : Bl mg) (C : Ct mg)  : FnOk P w K mg base CX0 1 f fd ["_law_told"] (sp__law_whole K) := by
  refine F.ok (k := 0) sc__law_whole (fun vs H Q E h => ?_) (fun cdv A outer s H vs Q E hr h => ?_)
  · obtain ⟨t, v, rfl, hv, hl, q⟩ := h
    rfl
  · refine ⟨_, (pss_one (ps_ret (pe_callB (cr_sum rfl) (by rfl) Z.sum bt_sum (pa_cons (pe_lc (own := [("_law_one", 1), ("_law_weight", 2)]) rfl sc__law_whole.nd (pi_tup (pv 0)) (blkOk_by (N := n__law_whole) (sc := (defScope s__law_whole)) (by decide +kernel)) (fun _ _ _ _ _ => (kTup (K := K) 2 rfl rfl (pgs_cons (pg_name (i := 1) sc__law_whole.nd rfl (.inl rfl) (.inr rfl)) (pgs_cons (pg_name (i := 2) sc__law_whole.nd rfl (.inl rfl) (.inr rfl)) pgs_nil)))) (fun _ _ _ _ _ => pts_nil) (fun _ _ _ _ _ => (pv 2))) pa_nil)))), ?_⟩
    clear hr Z C
    obtain ⟨t, v, rfl, hv, hl, q⟩ := h
    ((try dsimp only); repeat infer_instance)
    refine hv.lcT (fun _ d => sndD d) (fun i d u H' hd s hu R Y hR hY => ?_) (by rw [toldD_len]; exact hl) (fun Dd H' hn s hL => ?_)
    · obtain ⟨x, hx, rfl⟩ := toldD_get hd
      refine rd_gtup hu rfl fun xs hxs => ?_
      refine rd_gcons hxs fun e r he hr => ?_
      ((try dsimp only); repeat infer_instance)
      refine rd_gcons hr fun w r2 hw hr2 => ?_
      rw [hw.int_eq]
      ((try dsimp only); repeat infer_instance)
      refine rd_gnil' hr2 ?_
      refine ⟨rfl, ?_⟩
      ((try dsimp only); repeat infer_instance)
      exact hY _ rfl _ _ (sameR _) (.int _)
    · rw [toldD_map, keeps_all (fun _ d => sndD d) (fun x : Eff × Int => .tuple [effD x.1, .int x.2]) (fun x => .int x.2) t fun _ _ _ => rfl] at hL
      ((try dsimp only); repeat infer_instance)
      refine rd_sum (ns := t.map (·.2)) (by rw [List.map_map]; exact hL) ?_
      exact q _ s

end Cz

set_option Elab.async false
set_option linter.all false
set_option maxRecDepth 100000
set_option maxHeartbeats 4000000

namespace Cz
open PySem L2
local macro_rules | `(tactic| infer_instance) => `(tactic| with_reducible first
  | refine rd_seq ?_ | refine rd_cons ?_ | refine rd_nil ?_ | refine rd_c ?_ | refine rd_op ?_ | (refine rd_var (v := ?_) ?_ ?_; rotate_left 1; (with_unfolding_all rfl)) | refine rd_un ?_ | refine rd_call ?_ | refine rd_cb ?_ | refine rd_I0 ?_ | refine rd_test ?_ | refine rd_tB ?_ | refine rd_k ?_
  | refine rd_not ?_ | refine rd_and ?_ | refine rd_or ?_ | refine rd_andV ?_ | refine rd_orV ?_ | refine rd_notV ?_ | refine rd_ife ?_ | refine rd_chain ?_ | refine rd_tup ?_ | refine rd_lst ?_ | refine rd_bm0 ?_ | refine rd_bm ?_ | refine rd_sl ?_ | refine rd_nopart ?_ | refine rd_part ?_ | refine rd_i ?_
  | refine rd_next ?_ | refine rd_cont ?_ | refine rd_drop ?_ | refine rd_ret ?_ | refine rd_retN ?_ | refine rd_if ?_ | refine rd_asg ?_ | refine rd_gname ?_ | refine rd_par ?_ | refine rd_par3 ?_ | refine rd_v2 ?_ | refine rd_v3 ?_ | refine rd_gnil ?_ | refine rd_for ?_ | refine rd_lc ?_ | refine rd_yes ?_ | refine rd_iT ?_ | refine rd_iL ?_ | refine rd_iR1 ?_ | refine rd_iR2 ?_ | refine rd_iS ?_ | refine rd_rev ?_ | (with_unfolding_all refine rd_ifT rfl ?_) | (with_unfolding_all refine rd_ifF rfl ?_))

/-- all stays but what stands at a -/
def Sx (a : Addr) (H H' : Hp) : Prop := ∀ b o, b ≠ a → H b = some o → H' b = some o
theorem Sx.trans {a : Addr} {H H1 H2 : Hp} (s : Sx a H H1) (t : Sx a H1 H2) : Sx a H H2 := fun b o n e => t b o n (s b o n e)
theorem Sx.of {a : Addr} {H H1 : Hp} (s : Same H H1) : Sx a H H1 := fun b o _ e => s b o e
theorem Sx.upd {a : Addr} {H : Hp} {o : HO} : Sx a H (upd H a o) := fun b _ n e => by rw [upd_ne n]; exact e
/-- the script at sa, apart from a -/
def Scr (K : PySem.W.Frag) (a : Addr) (H : Hp) (sa : Addr) (ns : List Int) : Prop := (Rd H sa (.lst (ns.map V.int)) ∧ sa ≠ a) ∨
  ∃ (o : Obj) (its : Array Value) (n : Nat), K.lookup sa = some o ∧ o.cls = .type "list" ∧ o.dict = none ∧ o.data = .seq its n ∧ its.size ≤ sizeLine ∧ Vals (ns.map V.int) its.toList
theorem Scr.sq {K : PySem.W.Frag} {a sa : Addr} {H : Hp} {ns : List Int} (h : Scr K a H sa ns) : SqL K H sa (ns.map V.int) := h.elim (fun q => .inl q.1) .inr
theorem Scr.sx {K : PySem.W.Frag} {a sa : Addr} {H H' : Hp} {ns : List Int} (h : Scr K a H sa ns) (s : Sx a H H') : Scr K a H' sa ns := by
  rcases h with ⟨h | ⟨o, h⟩, n⟩ | h
  · exact .inl ⟨.inl (s _ _ n h), n⟩
  · exact .inl ⟨.inr ⟨o, s _ _ n h⟩, n⟩
  · exact .inr h
/-- the row that draws: script, place, seed, rest -/
def Rw (K : PySem.W.Frag) (H : Hp) (a : Addr) (S : Addr × List Int) : Prop := ∃ (i k c : Int), H a = some (.lst [.ref S.1, .int i, .int k, .int c]) ∧ Scr K a H S.1 S.2 ∧ 0 ≤ i ∧ 0 ≤ k ∧ k < 2147483647
/-- what a draw does -/
def drawn (K : PySem.W.Frag) (H : Hp) (a : Addr) (S : Addr × List Int) (R : V → Hp → Prop) (Q : VK) : Prop := ∀ v H', Sx a H H' → Rw K H' a S → R v H' → Q v H'
theorem rd_set0 {H : Hp} {a : Addr} {xs : List V} {j : Nat} {v : V} {R : Hp → Prop} (h : H a = some (.lst xs)) (hj : j < xs.length) (q : R (upd H a (.lst (xs.set j v)))) : rSetL (.ref a) (.int j) v H R :=
  ⟨a, xs, j, j, rfl, rfl, h, by unfold ixN; rw [if_pos (by omega), if_pos (by omega)]; simp, q⟩
theorem rd_gsub {to ti : TE} {t : TSet} {v : V} {σ : St} {H : Hp} {R : St → Hp → Prop} (q : to σ H fun o H1 => ti σ H1 fun i H2 => t o i v H2 fun H3 => R σ H3) : gSub to ti t v σ H R := q
theorem rd_ixLn {K : PySem.W.Frag} {a : Addr} {xs : List V} {H : Hp} {Q : VK} {j : Nat} {u : V} (h : SqL K H a xs) (hd : xs[j]? = some u) (q : Q u H) : rIxL K (.ref a) (.int j) H Q := ⟨a, xs, j, u, rfl, rfl, h, atI_nat hd, q⟩
theorem rd_lenLn {K : PySem.W.Frag} {a : Addr} {xs : List V} {H : Hp} {Q : VK} (h : SqL K H a xs) (q : Q (.int xs.length) H) : rLen K [.ref a] H Q := ⟨a, xs, rfl, .inl h, q⟩
abbrev s__law_taken : Stmt := topS 50
abbrev n__law_taken : List Str := ["_law_row", "_law_many", "_law_found", "_law_cell"]
theorem sc__law_taken : FnScope n__law_taken ["_law_row", "_law_many"] (defScope s__law_taken) := ⟨rfl, rfl, rfl, by decide +kernel, rfl, by decide +kernel, by decide +kernel⟩

def sp__law_taken (K : PySem.W.Frag) : Sp := fun vs H Q E => ∃ (a : Addr) (S : Addr × List Int) (many : Int), vs = [.ref a, .int many] ∧ Rw K H a S ∧ 0 < many ∧ many < 1000 ∧ drawn K H a S (fun v _ => ∃ x : Nat, v = .int x ∧ (x : Int) < many) Q
theorem ok__law_taken {P : Program} {w : World} {K : PySem.W.Frag} {mg : Str → Option Value} {base : Heap} {f : Addr} {fd : FuncData} (F : Fun K "_law_taken" "_law_taken" s__law_taken f fd) (Z : Bl mg) (C : Ct mg)  : FnOk P w K mg base CX0 1 f fd ["_law_row", "_law_many"] (sp__law_taken K) := by
  refine F.ok (k := 0) sc__law_taken (fun vs H Q E h => ?_) (fun cdv A outer s H vs Q E hr h => ?_)
  · obtain ⟨a, ⟨sa, ns⟩, many, rfl, ⟨i, k, c, ha, hs, hi, hk, hk2⟩, h0, h1, q⟩ := h
    rfl
  · refine ⟨_, (pss_cons (ps_if (pt_cmpR op_gt (pe_ix (kIxL (K := K) rfl) (pv 0) pe_int (fun _ _ => rfl)) pe_int (nomark _))
      (pss_cons (ps_set (i := 2) sc__law_taken.nd rfl (.inl rfl) (pe_op op_mod (pe_callTy call_int1 (by rfl) Z.int bt_int (pa_cons (pe_ix (kIxL (K := K) rfl) (pv 0) pe_int (fun _ _ => rfl)) pa_nil)) (pv 1)))
      (pss_cons (ps_asg (pe_op op_fdivN (pe_ix (kIxL (K := K) rfl) (pv 0) pe_int (fun _ _ => rfl)) (pv 1)) (pg_sub (pv 0) pe_int set_list))
      (pss_one (ps_ret (pv 2)))))
      pss_nil)
    (pss_cons (ps_asg (pe_op op_add (pe_ix (kIxL (K := K) rfl) (pv 0) pe_int (fun _ _ => rfl)) pe_int) (pg_sub (pv 0) pe_int set_list))
    (pss_cons (ps_if (pt_cmpR op_gt (pe_ix (kIxL (K := K) rfl) (pv 0) pe_int (fun _ _ => rfl)) (pe_callB (kLen (K := K) rfl) (by rfl) Z.len bt_len (pa_cons (pe_ix (kIxL (K := K) rfl) (pv 0) pe_int (fun _ _ => rfl)) pa_nil)) (nomark _))
      (pss_cons (ps_asg (pe_op op_mod (pe_callTy call_int1 (by rfl) Z.int bt_int (pa_cons (pe_op op_add (pe_op op_mul (pe_ix (kIxL (K := K) rfl) (pv 0) pe_int (fun _ _ => rfl)) pe_int) pe_int) pa_nil)) pe_int) (pg_sub (pv 0) pe_int set_list))
      (pss_one (ps_ret (pe_op op_mod (pe_callTy call_int1 (by rfl) Z.int bt_int (pa_cons (pe_op op_fdivN (pe_ix (kIxL (K := K) rfl) (pv 0) pe_int (fun _ _ => rfl)) pe_int) pa_nil)) (pv 1)))))
      pss_nil)
    (pss_cons (ps_set (i := 3) sc__law_taken.nd rfl (.inl rfl) (pe_ix (kIxL (K := K) rfl) (pe_ix (kIxL (K := K) rfl) (pv 0) pe_int (fun _ _ => rfl)) (pe_op op_sub (pe_ix (kIxL (K := K) rfl) (pv 0) pe_int (fun _ _ => rfl)) pe_int) (fun _ _ => rfl)))
    (pss_cons (ps_asg (pe_op op_mod (pe_callTy call_int1 (by rfl) Z.int bt_int (pa_cons (pe_op op_add (pe_op op_add (pe_op op_mul (pe_ix (kIxL (K := K) rfl) (pv 0) pe_int (fun _ _ => rfl)) pe_int) (pv 3)) pe_int) pa_nil)) pe_int) (pg_sub (pv 0) pe_int set_list))
    (pss_cons (ps_if (pt_cmpR op_ge (pv 3) (pe_op op_pow pe_int pe_int) (nomark _))
      (pss_one (ps_asg (pe_op op_fdivN (pv 3) (pv 1)) (pg_sub (pv 0) pe_int set_list)))
      pss_nil)
    (pss_one (ps_ret (pe_op op_mod (pe_callTy call_int1 (by rfl) Z.int bt_int (pa_cons (pv 3) pa_nil)) (pv 1)))))))))), ?_⟩
    clear hr Z C
    obtain ⟨a, ⟨sa, ns⟩, many, rfl, ⟨i, k, c, ha, hs, hi, hk, hk2⟩, h0, h1, q⟩ := h
    have fin : ∀ x : Int, ∃ n : Nat, V.int (x % many) = .int n ∧ (n : Int) < many := fun x => by
      have g1 := Int.emod_nonneg x (show many ≠ 0 by omega)
      have g2 := Int.emod_lt_of_pos x h0
      exact ⟨(x % many).toNat, by rw [Int.toNat_of_nonneg g1], by omega⟩
    have rw' : ∀ H1 (i k c : Int), Sx a H H1 → H1 a = some (.lst [.ref sa, .int i, .int k, .int c]) → 0 ≤ i → 0 ≤ k → k < 2147483647 → Rw K H1 a (sa, ns) := fun H1 i k c s e h1 h2 h3 => ⟨i, k, c, e, hs.sx s, h1, h2, h3⟩
    ((try dsimp only); repeat infer_instance)
    refine rd_ixLa ha rfl ?_
    ((try dsimp only); repeat infer_instance)
    by_cases hc : 0 < c
    · refine rd_ifT (decide_eq_true hc) ?_
      ((try dsimp only); repeat infer_instance)
      refine rd_ixLa ha rfl ?_
      ((try dsimp only); repeat infer_instance)
      refine .inl ⟨c, rfl, ?_⟩
      ((try dsimp only); repeat infer_instance)
      refine rd_I h0 ?_
      ((try dsimp only); repeat infer_instance)
      refine rd_ixLa ha rfl ?_
      ((try dsimp only); repeat infer_instance)
      refine rd_I ⟨by omega, by omega⟩ ?_
      refine rd_gsub ?_
      ((try dsimp only); repeat infer_instance)
      refine rd_set0 (j := 3) ha (by simp) ?_
      ((try dsimp only); repeat infer_instance)
      exact q _ _ .upd (rw' _ _ _ _ .upd upd_same hi hk hk2) (fin c)
    · refine rd_ifF (decide_eq_false hc) ?_
      ((try dsimp only); repeat infer_instance)
      refine rd_ixLa ha rfl ?_
      ((try dsimp only); repeat infer_instance)
      refine rd_gsub ?_
      ((try dsimp only); repeat infer_instance)
      refine rd_set0 (j := 1) ha (by simp) ?_
      have s1 : Sx a H (upd H a (.lst [.ref sa, .int (i + 1), .int k, .int c])) := .upd
      show tSeq _ _ _ _ (upd H a (.lst [.ref sa, .int (i + 1), .int k, .int c]))
      obtain ⟨H1, hH1⟩ : ∃ H1, upd H a (.lst [.ref sa, .int (i + 1), .int k, .int c]) = H1 := ⟨_, rfl⟩
      rw [hH1] at s1
      rw [hH1]
      have ha : H1 a = some (.lst [.ref sa, .int (i + 1), .int k, .int c]) := by rw [← hH1]; exact upd_same
      clear hH1
      have hs1 := (hs.sx s1).sq
      ((try dsimp only); repeat infer_instance)
      refine rd_ixLa ha rfl ?_
      ((try dsimp only); repeat infer_instance)
      refine rd_ixLa ha rfl ?_
      ((try dsimp only); repeat infer_instance)
      refine rd_lenLn hs1 ?_
      ((try dsimp only); repeat infer_instance)
      have b1 : ∀ z : Int, 0 ≤ z % 2147483647 ∧ z % 2147483647 < 2147483647 := fun z => ⟨Int.emod_nonneg z (by decide), Int.emod_lt_of_pos z (by decide)⟩
      by_cases hl : ((ns.map V.int).length : Int) < i + 1
      · refine rd_ifT (decide_eq_true hl) ?_
        ((try dsimp only); repeat infer_instance)
        refine rd_ixLa ha rfl ?_
        ((try dsimp only); repeat infer_instance)
        refine rd_I (.inl ⟨by omega, by omega⟩) ?_
        ((try dsimp only); repeat infer_instance)
        refine .inl ⟨_, rfl, ?_⟩
        ((try dsimp only); repeat infer_instance)
        refine rd_I (by decide) ?_
        refine rd_gsub ?_
        ((try dsimp only); repeat infer_instance)
        refine rd_set0 (j := 2) ha (by simp) ?_
        ((try dsimp only); repeat infer_instance)
        refine rd_ixLa upd_same rfl ?_
        ((try dsimp only); repeat infer_instance)
        refine rd_I ⟨by decide, by decide⟩ ?_
        ((try dsimp only); repeat infer_instance)
        refine .inl ⟨_, rfl, ?_⟩
        ((try dsimp only); repeat infer_instance)
        refine rd_I h0 ?_
        exact q _ _ (s1.trans .upd) (rw' _ _ _ _ (s1.trans .upd) upd_same (by omega) (b1 _).1 (b1 _).2) (fin _)
      · refine rd_ifF (decide_eq_false hl) ?_
        ((try dsimp only); repeat infer_instance)
        refine rd_ixLa ha rfl ?_
        ((try dsimp only); repeat infer_instance)
        refine rd_ixLa ha rfl ?_
        ((try dsimp only); repeat infer_instance)
        rw [List.length_map] at hl
        obtain ⟨j, hj⟩ : ∃ j : Nat, i = j := ⟨i.toNat, by omega⟩
        subst hj
        have hjl : j < ns.length := by omega
        rw [show (j : Int) + 1 - 1 = j by omega]
        refine rd_ixLn hs1 (j := j) (u := .int ns[j]) (by rw [List.getElem?_map, List.getElem?_eq_getElem hjl]; rfl) ?_
        ((try dsimp only); repeat infer_instance)
        refine rd_ixLa ha rfl ?_
        ((try dsimp only); repeat infer_instance)
        refine rd_I (.inl ⟨by omega, by omega⟩) ?_
        ((try dsimp only); repeat infer_instance)
        refine .inl ⟨_, rfl, ?_⟩
        ((try dsimp only); repeat infer_instance)
        refine rd_I (by decide) ?_
        refine rd_gsub ?_
        ((try dsimp only); repeat infer_instance)
        refine rd_set0 (j := 2) ha (by simp) ?_
        show tSeq _ _ _ _ (upd H1 a (.lst [.ref sa, .int ((j : Int) + 1), .int ((k * 48271 + ns[j] + 11) % 2147483647), .int c]))
        obtain ⟨b2, b3⟩ := b1 (k * 48271 + ns[j] + 11)
        generalize (k * 48271 + ns[j] + 11) % 2147483647 = k2 at *
        have s2 : Sx a H1 (upd H1 a (.lst [.ref sa, .int ((j : Int) + 1), .int k2, .int c])) := .upd
        obtain ⟨H2, hH2⟩ : ∃ H2, upd H1 a (.lst [.ref sa, .int ((j : Int) + 1), .int k2, .int c]) = H2 := ⟨_, rfl⟩
        rw [hH2] at s2
        rw [hH2]
        have ha2 : H2 a = some (.lst [.ref sa, .int ((j : Int) + 1), .int k2, .int c]) := by rw [← hH2]; exact upd_same
        clear hH2
        ((try dsimp only); repeat infer_instance)
        refine rd_I ⟨by decide, by decide, by decide⟩ ?_
        ((try dsimp only); repeat infer_instance)
        by_cases hg : (10 : Int) ^ (18 : Int).toNat ≤ ns[j]
        · refine rd_ifT (decide_eq_true hg) ?_
          ((try dsimp only); repeat infer_instance)
          refine rd_I ⟨by omega, by omega⟩ ?_
          refine rd_gsub ?_
          ((try dsimp only); repeat infer_instance)
          refine rd_set0 (j := 3) ha2 (by simp) ?_
          ((try dsimp only); repeat infer_instance)
          refine .inl ⟨_, rfl, ?_⟩
          ((try dsimp only); repeat infer_instance)
          refine rd_I h0 ?_
          exact q _ _ ((s1.trans s2).trans .upd) (rw' _ _ _ _ ((s1.trans s2).trans .upd) upd_same (by omega) b2 b3) (fin _)
        · refine rd_ifF (decide_eq_false hg) ?_
          ((try dsimp only); repeat infer_instance)
          refine .inl ⟨_, rfl, ?_⟩
          ((try dsimp only); repeat infer_instance)
          refine rd_I h0 ?_
          exact q _ _ (s1.trans s2) (rw' _ _ _ _ (s1.trans s2) ha2 (by omega) b2 b3) (fin _)

end Cz

set_option Elab.async false
set_option linter.all false
set_option maxRecDepth 100000
set_option maxHeartbeats 1000000
/-! comprehensions that draw -/
namespace Cz
open PySem L2
section
variable {S : Addr × List Int} {K : PySem.W.Frag} {H H' : Hp} {σ : St} {g : TG} {tt : TT} {te : TE} {vs : List Nat} {Q : VK} {a : Addr}
theorem Dt.sx {v : V} {d : PyData} {H1 : Hp} (h : Dt H v d) (s : Sx a H H1) (ha : ∃ xs, H a = some (.lst xs)) : Dt H1 v d := h.up fun b xs e => s b _ (fun q => by subst q; obtain ⟨ys, g⟩ := ha; rw [g] at e; cases e) e
theorem Da.sx {v : List V} {d : List PyData} {H1 : Hp} (h : Da H v d) (s : Sx a H H1) (ha : ∃ xs, H a = some (.lst xs)) : Da H1 v d := h.up fun b xs e => s b _ (fun q => by subst q; obtain ⟨ys, g⟩ := ha; rw [g] at e; cases e) e
theorem Rw.lst (h : Rw K H a S) : ∃ xs, H a = some (.lst xs) := let ⟨_, _, _, e, _⟩ := h; ⟨_, e⟩
theorem Rw.ne (h : Rw K H a S) {b : Addr} (hb : H b = none) : b ≠ a := fun q => by
  subst q
  obtain ⟨xs, e⟩ := h.lst
  rw [e] at hb
  cases hb
/-- the row stays when what stood stays -/
theorem Rw.same {H1 : Hp} (h : Rw K H a S) (s : Same H H1) : Rw K H1 a S := by
  obtain ⟨i, k, c, e, hs, z⟩ := h
  exact ⟨i, k, c, s _ _ e, hs.sx (.of s), z⟩
theorem Rw.upd {b : Addr} {o : HO} (h : Rw K H a S) (hb : H b = none) : Rw K (upd H b o) a S := h.same (same_upd hb)
/-- what a drawing comprehension has made -/
def LmInv (K : PySem.W.Frag) (a : Addr) (S : Addr × List Int) (E : PyData → Prop) (H : Hp) (Dd : Addr) (n : Nat) (H' : Hp) : Prop := H Dd = none ∧ Sx a H H' ∧ Rw K H' a S ∧ ∃ xs acc, H' Dd = some (.lst xs) ∧ Da H' xs acc ∧ acc.length = n ∧ ∀ d ∈ acc, E d
theorem lcM {lo : Int} {n : Nat} (ha : Rw K H a S) (E : PyData → Prop) (hn : n ≤ 1000)
    (turn : ∀ (i : Nat) H', i < n → Sx a H H' → Rw K H' a S → ∀ Y : V → Hp → Prop, (∀ y H2 d, Sx a H' H2 → Rw K H2 a S → Dt H2 y d → E d → Y y H2) →
      g (.int (lo + i)) (wipe σ vs) H' fun σ2 H2 => wipe σ2 vs = wipe σ vs ∧ tt σ2 H2 fun b H3 => b = true ∧ te σ2 H3 Y)
    (mono : ∀ σ2 H2 (R R' : Bool → Hp → Prop), (∀ b H3, R b H3 → R' b H3) → tt σ2 H2 R → tt σ2 H2 R')
    (gm : ∀ v σ H (R R' : St → Hp → Prop), (∀ σ2 H2, R σ2 H2 → R' σ2 H2) → g v σ H R → g v σ H R')
    (q : ∀ Dd H' acc, H Dd = none → Sx a H H' → Rw K H' a S → Ls H' (.ref Dd) acc → acc.length = n → (∀ d ∈ acc, E d) → Q (.ref Dd) H') : LcK g tt te vs Q σ (Itr lo n) H := by
  intro Dd hD
  have hDa := ha.ne hD
  refine lc_range (Qd := Q (.ref Dd)) (lo := lo) (n := n) (fun i H' => LmInv K a S E H Dd i H') ⟨hD, .of (same_upd hD), ha.upd hD, [], [], upd_same, .nil, rfl, by simp⟩ (fun i H' hi p => ?_) (fun H' p => ?_)
  · obtain ⟨h0, s0, r0, xs, acc, h1, h2, h3, h4⟩ := p
    have key := turn i H' hi s0 r0 (fun y H4 => ∃ acc, H4 Dd = some (.lst acc) ∧ acc.length < sizeLine ∧ LmInv K a S E H Dd (i + 1) (L2.upd H4 Dd (.lst (acc ++ [y])))) fun y H4 d s4 r4 hy hE => by
      have e4 := s4 _ _ hDa h1
      have h2' := h2.sx s4 r0.lst
      refine ⟨xs, e4, by rw [h2.len, h3]; exact small hn hi, h0, fun b o nb e => ?_, ?_, xs ++ [y], acc ++ [d], upd_same, ?_, by simp [h3], fun z hz => ?_⟩
      · rw [upd_ne (ne_of_none e h0)]; exact s4 _ _ nb (s0 _ _ nb e)
      · obtain ⟨i, k, c, e, hs, z⟩ := r4
        refine ⟨i, k, c, by rw [upd_ne (Ne.symm hDa)]; exact e, ?_, z⟩
        obtain ⟨i0, k0, c0, e0, hs0, z0⟩ := ha
        rcases hs0 with ⟨hs0, hne⟩ | hs0
        · have hd : S.1 ≠ Dd := fun q => by
            rw [q] at hs0
            rcases hs0 with q | ⟨o, q⟩ <;> (rw [hD] at q; cases q)
          rcases hs with ⟨hs | ⟨o, hs⟩, hne⟩ | hs
          · exact .inl ⟨.inl (by rw [upd_ne hd]; exact hs), hne⟩
          · exact .inl ⟨.inr ⟨o, by rw [upd_ne hd]; exact hs⟩, hne⟩
          · exact .inr hs
        · exact .inr hs0
      · exact (h2'.app (.one hy)).up (Tk.lst e4)
      · rcases List.mem_append.mp hz with q | q
        · exact h4 z q
        · simp at q; subst q; exact hE
    refine gm _ _ _ _ _ ?_ key
    rintro σ2 H2 ⟨e, t⟩
    refine ⟨e, mono _ _ _ _ ?_ t⟩
    rintro b H3 ⟨hb, z⟩
    subst hb
    rw [if_pos rfl]
    exact z
  · obtain ⟨h0, s0, r0, xs, acc, h1, h2, h3, h4⟩ := p
    exact q Dd H' acc h0 s0 r0 ⟨Dd, xs, rfl, h1, h2⟩ h3 h4
end
end Cz

set_option Elab.async false
set_option linter.all false
set_option maxRecDepth 100000
set_option maxHeartbeats 4000000

namespace Cz
open PySem L2
local macro_rules | `(tactic| infer_instance) => `(tactic| with_reducible first
  | refine rd_seq ?_ | refine rd_cons ?_ | refine rd_nil ?_ | refine rd_c ?_ | refine rd_op ?_ | (refine rd_var (v := ?_) ?_ ?_; rotate_left 1; (with_unfolding_all rfl)) | refine rd_un ?_ | refine rd_call ?_ | refine rd_cb ?_ | refine rd_I0 ?_ | refine rd_test ?_ | refine rd_tB ?_ | refine rd_k ?_
  | refine rd_not ?_ | refine rd_and ?_ | refine rd_or ?_ | refine rd_andV ?_ | refine rd_orV ?_ | refine rd_notV ?_ | refine rd_ife ?_ | refine rd_chain ?_ | refine rd_tup ?_ | refine rd_lst ?_ | refine rd_bm0 ?_ | refine rd_bm ?_ | refine rd_sl ?_ | refine rd_nopart ?_ | refine rd_part ?_ | refine rd_i ?_
  | refine rd_next ?_ | refine rd_cont ?_ | refine rd_drop ?_ | refine rd_ret ?_ | refine rd_retN ?_ | refine rd_if ?_ | refine rd_asg ?_ | refine rd_gname ?_ | refine rd_par ?_ | refine rd_par3 ?_ | refine rd_v2 ?_ | refine rd_v3 ?_ | refine rd_gnil ?_ | refine rd_for ?_ | refine rd_lc ?_ | refine rd_yes ?_ | refine rd_iT ?_ | refine rd_iL ?_ | refine rd_iR1 ?_ | refine rd_iR2 ?_ | refine rd_iS ?_ | refine rd_rev ?_ | (with_unfolding_all refine rd_ifT rfl ?_) | (with_unfolding_all refine rd_ifF rfl ?_))

theorem atI_nat' {α : Type} {xs : List α} {j : Nat} {v : α} (h : xs[j]? = some v) : atI xs (j : Int) = some v := atI_nat h
abbrev s__law_pick : Stmt := topS 51
abbrev n__law_pick : List Str := ["_law_row", "_law_things"]
theorem sc__law_pick : FnScope n__law_pick ["_law_row", "_law_things"] (defScope s__law_pick) := ⟨rfl, rfl, rfl, by decide +kernel, rfl, by decide +kernel, by decide +kernel⟩

def sp__law_pick (K : PySem.W.Frag) : Sp := fun vs H Q E => ∃ (a : Addr) (S : Addr × List Int) (t : V), vs = [.ref a, t] ∧ Rw K H a S ∧ ((∃ z : Str, t = .str z ∧ 0 < z.length ∧ z.length ≤ 100 ∧ drawn K H a S (fun v _ => ∃ c, c ∈ z.cps.toList ∧ v = .str ⟨#[c]⟩) Q) ∨
  ∃ (b : Addr) (xs : List V), t = .ref b ∧ H b = some (.lst xs) ∧ b ≠ a ∧ 0 < xs.length ∧ xs.length ≤ 100 ∧ drawn K H a S (fun v _ => v ∈ xs) Q)
theorem ok__law_pick {P : Program} {w : World} {K : PySem.W.Frag} {mg : Str → Option Value} {base : Heap} {f : Addr} {fd : FuncData} (F : Fun K "_law_pick" "_law_pick" s__law_pick f fd) (Z : Bl mg) (C : Ct mg) (D_law_taken : Dn P w K mg base "_law_taken" ["_law_row", "_law_many"] 1 (sp__law_taken K)) : FnOk P w K mg base CX0 2 f fd ["_law_row", "_law_things"] (sp__law_pick K) := by
  refine F.ok (k := 1) sc__law_pick (fun vs H Q E h => ?_) (fun cdv A outer s H vs Q E hr h => ?_)
  · obtain ⟨a, S, t, rfl, ha, h⟩ := h
    rfl
  · refine ⟨_, (pss_one (ps_ret (pe_ix (kIx (K := K) rfl) (pv 1) (pe_fn D_law_taken hr (pa_cons (pv 0) (pa_cons (pe_callB call_len (by rfl) Z.len bt_len (pa_cons (pv 1) pa_nil)) pa_nil))) (fun _ _ => rfl)))), ?_⟩
    clear hr Z C D_law_taken
    obtain ⟨a, S, t, rfl, ha, h⟩ := h
    ((try dsimp only); repeat infer_instance)
    rcases h with ⟨z, rfl, h0, h1, q⟩ | ⟨b, xs, rfl, hb, hn, h0, h1, q⟩
    · refine ⟨_, _, rfl, ⟨Nat.le_trans h1 (by decide), rfl⟩, ?_⟩
      ((try dsimp only); repeat infer_instance)
      refine ⟨a, S, _, rfl, ha, by omega, by omega, ?_⟩
      rintro v H' s r ⟨x, rfl, hx⟩
      have hx' : x < z.cps.toList.length := by
        have : z.cps.toList.length = z.length := Array.length_toList
        omega
      refine .inr (.inr ⟨z, x, z.cps.toList[x], rfl, rfl, Nat.le_trans h1 (by decide), atI_nat' (List.getElem?_eq_getElem hx'), ?_⟩)
      ((try dsimp only); repeat infer_instance)
      exact q _ _ s r ⟨_, List.getElem_mem hx', rfl⟩
    · refine ⟨_, _, rfl, .inl ⟨xs, SqL.of hb, rfl⟩, ?_⟩
      ((try dsimp only); repeat infer_instance)
      refine ⟨a, S, _, rfl, ha, by omega, by omega, ?_⟩
      rintro v H' s r ⟨x, rfl, hx⟩
      have hx' : x < xs.length := by omega
      refine .inl ⟨b, xs, x, xs[x], rfl, rfl, SqL.of (s _ _ hn hb), atI_nat' (List.getElem?_eq_getElem hx'), ?_⟩
      ((try dsimp only); repeat infer_instance)
      exact q _ _ s r (List.getElem_mem hx')

def boards : List (Nat × Nat) := [(1, 1), (1, 2), (2, 1), (2, 2), (1, 3), (2, 2)]
def brdD (b : Nat × Nat) : PyData := .tuple [.int (b.1 : Nat), .int (b.2 : Nat)]
theorem Da.mem {H : Hp} : ∀ {xs : List V} {ds : List PyData} {v : V}, Da H xs ds → v ∈ xs → ∃ d ∈ ds, Dt H v d
  | _, _, v, .cons h a, hv => by
    rcases List.mem_cons.mp hv with rfl | q
    · exact ⟨_, by simp, h⟩
    · obtain ⟨d, hd, e⟩ := Da.mem a q
      exact ⟨d, by simp [hd], e⟩
theorem rd_newT2 {H : Hp} {R : Addr → Prop} {x y : Int} (q : ∀ p, H p = none → Dt (upd H p (.tup [.int x, .int y])) (.ref p) (.tuple [.int x, .int y]) → R p) :
    [V.int x, V.int y].length ≤ sizeLine ∧ ∀ p, H p = none → R p :=
  ⟨by show 2 ≤ _; decide, fun p hp => q p hp (Dt.newT hp (.cons (.int _) (.cons (.int _) .nil)))⟩
abbrev s__law_board : Stmt := topS 64
abbrev n__law_board : List Str := ["_law_row"]
theorem sc__law_board : FnScope n__law_board ["_law_row"] (defScope s__law_board) := ⟨rfl, rfl, rfl, by decide +kernel, rfl, by decide +kernel, by decide +kernel⟩

def sp__law_board (K : PySem.W.Frag) : Sp := fun vs H Q E => ∃ (a : Addr) (S : Addr × List Int), vs = [.ref a] ∧ Rw K H a S ∧ drawn K H a S (fun v H' => ∃ b ∈ boards, Dt H' v (brdD b)) Q
theorem ok__law_board {P : Program} {w : World} {K : PySem.W.Frag} {mg : Str → Option Value} {base : Heap} {f : Addr} {fd : FuncData} (F : Fun K "_law_board" "_law_board" s__law_board f fd) (Z : Bl mg) (C : Ct mg) (D_law_pick : Dn P w K mg base "_law_pick" ["_law_row", "_law_things"] 2 (sp__law_pick K)) : FnOk P w K mg base CX0 3 f fd ["_law_row"] (sp__law_board K) := by
  refine F.ok (k := 2) sc__law_board (fun vs H Q E h => ?_) (fun cdv A outer s H vs Q E hr h => ?_)
  · obtain ⟨a, S, rfl, ha, q⟩ := h
    rfl
  · refine ⟨_, (pss_one (ps_ret (pe_fn D_law_pick hr (pa_cons (pv 0) (pa_cons (pe_lst (pa_cons (pe_tup (pa_cons pe_int (pa_cons pe_int pa_nil))) (pa_cons (pe_tup (pa_cons pe_int (pa_cons pe_int pa_nil))) (pa_cons (pe_tup (pa_cons pe_int (pa_cons pe_int pa_nil))) (pa_cons (pe_tup (pa_cons pe_int (pa_cons pe_int pa_nil))) (pa_cons (pe_tup (pa_cons pe_int (pa_cons pe_int pa_nil))) (pa_cons (pe_tup (pa_cons pe_int (pa_cons pe_int pa_nil))) pa_nil))))))) pa_nil))))), ?_⟩
    clear hr Z C D_law_pick
    obtain ⟨a, S, rfl, ha, q⟩ := h
    have all : ∀ (i : Nat), i < 7 → ∀ (xs : List V) (H1 : Hp), Same H H1 → Da H1 xs ((boards.take i).map brdD) → True := fun _ _ _ _ _ _ => True.intro
    ((try dsimp only); repeat infer_instance)
    refine rd_newT2 fun p1 h1 d1 => ?_
    have s1 := same_upd (o := .tup [.int 1, .int 1]) h1
    generalize upd H p1 _ = H1 at *
    ((try dsimp only); repeat infer_instance)
    refine rd_newT2 fun p2 h2 d2 => ?_
    have s2 := s1.trans (same_upd (o := .tup [.int 1, .int 2]) h2)
    have d1 := d1.ups (same_upd (o := .tup [.int 1, .int 2]) h2)
    generalize upd H1 p2 _ = H2 at *
    ((try dsimp only); repeat infer_instance)
    refine rd_newT2 fun p3 h3 d3 => ?_
    have s3 := s2.trans (same_upd (o := .tup [.int 2, .int 1]) h3)
    have d1 := d1.ups (same_upd (o := .tup [.int 2, .int 1]) h3)
    have d2 := d2.ups (same_upd (o := .tup [.int 2, .int 1]) h3)
    generalize upd H2 p3 _ = H3 at *
    ((try dsimp only); repeat infer_instance)
    refine rd_newT2 fun p4 h4 d4 => ?_
    have t4 := same_upd (o := .tup [.int 2, .int 2]) h4
    have s4 := s3.trans t4
    have d1 := d1.ups t4
    have d2 := d2.ups t4
    have d3 := d3.ups t4
    generalize upd H3 p4 _ = H4 at *
    ((try dsimp only); repeat infer_instance)
    refine rd_newT2 fun p5 h5 d5 => ?_
    have t5 := same_upd (o := .tup [.int 1, .int 3]) h5
    have s5 := s4.trans t5
    have d1 := d1.ups t5
    have d2 := d2.ups t5
    have d3 := d3.ups t5
    have d4 := d4.ups t5
    generalize upd H4 p5 _ = H5 at *
    ((try dsimp only); repeat infer_instance)
    refine rd_newT2 fun p6 h6 d6 => ?_
    have t6 := same_upd (o := .tup [.int 2, .int 2]) h6
    have s6 := s5.trans t6
    have d1 := d1.ups t6
    have d2 := d2.ups t6
    have d3 := d3.ups t6
    have d4 := d4.ups t6
    have d5 := d5.ups t6
    generalize upd H5 p6 _ = H6 at *
    ((try dsimp only); repeat infer_instance)
    refine ⟨by show 6 ≤ _; decide, fun p hp => ?_⟩
    ((try dsimp only); repeat infer_instance)
    have r6 := ha.same s6
    have D : Da H6 [.ref p1, .ref p2, .ref p3, .ref p4, .ref p5, .ref p6] (boards.map brdD) := .cons d1 (.cons d2 (.cons d3 (.cons d4 (.cons d5 (.cons d6 .nil)))))
    refine ⟨a, S, _, rfl, r6.upd hp, .inr ⟨p, _, rfl, upd_same, r6.ne hp, by simp, by simp, fun v H' s r hv => ?_⟩⟩
    obtain ⟨d, hd, dv⟩ := Da.mem D hv
    obtain ⟨b, hb, rfl⟩ := List.mem_map.mp hd
    exact q _ _ (((Sx.of s6).trans (.of (same_upd hp))).trans s) r ⟨b, hb, (dv.ups (same_upd hp)).sx s (r6.upd hp).lst⟩

end Cz

set_option Elab.async false
set_option linter.all false
set_option maxRecDepth 100000
set_option maxHeartbeats 4000000

namespace Cz
open PySem L2
local macro_rules | `(tactic| infer_instance) => `(tactic| with_reducible first
  | refine rd_seq ?_ | refine rd_cons ?_ | refine rd_nil ?_ | refine rd_c ?_ | refine rd_op ?_ | (refine rd_var (v := ?_) ?_ ?_; rotate_left 1; (with_unfolding_all rfl)) | refine rd_un ?_ | refine rd_call ?_ | refine rd_cb ?_ | refine rd_I0 ?_ | refine rd_test ?_ | refine rd_tB ?_ | refine rd_k ?_
  | refine rd_not ?_ | refine rd_and ?_ | refine rd_or ?_ | refine rd_andV ?_ | refine rd_orV ?_ | refine rd_notV ?_ | refine rd_ife ?_ | refine rd_chain ?_ | refine rd_tup ?_ | refine rd_lst ?_ | refine rd_bm0 ?_ | refine rd_bm ?_ | refine rd_sl ?_ | refine rd_nopart ?_ | refine rd_part ?_ | refine rd_i ?_
  | refine rd_next ?_ | refine rd_cont ?_ | refine rd_drop ?_ | refine rd_ret ?_ | refine rd_retN ?_ | refine rd_if ?_ | refine rd_asg ?_ | refine rd_gname ?_ | refine rd_par ?_ | refine rd_par3 ?_ | refine rd_v2 ?_ | refine rd_v3 ?_ | refine rd_gnil ?_ | refine rd_for ?_ | refine rd_lc ?_ | refine rd_yes ?_ | refine rd_iT ?_ | refine rd_iL ?_ | refine rd_iR1 ?_ | refine rd_iR2 ?_ | refine rd_iS ?_ | refine rd_rev ?_ | (with_unfolding_all refine rd_ifT rfl ?_) | (with_unfolding_all refine rd_ifF rfl ?_))

theorem yes_mono : ∀ (σ2 : St) H2 (R R' : Bool → Hp → Prop), (∀ b H3, R b H3 → R' b H3) → tYes σ2 H2 R → tYes σ2 H2 R' := fun _ _ _ _ h q => h _ _ q
theorem name_mono {i : Nat} : ∀ v σ H (R R' : St → Hp → Prop), (∀ σ2 H2, R σ2 H2 → R' σ2 H2) → gName i v σ H R → gName i v σ H R' := fun _ _ _ _ _ h q => h _ _ q
theorem join_row : ∀ bs : List Bool, bs.length ≤ 3 → Txt.join "" (bs.map fun b => (⟨#[cell b]⟩ : Str)) = rowS bs
  | [], _ => by decide +kernel
  | [a], _ => by revert a; decide +kernel
  | [a, b], _ => by revert a b; decide +kernel
  | [a, b, c], _ => by revert a b c; decide +kernel
theorem cell_of {c : Nat} (h : c ∈ (Str.ofString "#.").cps.toList) : ∃ b, c = cell b := by
  have e : (Str.ofString "#.").cps.toList = [35, 46] := by decide +kernel
  rw [e] at h
  simp at h
  rcases h with rfl | rfl
  · exact ⟨true, rfl⟩
  · exact ⟨false, rfl⟩
theorem cells_of : ∀ {acc : List PyData}, (∀ d ∈ acc, ∃ b : Bool, d = .str ⟨#[cell b]⟩) → ∃ bs : List Bool, acc = bs.map fun b => .str ⟨#[cell b]⟩
  | [], _ => ⟨[], rfl⟩
  | d :: acc, h => by
    obtain ⟨b, rfl⟩ := h d (by simp)
    obtain ⟨bs, rfl⟩ := cells_of (acc := acc) fun d hd => h d (by simp [hd])
    exact ⟨b :: bs, rfl⟩
theorem rows_of {w : Nat} : ∀ {acc : List PyData}, (∀ d ∈ acc, ∃ r : List Bool, r.length = w ∧ d = .str (rowS r)) → ∃ p : Pic, (∀ r ∈ p, r.length = w) ∧ acc = p.map fun r => .str (rowS r)
  | [], _ => ⟨[], by simp, rfl⟩
  | d :: acc, h => by
    obtain ⟨b, hb, rfl⟩ := h d (by simp)
    obtain ⟨bs, hs, rfl⟩ := rows_of (acc := acc) fun d hd => h d (by simp [hd])
    exact ⟨b :: bs, fun r hr => by rcases List.mem_cons.mp hr with rfl | q; exact hb; exact hs r q, rfl⟩
abbrev s__law_picture : Stmt := topS 54
abbrev n__law_picture : List Str := ["_law_row", "_law_high", "_law_wide", "_law_at", "_law_spot"]
theorem sc__law_picture : FnScope n__law_picture ["_law_row", "_law_high", "_law_wide"] (defScope s__law_picture) := ⟨rfl, rfl, rfl, by decide +kernel, rfl, by decide +kernel, by decide +kernel⟩
abbrev in__law_picture : Scope := { kind := .function, names := [(".0", .local), ("_law_at", .local), ("range", .globalImplicit), ("_law_row", .cell), ("_law_wide", .cell)], isGenerator := false, isCoroutine := false }
def sp__law_picture (K : PySem.W.Frag) : Sp := fun vs H Q E => ∃ (a : Addr) (S : Addr × List Int) (r c : Nat), vs = [.ref a, .int r, .int c] ∧ Rw K H a S ∧ 0 < r ∧ 0 < c ∧ r ≤ 3 ∧ c ≤ 3 ∧ drawn K H a S (fun v H' => ∃ p, Shp r c p ∧ Dt H' v (encP p)) Q
theorem ok__law_picture {P : Program} {w : World} {K : PySem.W.Frag} {mg : Str → Option Value} {base : Heap} {f : Addr} {fd : FuncData} (F : Fun K "_law_picture" "_law_picture" s__law_picture f fd) (Z : Bl mg) (C : Ct mg) (D_law_pick : Dn P w K mg base "_law_pick" ["_law_row", "_law_things"] 2 (sp__law_pick K)) : FnOk P w K mg base CX0 3 f fd ["_law_row", "_law_high", "_law_wide"] (sp__law_picture K) := by
  refine F.ok (k := 2) sc__law_picture (fun vs H Q E h => ?_) (fun cdv A outer s H vs Q E hr h => ?_)
  · obtain ⟨a, S, r, c, rfl, ha, r0, c0, r3, c3, q⟩ := h
    rfl
  · refine ⟨_, (pss_one (ps_ret (pe_callTy call_tuple_of (by rfl) Z.tup bt_tuple (pa_cons (pe_lc (own := [("_law_at", 3)]) rfl sc__law_picture.nd (pi_range1 (by rfl) Z.range (pa_cons (pv 1) pa_nil)) (blkOk_by (N := n__law_picture) (sc := (defScope s__law_picture)) (by decide +kernel)) (fun _ _ _ _ _ => (pg_name (i := 3) sc__law_picture.nd rfl (.inl rfl) (.inr rfl))) (fun _ _ _ _ _ => pts_nil) (fun _ _ _ _ _ => (kJoin (K := K) rfl pe_str (pe_lc (own := [("_law_spot", 4)]) rfl sc__law_picture.nd (pi_range1 (by rfl) Z.range (pa_cons (pv 2) pa_nil)) (blkOk_by (N := n__law_picture) (sc := in__law_picture) (by decide +kernel)) (fun _ _ _ _ _ => (pg_name (i := 4) sc__law_picture.nd rfl (.inl rfl) (.inr rfl))) (fun _ _ _ _ _ => pts_nil) (fun _ _ _ _ _ => (pe_fn D_law_pick hr (pa_cons (pv 0) (pa_cons pe_str pa_nil)))))))) pa_nil)))), ?_⟩
    clear hr Z C D_law_pick
    obtain ⟨a, S, r, c, rfl, ha, r0, c0, r3, c3, q⟩ := h
    ((try dsimp only); repeat infer_instance)
    refine ⟨r, rfl, by omega, by omega, ?_⟩
    refine lcM ha (fun d => ∃ x : List Bool, x.length = c ∧ d = .str (rowS x)) (by omega) (fun i H' hi s1 a1 Y hY => ?_) yes_mono name_mono (fun Dd H' acc hD s1 a1 hL hlen hE => ?_)
    · ((try dsimp only); repeat infer_instance)
      refine ⟨rfl, ?_⟩
      ((try dsimp only); repeat infer_instance)
      refine ⟨rfl, ?_⟩
      show tC _ _ _ _
      ((try dsimp only); repeat infer_instance)
      refine ⟨⟨_, rfl⟩, ?_⟩
      ((try dsimp only); repeat infer_instance)
      refine ⟨c, rfl, by omega, by omega, ?_⟩
      refine lcM a1 (fun d => ∃ b : Bool, d = .str ⟨#[cell b]⟩) (by omega) (fun j H2 hj s2 a2 Y2 hY2 => ?_) yes_mono name_mono (fun D2 H2 acc hD s2 a2 hL hlen hE => ?_)
      · ((try dsimp only); repeat infer_instance)
        refine ⟨rfl, ?_⟩
        ((try dsimp only); repeat infer_instance)
        refine ⟨rfl, ?_⟩
        ((try dsimp only); repeat infer_instance)
        refine ⟨a, S, _, rfl, a2, .inl ⟨_, rfl, by decide +kernel, by decide +kernel, ?_⟩⟩
        rintro v H3 s3 a3 ⟨x, hx, rfl⟩
        obtain ⟨b, rfl⟩ := cell_of hx
        exact hY2 _ _ _ s3 a3 (.str _) ⟨b, rfl⟩
      · obtain ⟨bs, rfl⟩ := cells_of hE
        rw [List.length_map] at hlen
        obtain ⟨pa, xs, e, h1, h2⟩ := hL
        cases e
        have h2' : xs = (bs.map fun b => (⟨#[cell b]⟩ : Str)).map V.str := Da.strs (by rw [List.map_map]; exact h2)
        subst h2'
        refine ⟨_, _, bs.map fun b => ⟨#[cell b]⟩, rfl, rfl, .inl (SqL.of h1), ?_, ?_⟩
        · have e0 : (Str.ofString "").length = 0 := by decide +kernel
          have e1 : ∀ l : List Bool, ((l.map fun b => (⟨#[cell b]⟩ : Str)).map (·.length)).sum = l.length := fun l => by
            induction l with
            | nil => rfl
            | cons x l ih => simp only [List.map_cons, List.sum_cons, ih, List.length_cons]; show 1 + _ = _; omega
          rw [e0, e1]
          omega
        · rw [join_row bs (by omega)]
          exact hY _ _ _ s2 a2 (.str _) ⟨bs, hlen, rfl⟩
    · obtain ⟨p, hp, rfl⟩ := rows_of hE
      rw [List.length_map] at hlen
      ((try dsimp only); repeat infer_instance)
      refine rd_tupOf hL fun u H2 s2 d2 => ?_
      exact q _ _ (s1.trans (.of s2)) (a1.same s2) ⟨p, ⟨hlen, hp, r0, c0, by omega, by omega⟩, d2⟩

end Cz

set_option Elab.async false
set_option linter.all false
set_option maxRecDepth 100000
set_option maxHeartbeats 4000000

namespace Cz
open PySem L2
local macro_rules | `(tactic| infer_instance) => `(tactic| with_reducible first
  | refine rd_seq ?_ | refine rd_cons ?_ | refine rd_nil ?_ | refine rd_c ?_ | refine rd_op ?_ | (refine rd_var (v := ?_) ?_ ?_; rotate_left 1; (with_unfolding_all rfl)) | refine rd_un ?_ | refine rd_call ?_ | refine rd_cb ?_ | refine rd_I0 ?_ | refine rd_test ?_ | refine rd_tB ?_ | refine rd_k ?_
  | refine rd_not ?_ | refine rd_and ?_ | refine rd_or ?_ | refine rd_andV ?_ | refine rd_orV ?_ | refine rd_notV ?_ | refine rd_ife ?_ | refine rd_chain ?_ | refine rd_tup ?_ | refine rd_lst ?_ | refine rd_bm0 ?_ | refine rd_bm ?_ | refine rd_sl ?_ | refine rd_nopart ?_ | refine rd_part ?_ | refine rd_i ?_
  | refine rd_next ?_ | refine rd_cont ?_ | refine rd_drop ?_ | refine rd_ret ?_ | refine rd_retN ?_ | refine rd_if ?_ | refine rd_asg ?_ | refine rd_gname ?_ | refine rd_par ?_ | refine rd_par3 ?_ | refine rd_v2 ?_ | refine rd_v3 ?_ | refine rd_gnil ?_ | refine rd_for ?_ | refine rd_lc ?_ | refine rd_yes ?_ | refine rd_iT ?_ | refine rd_iL ?_ | refine rd_iR1 ?_ | refine rd_iR2 ?_ | refine rd_iS ?_ | refine rd_rev ?_ | (with_unfolding_all refine rd_ifT rfl ?_) | (with_unfolding_all refine rd_ifF rfl ?_))

theorem ty_lst {K : PySem.W.Frag} {H : Hp} {p : Addr} {xs : List V} (h : H p = some (.lst xs)) : tyV K "list" (.ref p) H := .inl ⟨rfl, xs, SqL.of h⟩
theorem rd_app {H : Hp} {p : Addr} {xs : List V} {y : V} {Q : VK} (h : H p = some (.lst xs)) (hn : xs.length ≤ 1000) (q : Q .non (upd H p (.lst (xs ++ [y])))) : rAppend (.ref p) [y] H Q := ⟨p, xs, y, rfl, rfl, h, Nat.lt_of_le_of_lt hn (by decide), q⟩
/-- all stays but what stands in B -/
def SB (B : List Addr) (H H' : Hp) : Prop := ∀ b o, b ∉ B → H b = some o → H' b = some o
theorem SB.sx {a : Addr} {B : List Addr} {H H' : Hp} (s : Sx a H H') (h : a ∈ B) : SB B H H' := fun b o n e => s b o (fun q => n (q ▸ h)) e
theorem SB.same {B : List Addr} {H H' : Hp} (s : Same H H') : SB B H H' := fun b o _ e => s b o e
theorem SB.upd {B : List Addr} {H : Hp} {p : Addr} {o : HO} (h : p ∈ B) : SB B H (upd H p o) := fun b _ n e => by
  have hb : b ≠ p := fun q => n (by rw [q]; exact h)
  rw [upd_ne hb]; exact e
def lnV (n : Nat) : V := .int (n : Int)
/-- one throw: strokes, weight -/
def ThrAt (B : List Addr) (H : Hp) (x : V) (y : (Eff × Int)) : Prop := ∃ t l, x = .ref t ∧ H t = some (.tup [.ref l, .int y.2]) ∧ H l = some (.lst (y.1.map lnV)) ∧ l ∉ B
theorem ThrAt.sb {B : List Addr} {H H' : Hp} {x : V} {y : (Eff × Int)} (h : ThrAt B H x y) (s : SB B H H') (hb : ∀ b ∈ B, ∃ xs, H b = some (.lst xs)) : ThrAt B H' x y := by
  obtain ⟨t, l, e, h1, h2, h3⟩ := h
  exact ⟨t, l, e, s _ _ (fun q => by obtain ⟨xs, e⟩ := hb t q; rw [e] at h1; cases h1) h1, s _ _ h3 h2, h3⟩
inductive Thrs (B : List Addr) (H : Hp) : List V → List (Eff × Int) → Prop
  | nil : Thrs B H [] []
  | cons {x xs y ys} : ThrAt B H x y → Thrs B H xs ys → Thrs B H (x :: xs) (y :: ys)
theorem Thrs.sb {B : List Addr} {H H' : Hp} (s : SB B H H') (hb : ∀ b ∈ B, ∃ xs, H b = some (.lst xs)) : ∀ {xs : List V} {ys : List (Eff × Int)}, Thrs B H xs ys → Thrs B H' xs ys
  | _, _, .nil => .nil
  | _, _, .cons h a => .cons (h.sb s hb) (Thrs.sb s hb a)
theorem Thrs.app {B : List Addr} {H : Hp} {x : V} {y : (Eff × Int)} (h : ThrAt B H x y) : ∀ {xs : List V} {ys : List (Eff × Int)}, Thrs B H xs ys → Thrs B H (xs ++ [x]) (ys ++ [y])
  | _, _, .nil => .cons h .nil
  | _, _, .cons g a => .cons g (Thrs.app h a)
theorem Thrs.len {B : List Addr} {H : Hp} : ∀ {xs : List V} {ys : List (Eff × Int)}, Thrs B H xs ys → xs.length = ys.length
  | _, _, .nil => rfl
  | _, _, .cons _ a => by simp [Thrs.len a]
def ThrOk (r c : Nat) (ths : List (Eff × Int)) : Prop := ∀ x ∈ ths, x.1.length ≤ 3 ∧ (∀ n ∈ x.1, n < r + c) ∧ 1 ≤ x.2 ∧ x.2 ≤ 4
theorem lns_of {m : Nat} : ∀ {acc : List PyData}, (∀ d ∈ acc, ∃ n : Nat, n < m ∧ d = lnD n) → ∃ e : Eff, (∀ n ∈ e, n < m) ∧ acc = e.map lnD
  | [], _ => ⟨[], by simp, rfl⟩
  | d :: acc, h => by
    obtain ⟨b, hb, rfl⟩ := h d (by simp)
    obtain ⟨bs, hs, rfl⟩ := lns_of (acc := acc) fun d hd => h d (by simp [hd])
    exact ⟨b :: bs, fun r hr => by rcases List.mem_cons.mp hr with rfl | q; exact hb; exact hs r q, rfl⟩
theorem da_lns {H : Hp} : ∀ {e : Eff} {xs : List V}, Da H xs (e.map lnD) → xs = e.map lnV
  | [], _, .nil => rfl
  | n :: e, _, .cons h a => by rw [h.int_eq, da_lns (e := e) a]; rfl
abbrev s__law_throws : Stmt := topS 62
abbrev n__law_throws : List Str := ["_law_row", "_law_high", "_law_wide", "_law_most", "_law_found", "_law_step", "_law_lines", "_law_at"]
theorem sc__law_throws : FnScope n__law_throws ["_law_row", "_law_high", "_law_wide", "_law_most"] (defScope s__law_throws) := ⟨rfl, rfl, rfl, by decide +kernel, rfl, by decide +kernel, by decide +kernel⟩

def sp__law_throws (K : PySem.W.Frag) : Sp := fun vs H Q E => ∃ (a : Addr) (S : Addr × List Int) (r c : Nat), vs = [.ref a, .int r, .int c, .int 4] ∧ Rw K H a S ∧ 0 < r ∧ 0 < c ∧ r ≤ 3 ∧ c ≤ 3 ∧
  (∀ p H' xs ths, Sx a H H' → Rw K H' a S → H' p = some (.lst xs) → Thrs [a, p] H' xs ths → ThrOk r c ths → 0 < ths.length → ths.length ≤ 4 → Q (.ref p) H')
theorem ok__law_throws {P : Program} {w : World} {K : PySem.W.Frag} {mg : Str → Option Value} {base : Heap} {f : Addr} {fd : FuncData} (F : Fun K "_law_throws" "_law_throws" s__law_throws f fd) (Z : Bl mg) (C : Ct mg) (D_law_pick : Dn P w K mg base "_law_pick" ["_law_row", "_law_things"] 2 (sp__law_pick K)) (D_law_taken : Dn P w K mg base "_law_taken" ["_law_row", "_law_many"] 1 (sp__law_taken K)) : FnOk P w K mg base CX0 3 f fd ["_law_row", "_law_high", "_law_wide", "_law_most"] (sp__law_throws K) := by
  refine F.ok (k := 2) sc__law_throws (fun vs H Q E h => ?_) (fun cdv A outer s H vs Q E hr h => ?_)
  · obtain ⟨a, S, r, c, rfl, ha, r0, c0, r3, c3, q⟩ := h
    rfl
  · refine ⟨_, (pss_cons (ps_set (i := 4) sc__law_throws.nd rfl (.inl rfl) (pe_lst pa_nil))
    (pss_cons (ps_for PassesOwn.never rfl (pi_range1 (by rfl) Z.range (pa_cons (pe_op op_add pe_int (pe_fn D_law_taken hr (pa_cons (pv 0) (pa_cons (pv 3) pa_nil)))) pa_nil)) (pg_name (i := 5) sc__law_throws.nd rfl (.inl rfl))
      (pss_cons (ps_setLc (i := 6) (own := [("_law_at", 7)]) rfl sc__law_throws.nd rfl rfl (sw_true rfl rfl rfl (by decide +kernel)) (pi_range1 (by rfl) Z.range (pa_cons (pe_fn D_law_pick hr (pa_cons (pv 0) (pa_cons (pe_lst (pa_cons pe_int (pa_cons pe_int (pa_cons pe_int (pa_cons pe_int (pa_cons pe_int (pa_cons pe_int pa_nil))))))) pa_nil))) pa_nil)) (blkOk_by (N := n__law_throws) (sc := (defScope s__law_throws)) (by decide +kernel)) (fun _ _ _ _ _ => (pg_name (i := 7) sc__law_throws.nd rfl (.inl rfl) (.inr rfl))) (fun _ _ _ _ _ => pts_nil) (fun _ _ _ _ _ => (pe_fn D_law_taken hr (pa_cons (pv 0) (pa_cons (pe_op op_add (pv 1) (pv 2)) pa_nil)))))
      (pss_one (ps_expr (pe_bm PySem.F.plainAttrs_list PySem.F.slot_list_append PySem.F.type_list_append mt_append (pv 4) (pa_cons (pe_tup (pa_cons (pv 6) (pa_cons (pe_op op_add pe_int (pe_fn D_law_taken hr (pa_cons (pv 0) (pa_cons pe_int pa_nil)))) pa_nil))) pa_nil))))))
    (pss_one (ps_ret (pv 4))))), ?_⟩
    clear hr Z C D_law_pick D_law_taken
    obtain ⟨a, S, r, c, rfl, ha, r0, c0, r3, c3, q⟩ := h
    ((try dsimp only); repeat infer_instance)
    refine ⟨by show 0 ≤ _; decide, fun p hp => ?_⟩
    have s1 : Sx a H (upd H p (.lst [])) := .of (same_upd hp)
    have a1 := ha.upd (o := .lst []) hp
    have hpa := ha.ne hp
    ((try dsimp only); repeat infer_instance)
    refine ⟨a, S, 4, rfl, a1, by decide, by decide, ?_⟩
    rintro v H2 s2 a2 ⟨n, rfl, hn⟩
    have e2 : H2 p = some (.lst []) := s2 _ _ hpa upd_same
    ((try dsimp only); repeat infer_instance)
    refine ⟨_, rfl, by omega, by omega, ?_⟩
    refine forR (fun i σ' H' => Sx a H H' ∧ Rw K H' a S ∧ ∃ xs ths x y z, H' p = some (.lst xs) ∧ Thrs [a, p] H' xs ths ∧ ThrOk r c ths ∧ ths.length = i ∧ σ' = [some (.ref a), some (.int r), some (.int c), some (.int 4), some (.ref p), x, y, z]) ⟨s1.trans s2, a2, [], [], none, none, none, e2, .nil, fun x hx => by simp at hx, rfl, rfl⟩ (fun i σ' H' hi hP => ?_) (fun σ' H' hP => ?_)
    · obtain ⟨s3, a3, xs, ths, x, y, z, e3, t3, o3, l3, rfl⟩ := hP
      ((try dsimp only); repeat infer_instance)
      refine ⟨by show 6 ≤ _; decide, fun q1 hq1 => ?_⟩
      ((try dsimp only); repeat infer_instance)
      have a4 := a3.upd (o := .lst [.int 0, .int 1, .int 1, .int 1, .int 2, .int 3]) hq1
      refine ⟨a, S, _, rfl, a4, .inr ⟨q1, _, rfl, upd_same, a3.ne hq1, by simp, by simp, fun v H5 s5 a5 hv => ?_⟩⟩
      obtain ⟨k, rfl, hk⟩ : ∃ k : Nat, v = .int k ∧ k ≤ 3 := by
        simp at hv
        rcases hv with rfl | rfl | rfl | rfl
        · exact ⟨0, rfl, by decide⟩
        · exact ⟨1, rfl, by decide⟩
        · exact ⟨2, rfl, by decide⟩
        · exact ⟨3, rfl, by decide⟩
      have S5 : Sx a H' H5 := (Sx.of (same_upd hq1)).trans s5
      ((try dsimp only); repeat infer_instance)
      refine ⟨_, rfl, by omega, by omega, ?_⟩
      refine lcM a5 (fun d => ∃ n : Nat, n < r + c ∧ d = lnD n) (by omega) (fun j H6 hj s6 a6 Y hY => ?_) yes_mono name_mono (fun Dd H6 acc hD s6 a6 hL hlen hE => ?_)
      · ((try dsimp only); repeat infer_instance)
        refine ⟨rfl, ?_⟩
        ((try dsimp only); repeat infer_instance)
        refine ⟨rfl, ?_⟩
        ((try dsimp only); repeat infer_instance)
        refine ⟨a, S, _, rfl, a6, by omega, by omega, ?_⟩
        rintro v H7 s7 a7 ⟨m, rfl, hm⟩
        exact hY _ _ _ s7 a7 (.int _) ⟨m, by omega, rfl⟩
      · obtain ⟨e, he, rfl⟩ := lns_of hE
        rw [List.length_map] at hlen
        obtain ⟨D', ys, eD, h1, h2⟩ := hL
        cases eD
        rw [da_lns h2] at h1
        have S6 := S5.trans s6
        have e6 := S6 _ _ hpa e3
        have hDp : Dd ≠ p := fun q => by
          subst q
          have := s5 _ _ hpa (same_upd hq1 _ _ e3)
          rw [this] at hD
          cases hD
        have hDa := a5.ne hD
        have bl : ∀ b ∈ [a, p], ∃ xs, H' b = some (.lst xs) := fun b hb => by
          simp at hb
          rcases hb with rfl | rfl
          · exact a3.lst
          · exact ⟨_, e3⟩
        have t6 := t3.sb (.sx S6 (by simp)) bl
        ((try dsimp only); repeat infer_instance)
        refine ⟨ty_lst e6, ?_⟩
        ((try dsimp only); repeat infer_instance)
        refine ⟨a, S, 4, rfl, a6, by decide, by decide, ?_⟩
        rintro v H7 s7 a7 ⟨m, rfl, hm⟩
        have S7 := S6.trans s7
        have e7 := s7 _ _ hpa e6
        have h7 := s7 _ _ hDa h1
        have bl6 : ∀ b ∈ [a, p], ∃ xs, H6 b = some (.lst xs) := fun b hb => by
          simp at hb
          rcases hb with rfl | rfl
          · exact a6.lst
          · exact ⟨_, e6⟩
        have t7 := t6.sb (.sx s7 (by simp)) bl6
        ((try dsimp only); repeat infer_instance)
        refine ⟨by show 2 ≤ _; decide, fun t ht => ?_⟩
        ((try dsimp only); repeat infer_instance)
        have htp : t ≠ p := fun q => by subst q; rw [e7] at ht; cases ht
        have e8 : upd H7 t (.tup [.ref Dd, .int (1 + m)]) p = some (.lst xs) := same_upd ht _ _ e7
        have bl7 : ∀ b ∈ [a, p], ∃ xs, H7 b = some (.lst xs) := fun b hb => by
          simp at hb
          rcases hb with rfl | rfl
          · exact a7.lst
          · exact ⟨_, e7⟩
        have t8 := t7.sb (.same (same_upd (o := .tup [.ref Dd, .int (1 + m)]) ht)) bl7
        have bl8 : ∀ b ∈ [a, p], ∃ xs, upd H7 t (.tup [.ref Dd, .int (1 + m)]) b = some (.lst xs) := fun b hb => by
          obtain ⟨xs, q⟩ := bl7 b hb
          exact ⟨xs, same_upd ht _ _ q⟩
        have one : ThrAt [a, p] (upd H7 t (.tup [.ref Dd, .int (1 + m)])) (.ref t) (e, 1 + (m : Int)) := ⟨t, Dd, rfl, upd_same, same_upd ht _ _ h7, by simp; exact ⟨hDa, hDp⟩⟩
        have l8 := t8.len
        refine rd_app e8 (by rw [l8, l3]; omega) ?_
        ((try dsimp only); repeat infer_instance)
        have a8 := a7.upd (o := .tup [.ref Dd, .int (1 + m)]) ht
        have S8 : Sx a H (upd H7 t (.tup [.ref Dd, .int (1 + m)])) := (s3.trans S7).trans (.of (same_upd ht))
        refine ⟨fun b o nb e => ?_, ?_, _, ths ++ [(e, 1 + (m : Int))], _, _, _, upd_same, (t8.app one).sb (.upd (by simp)) bl8, fun x hx => ?_, by simp [l3], rfl⟩
        · rw [upd_ne (ne_of_none e hp)]
          exact S8 _ _ nb e
        · obtain ⟨i, k, c, e, hs, z⟩ := a8
          refine ⟨i, k, c, by rw [upd_ne (Ne.symm hpa)]; exact e, ?_, z⟩
          obtain ⟨i0, k0, c0, e0, hs0, z0⟩ := ha
          rcases hs0 with ⟨hs0, hne⟩ | hs0
          · have hd : S.1 ≠ p := fun q => by
              rw [q] at hs0
              rcases hs0 with q | ⟨o, q⟩ <;> (rw [hp] at q; cases q)
            rcases hs with ⟨hs | ⟨o, hs⟩, hne⟩ | hs
            · exact .inl ⟨.inl (by rw [upd_ne hd]; exact hs), hne⟩
            · exact .inl ⟨.inr ⟨o, by rw [upd_ne hd]; exact hs⟩, hne⟩
            · exact .inr hs
          · exact .inr hs0
        · rcases List.mem_append.mp hx with q | q
          · exact o3 x q
          · simp at q
            subst q
            exact ⟨by show e.length ≤ 3; omega, he, by show 1 ≤ 1 + (m : Int); omega, by show 1 + (m : Int) ≤ 4; omega⟩
    · obtain ⟨s3, a3, xs, ths, x, y, z, e3, t3, o3, l3, rfl⟩ := hP
      ((try dsimp only); repeat infer_instance)
      exact q _ _ _ _ s3 a3 e3 t3 o3 (by omega) (by omega)

end Cz

set_option Elab.async false
set_option linter.all false
set_option maxRecDepth 100000
set_option maxHeartbeats 4000000
/-! normal forms, in plain -/
namespace Cz
def insN (n : Nat) : List Nat → List Nat
  | [] => [n]
  | m :: l => if n ≤ m then n :: m :: l else m :: insN n l
def isrt (l : List Nat) : List Nat := l.foldr insN []
theorem insN_perm (n : Nat) : ∀ l, (insN n l).Perm (n :: l)
  | [] => .refl _
  | m :: l => by
    unfold insN
    split
    · exact .refl _
    · exact ((insN_perm n l).cons m).trans (.swap n m l)
theorem isrt_perm : ∀ l, (isrt l).Perm l
  | [] => .refl _
  | n :: l => (insN_perm n _).trans ((isrt_perm l).cons n)
theorem insN_sorted (n : Nat) : ∀ l : List Nat, l.Pairwise (· ≤ ·) → (insN n l).Pairwise (· ≤ ·)
  | [], _ => by unfold insN; simp
  | m :: l, h => by
    unfold insN
    rw [List.pairwise_cons] at h
    split
    · rename_i hn
      rw [List.pairwise_cons, List.pairwise_cons]
      refine ⟨fun x hx => ?_, h⟩
      rcases List.mem_cons.mp hx with rfl | q
      · exact hn
      · have := h.1 x q; omega
    · rename_i hn
      rw [List.pairwise_cons]
      refine ⟨fun x hx => ?_, insN_sorted n l h.2⟩
      have := (insN_perm n l).mem_iff.mp hx
      rcases List.mem_cons.mp this with rfl | q
      · omega
      · exact h.1 x q
theorem isrt_sorted : ∀ l : List Nat, (isrt l).Pairwise (· ≤ ·)
  | [] => by unfold isrt; simp
  | n :: l => insN_sorted n _ (isrt_sorted l)
/-- sorted whole numbers that came of l are isrt l -/
theorem sorted_is {l : List Nat} {ns : List Int} (hp : ns.Perm (l.map fun n : Nat => (n : Int))) (hs : ns.Pairwise (· ≤ ·)) : ns = (isrt l).map fun n : Nat => (n : Int) := by
  refine List.Perm.eq_of_pairwise (le := fun a b => a ≤ b) (fun a b _ _ h1 h2 => Int.le_antisymm h1 h2) hs ?_ (hp.trans ((isrt_perm l).map _).symm)
  rw [List.pairwise_map]
  exact (isrt_sorted l).imp fun h => by omega
structure NS where
  parts : List (List Nat)
  told : List Nat
  c0 : Nat
  c1 : Nat
def nadd (r : Nat) (ps : List (List Nat)) (n : Nat) : List (List Nat) := match ps.getLast? with
  | some p => if decide (p.headD 0 < r) = decide (n < r) then ps.dropLast ++ [p ++ [n]] else ps ++ [[n]]
  | none => [[n]]
def nstep (r c : Nat) (s : NS) (n : Nat) : NS :=
  if decide (n ∉ s.told) && (decide (s.c0 < r) && decide (s.c1 < c)) then ⟨nadd r s.parts n, s.told ++ [n], if n < r then s.c0 + 1 else s.c0, if n < r then s.c1 else s.c1 + 1⟩ else s
def nrun (r c : Nat) (l : List Nat) : NS := l.foldl (nstep r c) ⟨[], [], 0, 0⟩
def nrm (r c : Nat) (e : List Nat) : List Nat := ((nrun r c e.reverse).parts.reverse.map isrt).flatten
def ladd (r : Nat) (ps : List (List Nat)) (n : Nat) : List (List Nat) := match ps with
  | p :: t => if decide (p.headD 0 < r) = decide (n < r) then isrt (p ++ [n]) :: t else [n] :: p :: t
  | [] => [[n]]
def lstep (r c : Nat) (s : List (List Nat) × List Nat) (n : Nat) : List (List Nat) × List Nat :=
  if decide (n ∉ s.2) && (decide ((s.2.filter fun m => decide (m < r)).length < r) && decide ((s.2.filter fun m => decide (r ≤ m)).length < c)) then (ladd r s.1 n, s.2 ++ [n]) else s
def lrun (r c : Nat) (l : List Nat) : List (List Nat) × List Nat := l.foldl (lstep r c) ([], [])
def lnrm (r c : Nat) (e : List Nat) : List Nat := (lrun r c e.reverse).1.flatten
/-- what is asked of the normal form of e -/
def nok (r c : Nat) (e : List Nat) : Bool := decide (nrm r c (lnrm r c e) = lnrm r c e) && (lnrm r c e).all (fun n => decide (n < r + c)) && decide ((lnrm r c e).length ≤ 3)
def upto : Nat → Nat → List (List Nat)
  | _, 0 => [[]]
  | m, k + 1 => upto m k ++ (upto m k).flatMap fun l => (List.range m).map fun n => n :: l
theorem mem_upto (m : Nat) : ∀ (k : Nat) (l : List Nat), l.length ≤ k → (∀ n ∈ l, n < m) → l ∈ upto m k
  | 0, [], _, _ => by simp [upto]
  | 0, n :: l, h, _ => by simp at h
  | k + 1, [], _, _ => by
    have := mem_upto m k [] (by simp) (by simp)
    simp [upto, this]
  | k + 1, n :: l, h, hm => by
    have := mem_upto m k l (by simp at h; omega) fun x hx => hm x (by simp [hx])
    unfold upto
    refine List.mem_append.mpr (.inr (List.mem_flatMap.mpr ⟨l, this, ?_⟩))
    exact List.mem_map.mpr ⟨n, List.mem_range.mpr (hm n (by simp)), rfl⟩
theorem nok_all : ([(1, 1), (1, 2), (2, 1), (2, 2), (1, 3), (2, 2)] : List (Nat × Nat)).all (fun b => (upto (b.1 + b.2) 3).all (nok b.1 b.2)) = true := by decide +kernel
theorem nrm_ok {r c : Nat} {e : List Nat} (hb : (r, c) ∈ ([(1, 1), (1, 2), (2, 1), (2, 2), (1, 3), (2, 2)] : List (Nat × Nat))) (hl : e.length ≤ 3) (he : ∀ n ∈ e, n < r + c) :
    nrm r c (lnrm r c e) = lnrm r c e ∧ (∀ n ∈ lnrm r c e, n < r + c) ∧ (lnrm r c e).length ≤ 3 := by
  have h := List.all_eq_true.mp (List.all_eq_true.mp nok_all (r, c) hb) e (mem_upto _ 3 e hl he)
  unfold nok at h
  simp only [Bool.and_eq_true, decide_eq_true_eq, List.all_eq_true] at h
  exact ⟨h.1.1, h.1.2, h.2⟩
/-- no part is empty -/
theorem nadd_ne {r n : Nat} {ps : List (List Nat)} (h : ∀ p ∈ ps, p ≠ []) : ∀ p ∈ nadd r ps n, p ≠ [] := by
  unfold nadd
  split
  · split
    · intro p hp
      rcases List.mem_append.mp hp with q | q
      · exact h p ((List.dropLast_sublist ps).mem q)
      · simp at q; subst q; simp
    · intro p hp
      rcases List.mem_append.mp hp with q | q
      · exact h p q
      · simp at q; subst q; simp
  · intro p hp
    simp at hp; subst hp; simp
theorem ladd_ne {r n : Nat} {ps : List (List Nat)} (h : ∀ p ∈ ps, p ≠ []) : ∀ p ∈ ladd r ps n, p ≠ [] := by
  unfold ladd
  split
  · rename_i p t
    split
    · intro q hq
      rcases List.mem_cons.mp hq with rfl | e
      · intro z
        have := (isrt_perm (p ++ [n])).length_eq
        rw [z] at this
        simp at this
      · exact h q (by simp [e])
    · intro q hq
      rcases List.mem_cons.mp hq with rfl | e
      · simp
      · exact h q e
  · intro p hp
    simp at hp; subst hp; simp
end Cz

set_option Elab.async false
set_option linter.all false
set_option maxRecDepth 100000
set_option maxHeartbeats 1000000
/-! lists of lists of strokes -/
namespace Cz
open PySem L2
theorem lnV_map (p : List Nat) : p.map lnV = (p.map fun n : Nat => (n : Int)).map V.int := by rw [List.map_map]; rfl
/-- the parts at bs -/
inductive Lsts (H : Hp) : List Addr → List (List Nat) → Prop
  | nil : Lsts H [] []
  | cons {b bs p ps} : H b = some (.lst (p.map lnV)) → Lsts H bs ps → Lsts H (b :: bs) (p :: ps)
section
variable {H H' : Hp} {bs : List Addr} {ps : List (List Nat)} {K : PySem.W.Frag}
theorem Lsts.len : ∀ {bs : List Addr} {ps : List (List Nat)}, Lsts H bs ps → bs.length = ps.length
  | _, _, .nil => rfl
  | _, _, .cons _ h => by simp [Lsts.len h]
theorem Lsts.keep : ∀ {bs : List Addr} {ps : List (List Nat)}, Lsts H bs ps → (∀ b ∈ bs, ∀ o, H b = some o → H' b = some o) → Lsts H' bs ps
  | _, _, .nil, _ => .nil
  | _, _, .cons h t, k => .cons (k _ (by simp) _ h) (Lsts.keep t fun b hb => k b (by simp [hb]))
theorem Lsts.same (h : Lsts H bs ps) (s : Same H H') : Lsts H' bs ps := h.keep fun b _ o e => s b o e
theorem Lsts.put {a : Addr} {o : HO} (h : Lsts H bs ps) (ha : a ∉ bs) : Lsts (upd H a o) bs ps := h.keep fun b hb x e => by
  have : b ≠ a := fun q => ha (q ▸ hb)
  rw [upd_ne this]; exact e
theorem Lsts.app : ∀ {bs : List Addr} {ps : List (List Nat)} {b : Addr} {p : List Nat}, Lsts H bs ps → H b = some (.lst (p.map lnV)) → Lsts H (bs ++ [b]) (ps ++ [p])
  | _, _, _, _, .nil, e => .cons e .nil
  | _, _, _, _, .cons h t, e => .cons h (Lsts.app t e)
theorem Lsts.rev : ∀ {bs : List Addr} {ps : List (List Nat)}, Lsts H bs ps → Lsts H bs.reverse ps.reverse
  | _, _, .nil => .nil
  | _, _, .cons h t => by rw [List.reverse_cons, List.reverse_cons]; exact (Lsts.rev t).app h
theorem Lsts.get : ∀ {bs : List Addr} {ps : List (List Nat)} {i : Nat} {b : Addr}, Lsts H bs ps → bs[i]? = some b → ∃ p, ps[i]? = some p ∧ H b = some (.lst (p.map lnV))
  | _, _, 0, _, .cons h _, e => by cases e; exact ⟨_, rfl, h⟩
  | _, _, i + 1, _, .cons _ t, e => Lsts.get (i := i) t e
/-- the last of them -/
theorem Lsts.last : ∀ {ps : List (List Nat)} {bs : List Addr}, Lsts H bs ps → ps = [] ∧ bs = [] ∨ ∃ bs0 b ps0 p, bs = bs0 ++ [b] ∧ ps = ps0 ++ [p] ∧ Lsts H bs0 ps0 ∧ H b = some (.lst (p.map lnV)) := by
  intro ps bs h
  have hr := h.rev
  generalize hb : bs.reverse = rb at hr
  generalize hp : ps.reverse = rp at hr
  cases hr with
  | nil => exact .inl ⟨List.reverse_eq_nil_iff.mp hp, List.reverse_eq_nil_iff.mp hb⟩
  | @cons b bs' p ps' h1 h2 =>
    refine .inr ⟨bs'.reverse, b, ps'.reverse, p, ?_, ?_, h2.rev, h1⟩
    · rw [← List.reverse_cons, ← hb, List.reverse_reverse]
    · rw [← List.reverse_cons, ← hp, List.reverse_reverse]
/-- how they lie, for == -/
def partsD (ps : List (List Nat)) : PyData := .list (ps.map fun p => .list (p.map lnD))
theorem dpa_lns : ∀ p : List Nat, DpAll K H (p.map lnV) (p.map lnD)
  | [] => .nil
  | n :: p => .cons (.int n) (dpa_lns p)
theorem Lsts.dpa : ∀ {bs : List Addr} {ps : List (List Nat)}, Lsts H bs ps → DpAll K H (bs.map V.ref) (ps.map fun p => .list (p.map lnD))
  | _, _, .nil => .nil
  | _, _, .cons h t => .cons (.lst (SqL.of h) (dpa_lns _)) (Lsts.dpa t)
theorem sh_parts (ps : List (List Nat)) : SeqAt.shaped (partsD ps) = true := by
  refine shaped_of (PlA_map fun p _ => PlA_map fun _ _ => rfl) ?_
  have h1 := depthA (f := fun p : List Nat => PyData.list (p.map lnD)) (n := 2) (l := ps) fun p _ => by
    have := depthA (f := lnD) (n := 1) (l := p) fun _ _ => by simp [PyData.depth, lnD]
    simp only [PyData.depth]
    omega
  show PyData.depth (.list _) ≤ 64
  simp only [PyData.depth]
  omega
/-- parts != [] -/
theorem rd_neNil {A p : Addr} {Q : VK} (hA : H A = some (.lst (bs.map V.ref))) (h : Lsts H bs ps) (hp : H p = some (.lst [])) (q : Q (.bl (decide (ps ≠ []))) H) : rNeD K (.ref A) (.ref p) H Q := by
  refine ⟨partsD ps, .list [], .lst (SqL.of hA) h.dpa, .lst (SqL.of hp) .nil, sh_parts ps, by decide, ?_⟩
  have : (!PyData.eqv (partsD ps) (.list [])) = decide (ps ≠ []) := by
    cases ps with
    | nil => rfl
    | cons x l => rfl
  rw [this]
  exact q
theorem rd_ixLast {a : Addr} {xs : List V} {u : V} {Q : VK} (h : H a = some (.lst (xs ++ [u]))) (q : Q u H) : rIxL K (.ref a) (.int (-1)) H Q := by
  refine ⟨a, xs ++ [u], -1, u, rfl, rfl, SqL.of h, ?_, q⟩
  have e : ixN (xs ++ [u]).length (-1) = some xs.length := by
    unfold ixN
    rw [if_neg (by decide), if_pos (by simp; omega)]
    simp
    omega
  unfold atI
  rw [e]
  simp
theorem rd_cat {a b : Addr} {xs ys : List V} {Q : VK} (h1 : H a = some (.lst xs)) (h2 : H b = some (.lst ys)) (hl : xs.length + ys.length ≤ 1000) (q : ∀ p, H p = none → Q (.ref p) (upd H p (.lst (xs ++ ys)))) : rCat (.ref a) (.ref b) H Q :=
  ⟨a, b, xs, ys, rfl, rfl, h1, h2, Nat.le_trans hl (by decide), q⟩
theorem rd_srt {a : Addr} {l : List Nat} {Q : VK} (h : H a = some (.lst (l.map lnV))) (hl : l.length < 64) (q : ∀ p, H p = none → Q (.ref p) (upd H p (.lst ((isrt l).map lnV)))) : rSorted K [.ref a] H Q := by
  refine ⟨a, l.map fun n : Nat => (n : Int), rfl, by rw [← lnV_map]; exact SqL.of h, by rw [List.length_map]; exact hl, fun ns' p hp hs hn => ?_⟩
  rw [sorted_is hp hs, ← lnV_map]
  exact q p hn
theorem rd_ip {f : Int → Int → Int} {i j : Int} {Q : VK} (q : Q (.int (f i j)) H) : ipI f (.int i) (.int j) H Q := ⟨i, j, rfl, rfl, q⟩
theorem rd_augS {to ti te : TE} {tget : V → V → Hp → VK → Prop} {tip : TIp} {tset : TSet} {D : Ends} {σ : St} (q : to σ H fun o H1 => ti σ H1 fun i H2 => tget o i H2 fun x H3 => te σ H3 fun y H4 => tip x y H4 fun z H5 => tset o i z H5 fun H6 => D.nx σ H6) : tAugS to ti te tget tip tset D σ H := q
theorem rd_dput {td ty tv : TE} {D : Ends} {σ : St} (q : tv σ H fun v H1 => td σ H1 fun x H2 => ty σ H2 fun y H3 => ∃ a H4, x = .ref a ∧ DPut H3 a y v H4 ∧ D.nx σ H4) : sDPut td ty tv D σ H := q
theorem rd_din {ty td : TE} {Q : VK} {σ : St} (q : ty σ H fun y H1 => td σ H1 fun x H2 => ∃ a o, x = .ref a ∧ DGet H2 a y o ∧ Q (.bl o.isSome) H2) : tDIn ty td σ H Q := q
theorem rd_dnin {ty td : TE} {Q : VK} {σ : St} (q : ty σ H fun y H1 => td σ H1 fun x H2 => ∃ a o, x = .ref a ∧ DGet H2 a y o ∧ Q (.bl (!o.isSome)) H2) : tDNotIn ty td σ H Q := q
theorem rd_dget {ty td : TE} {Q : VK} {σ : St} (q : td σ H fun x H1 => ty σ H1 fun y H2 => ∃ a v, x = .ref a ∧ DGet H2 a y (some v) ∧ Q v H2) : tDGet td ty σ H Q := q
theorem rd_dget2 {ty td tx : TE} {Q : VK} {σ : St} (q : td σ H fun x H1 => ∃ a, x = .ref a ∧ IsD H1 a ∧ ty σ H1 fun y H2 => tx σ H2 fun z H3 => ∃ o, DGet H3 a y o ∧ Q (o.getD z) H3) : tDGet2 td ty tx σ H Q := q
theorem rd_dnewK {Q : VK} {σ : St} (q : ∀ p, H p = none → Q (.ref p) (upd H p (.dK []))) : tDNewK σ H Q := q
theorem rd_dnewT {Q : VK} {σ : St} (q : ∀ p, H p = none → Q (.ref p) (upd H p (.dT []))) : tDNewT σ H Q := q
/-- the strokes seen, as a dict -/
def seenK (l : List Nat) : List (Key × V) := List.map (fun n : Nat => ((.inl (n : Int) : Key), V.bl true)) l
theorem seen_get (l : List Nat) (n : Nat) : (valV (seenK l) (.inl (n : Int))).isSome = decide (n ∈ l) := by
  rw [← valV_any]
  unfold seenK
  rw [List.any_map]
  by_cases h : n ∈ l
  · rw [decide_eq_true h, List.any_eq_true]
    exact ⟨n, h, by simp⟩
  · rw [decide_eq_false h, List.any_eq_false]
    intro m hm
    simp
    intro e
    have : m = n := by exact_mod_cast e
    rw [this] at hm
    exact h hm
theorem seen_put (l : List Nat) (n : Nat) (h : n ∉ l) : putK (seenK l) (.inl (n : Int)) (.bl true) = seenK (l ++ [n]) := by
  unfold putK
  have := seen_get l n
  rw [← valV_any, decide_eq_false h] at this
  rw [if_neg (by rw [this]; decide)]
  unfold seenK
  rw [List.map_append]
  rfl
end
end Cz

set_option Elab.async false
set_option linter.all false
set_option maxRecDepth 100000
set_option maxHeartbeats 4000000

namespace Cz
open PySem L2
local macro_rules | `(tactic| infer_instance) => `(tactic| with_reducible first
  | refine rd_seq ?_ | refine rd_cons ?_ | refine rd_nil ?_ | refine rd_c ?_ | refine rd_op ?_ | (refine rd_var (v := ?_) ?_ ?_; rotate_left 1; (with_unfolding_all rfl)) | refine rd_un ?_ | refine rd_call ?_ | refine rd_cb ?_ | refine rd_I0 ?_ | refine rd_test ?_ | refine rd_tB ?_ | refine rd_k ?_
  | refine rd_not ?_ | refine rd_and ?_ | refine rd_or ?_ | refine rd_andV ?_ | refine rd_orV ?_ | refine rd_notV ?_ | refine rd_ife ?_ | refine rd_chain ?_ | refine rd_tup ?_ | refine rd_lst ?_ | refine rd_bm0 ?_ | refine rd_bm ?_ | refine rd_sl ?_ | refine rd_nopart ?_ | refine rd_part ?_ | refine rd_i ?_
  | refine rd_next ?_ | refine rd_cont ?_ | refine rd_drop ?_ | refine rd_ret ?_ | refine rd_retN ?_ | refine rd_if ?_ | refine rd_asg ?_ | refine rd_gname ?_ | refine rd_par ?_ | refine rd_par3 ?_ | refine rd_v2 ?_ | refine rd_v3 ?_ | refine rd_gnil ?_ | refine rd_for ?_ | refine rd_lc ?_ | refine rd_yes ?_ | refine rd_iT ?_ | refine rd_iL ?_ | refine rd_iR1 ?_ | refine rd_iR2 ?_ | refine rd_iS ?_ | refine rd_dput ?_ | refine rd_din ?_ | refine rd_dnin ?_ | refine rd_dget ?_ | refine rd_dget2 ?_ | refine rd_dnewK ?_ | refine rd_dnewT ?_ | refine rd_augS ?_ | refine rd_gsub ?_ | refine rd_body ?_ | refine rd_rev ?_ | (refine rd_ifT ?_ ?_; (with_unfolding_all rfl)) | (refine rd_ifF ?_ ?_; (with_unfolding_all rfl)))

theorem Lsts.lastput {H : Hp} {bs0 : List Addr} {b : Addr} {ps0 : List (List Nat)} {q : List Nat} (h : Lsts H bs0 ps0) (hb : b ∉ bs0) : Lsts (upd H b (.lst (q.map lnV))) (bs0 ++ [b]) (ps0 ++ [q]) := (h.put hb).app upd_same
theorem upd_keep {H H0 : Hp} {a : Addr} {o : HO} (s : Same H0 H) (h : H0 a = none) : Same H0 (upd H a o) := fun b x e => by rw [upd_ne (ne_of_none e h)]; exact s b x e
theorem none_of {H0 H' : Hp} {p : Addr} (s : Same H0 H') (h : H' p = none) : H0 p = none := by
  cases z : H0 p with
  | none => rfl
  | some o => have := s _ _ z; rw [this] at h; cases h
structure NInv (H0 : Hp) (A T C rv : Addr) (rl : List V) (s : NS) (bs : List Addr) (H' : Hp) : Prop where
  sm : Same H0 H'
  a : H' A = some (.lst (bs.map V.ref))
  ls : Lsts H' bs s.parts
  t : H' T = some (.dK (seenK s.told))
  c : H' C = some (.lst [.int (s.c0 : Nat), .int (s.c1 : Nat)])
  r : H' rv = some (.lst rl)
  nd : (T :: A :: C :: rv :: bs).Nodup
  nw : ∀ b ∈ T :: A :: C :: bs, H0 b = none
  ne : ∀ p ∈ s.parts, p ≠ []
theorem da_of_lns {H : Hp} : ∀ p : List Nat, Da H (p.map lnV) (p.map lnD)
  | [] => .nil
  | n :: p => .cons (.int n) (da_of_lns p)
theorem nd_ne {b : Addr} {l : List Addr} (h : (b :: l).Nodup) {c : Addr} (hc : c ∈ l) : c ≠ b := fun q => (List.nodup_cons.mp h).1 (q ▸ hc)
section
variable {H0 H' : Hp} {A T C rv : Addr} {rl : List V} {s : NS} {bs : List Addr} {p : Addr} {o : HO}
theorem NInv.apart (N : NInv H0 A T C rv rl s bs H') : (A ≠ T ∧ C ≠ T ∧ rv ≠ T ∧ T ∉ bs) ∧ (C ≠ A ∧ rv ≠ A ∧ A ∉ bs) ∧ (rv ≠ C ∧ C ∉ bs) ∧ rv ∉ bs ∧ bs.Nodup := by
  have nd := N.nd
  have nd0 := (List.nodup_cons.mp nd).2
  have nd1 := (List.nodup_cons.mp nd0).2
  have nd2 := (List.nodup_cons.mp nd1).2
  have nd3 := (List.nodup_cons.mp nd2).2
  exact ⟨⟨nd_ne nd (by simp), nd_ne nd (by simp), nd_ne nd (by simp), fun z => nd_ne nd (by simp [z]) rfl⟩, ⟨nd_ne nd0 (by simp), nd_ne nd0 (by simp), fun z => nd_ne nd0 (by simp [z]) rfl⟩, ⟨nd_ne nd1 (by simp), fun z => nd_ne nd1 (by simp [z]) rfl⟩, fun z => nd_ne nd2 (by simp [z]) rfl, nd3⟩
theorem NInv.alloc (N : NInv H0 A T C rv rl s bs H') (hp : H' p = none) : NInv H0 A T C rv rl s bs (upd H' p o) :=
  have k := same_upd (o := o) hp
  ⟨N.sm.trans k, k _ _ N.a, N.ls.same k, k _ _ N.t, k _ _ N.c, k _ _ N.r, N.nd, N.nw, N.ne⟩
theorem NInv.seen (N : NInv H0 A T C rv rl s bs H') (l : List Nat) : NInv H0 A T C rv rl ⟨s.parts, l, s.c0, s.c1⟩ bs (upd H' T (.dK (seenK l))) := by
  obtain ⟨⟨a1, a2, a3, a4⟩, _⟩ := N.apart
  exact ⟨upd_keep N.sm (N.nw T (by simp)), (upd_ne a1).trans N.a, N.ls.put a4, upd_same, (upd_ne a2).trans N.c, (upd_ne a3).trans N.r, N.nd, N.nw, N.ne⟩
theorem NInv.cnt (N : NInv H0 A T C rv rl s bs H') (x y : Nat) : NInv H0 A T C rv rl ⟨s.parts, s.told, x, y⟩ bs (upd H' C (.lst [.int (x : Nat), .int (y : Nat)])) := by
  obtain ⟨⟨a1, a2, a3, a4⟩, ⟨b1, b2, b3⟩, ⟨c1, c2⟩, d1, d2⟩ := N.apart
  exact ⟨upd_keep N.sm (N.nw C (by simp)), (upd_ne (Ne.symm b1)).trans N.a, N.ls.put c2, (upd_ne (Ne.symm a2)).trans N.t, upd_same, (upd_ne c1).trans N.r, N.nd, N.nw, N.ne⟩
theorem NInv.push (N : NInv H0 A T C rv rl s bs H') {n : Nat} (hq : H' p = none) (h0 : H0 p = none) : NInv H0 A T C rv rl ⟨s.parts ++ [[n]], s.told, s.c0, s.c1⟩ (bs ++ [p]) (upd (upd H' p (.lst [.int n])) A (.lst (bs.map V.ref ++ [.ref p]))) := by
  obtain ⟨⟨a1, a2, a3, a4⟩, ⟨b1, b2, b3⟩, ⟨c1, c2⟩, d1, d2⟩ := N.apart
  have ne : ∀ b o, H' b = some o → p ≠ b := fun b o h z => by subst z; rw [h] at hq; cases hq
  have k := same_upd (o := .lst [.int n]) hq
  have hb : p ∉ bs := fun z => by
    obtain ⟨i, hi⟩ := List.mem_iff_getElem?.mp z
    obtain ⟨_, _, e⟩ := N.ls.get hi
    exact ne p _ e rfl
  have pA := ne _ _ N.a
  refine ⟨upd_keep (N.sm.trans k) (N.nw A (by simp)), by rw [List.map_append]; exact upd_same, ?_, (upd_ne (Ne.symm a1)).trans (k _ _ N.t), (upd_ne b1).trans (k _ _ N.c), (upd_ne b2).trans (k _ _ N.r), ?_, fun b hb => ?_, fun q hq => ?_⟩
  · exact ((N.ls.same k).put b3).app ((upd_ne pA).trans upd_same)
  · have e : T :: A :: C :: rv :: (bs ++ [p]) = (T :: A :: C :: rv :: bs) ++ [p] := by simp
    rw [e, List.nodup_append]
    refine ⟨N.nd, by simp, fun a ha b hb' => ?_⟩
    simp at hb'
    subst hb'
    simp at ha
    rcases ha with rfl | rfl | rfl | rfl | z
    · exact (ne _ _ N.t).symm
    · exact pA.symm
    · exact (ne _ _ N.c).symm
    · exact (ne _ _ N.r).symm
    · exact fun q => hb (q ▸ z)
  · simp at hb
    rcases hb with rfl | rfl | rfl | z | rfl
    · exact N.nw _ (by simp)
    · exact N.nw _ (by simp)
    · exact N.nw _ (by simp)
    · exact N.nw _ (by simp [z])
    · exact h0
  · rcases List.mem_append.mp hq with z | z
    · exact N.ne q z
    · simp at z; subst z; simp
theorem NInv.grow {bs0 : List Addr} {b : Addr} {ps0 : List (List Nat)} {q : List Nat} {n : Nat} (N : NInv H0 A T C rv rl s (bs0 ++ [b]) H') (e : s.parts = ps0 ++ [q]) (h0 : Lsts H' bs0 ps0) :
    NInv H0 A T C rv rl ⟨ps0 ++ [q ++ [n]], s.told, s.c0, s.c1⟩ (bs0 ++ [b]) (upd H' b (.lst (q.map lnV ++ [.int n]))) := by
  obtain ⟨⟨a1, a2, a3, a4⟩, ⟨b1, b2, b3⟩, ⟨c1, c2⟩, d1, d2⟩ := N.apart
  have nb : ∀ x, x ∉ bs0 ++ [b] → x ≠ b := fun x h z => h (by simp [z])
  have hb : b ∉ bs0 := fun z => (List.nodup_append.mp d2).2.2 b z b (by simp) rfl
  refine ⟨upd_keep N.sm (N.nw b (by simp)), (upd_ne (nb _ b3)).trans N.a, ?_, (upd_ne (nb _ a4)).trans N.t, (upd_ne (nb _ c2)).trans N.c, (upd_ne (nb _ d1)).trans N.r, N.nd, N.nw, fun z hz => ?_⟩
  · exact (h0.put hb).app (upd_same.trans (by rw [List.map_append]; rfl))
  · rcases List.mem_append.mp hz with z' | z'
    · exact N.ne z (by rw [e]; simp [z'])
    · simp at z'; subst z'; simp
end
theorem nrun_snoc (r c : Nat) (l : List Nat) (n : Nat) : nrun r c (l ++ [n]) = nstep r c (nrun r c l) n := by unfold nrun; rw [List.foldl_append]; rfl
theorem nadd_len {r n k : Nat} {ps : List (List Nat)} (h : ∀ p ∈ ps, p.length ≤ k) : ∀ p ∈ nadd r ps n, p.length ≤ k + 1 := by
  unfold nadd
  split
  · rename_i p0 e0
    split
    · intro p hp
      rcases List.mem_append.mp hp with q | q
      · exact Nat.le_succ_of_le (h p ((List.dropLast_sublist ps).mem q))
      · simp at q; subst q
        have := h p0 (List.mem_of_getLast? e0)
        simp; omega
    · intro p hp
      rcases List.mem_append.mp hp with q | q
      · exact Nat.le_succ_of_le (h p q)
      · simp at q; subst q; simp
  · intro p hp
    simp at hp; subst hp; simp
theorem nstep_len {r c k n : Nat} {s : NS} (h : ∀ p ∈ s.parts, p.length ≤ k) : ∀ p ∈ (nstep r c s n).parts, p.length ≤ k + 1 := by
  unfold nstep
  split
  · exact nadd_len h
  · exact fun p hp => Nat.le_succ_of_le (h p hp)
theorem nrun_len' (r c : Nat) : ∀ (l : List Nat) (s : NS) (k : Nat), (∀ p ∈ s.parts, p.length ≤ k) → ∀ p ∈ (l.foldl (nstep r c) s).parts, p.length ≤ k + l.length
  | [], s, k, h => h
  | n :: l, s, k, h => fun p hp => by
    have := nrun_len' r c l (nstep r c s n) (k + 1) (nstep_len h) p hp
    simp; omega
theorem nrun_len (r c : Nat) (l : List Nat) : ∀ p ∈ (nrun r c l).parts, p.length ≤ l.length := fun p hp => by
  have := nrun_len' r c l ⟨[], [], 0, 0⟩ 0 (by simp) p hp
  omega
abbrev s_normal_of : Stmt := topS 21
abbrev n_normal_of : List Str := ["rows", "columns", "strokes", "parts", "told", "counts", "line", "sort", "found", "some"]
theorem sc_normal_of : FnScope n_normal_of ["rows", "columns", "strokes"] (defScope s_normal_of) := ⟨rfl, rfl, rfl, by decide +kernel, rfl, by decide +kernel, by decide +kernel⟩

def sp_normal_of (K : PySem.W.Frag) : Sp := fun vs H Q E => ∃ (r c : Nat) (e : Eff) (v : V), vs = [.int r, .int c, v] ∧ Ls H v (e.map lnD) ∧ e.length ≤ 30 ∧ retD H (effD (nrm r c e)) Q
theorem ok_normal_of {P : Program} {w : World} {K : PySem.W.Frag} {mg : Str → Option Value} {base : Heap} {f : Addr} {fd : FuncData} (F : Fun K "normal_of" "normal_of" s_normal_of f fd) (Z : Bl mg) (C : Ct mg)  : FnOk P w K mg base CX0 1 f fd ["rows", "columns", "strokes"] (sp_normal_of K) := by
  refine F.ok (k := 0) sc_normal_of (fun vs H Q E h => ?_) (fun cdv A outer s H vs Q E hr h => ?_)
  · obtain ⟨r, c, e, v, rfl, hv, hl, q⟩ := h
    rfl
  · refine ⟨_, (pss_cons (ps_par3 (i := 3) (j := 4) (l := 5) rfl sc_normal_of.nd rfl rfl rfl (by decide) (by decide) (by decide) rfl rfl rfl (pa_cons (pe_lst pa_nil) (pa_cons pe_dnewK (pa_cons (pe_lst (pa_cons pe_int (pa_cons pe_int pa_nil))) pa_nil))) (by rfl))
    (pss_cons (ps_for PassesOwn.never rfl (pi_list (pe_revL (pv 2))) (pg_name (i := 6) sc_normal_of.nd rfl (.inl rfl))
      (pss_one (ps_if (PW.pt (pw_and (pt_cmp (pc_dnotin (hu_of hr) (pv 6) (pv 4))) (pw_and (pt_cmpR op_lt (pe_ix (kIxL (K := K) rfl) (pv 5) pe_int (fun _ _ => rfl)) (pv 0) (nomark _)) (pw_and1 (pt_cmpR op_lt (pe_ix (kIxL (K := K) rfl) (pv 5) pe_int (fun _ _ => rfl)) (pv 1) (nomark _))))))
        (pss_cons (ps_dput (hu_of hr) (pv 4) (pv 6) pe_bl rfl)
        (pss_cons (ps_set (i := 7) sc_normal_of.nd rfl (.inl rfl) (pe_ifExp (pt_cmpR op_lt (pv 6) (pv 0) (nomark _)) pe_int pe_int))
        (pss_cons (ps_augS (pv 5) (pv 7) get_list pe_int ip_add set_list)
        (pss_one (ps_if (PW.pt (pw_and (pt_cmpR (kNeD (K := K) rfl hr.units) (pv 3) (pe_lst pa_nil) (nomark _)) (pw_and1 (pt_cmpR op_eq (pe_cmpR op_lt (pe_ix (kIxL (K := K) rfl) (pe_ix (kIxL (K := K) rfl) (pv 3) (pe_un un_neg pe_int) (fun _ _ => rfl)) pe_int (fun _ _ => rfl)) (pv 0) (nomark _)) (pe_cmpR op_lt (pv 6) (pv 0) (nomark _)) (nomark _)))))
          (pss_one (ps_expr (pe_bm PySem.F.plainAttrs_list PySem.F.slot_list_append PySem.F.type_list_append mt_append (pe_ix (kIxL (K := K) rfl) (pv 3) (pe_un un_neg pe_int) (fun _ _ => rfl)) (pa_cons (pv 6) pa_nil))))
          (pss_one (ps_expr (pe_bm PySem.F.plainAttrs_list PySem.F.slot_list_append PySem.F.type_list_append mt_append (pv 3) (pa_cons (pe_lst (pa_cons (pv 6) pa_nil)) pa_nil)))))))))
        pss_nil)))
    (pss_cons (ps_set (i := 8) sc_normal_of.nd rfl (.inl rfl) (pe_lst pa_nil))
    (pss_cons (ps_for PassesOwn.never rfl (pi_list (pe_revL (pv 3))) (pg_name (i := 9) sc_normal_of.nd rfl (.inl rfl))
      (pss_one (ps_set (i := 8) sc_normal_of.nd rfl (.inl rfl) (pe_op op_cat (pv 8) (pe_callB cr_sorted (by rfl) Z.srt bt_sorted (pa_cons (pv 9) pa_nil))))))
    (pss_one (ps_ret (pe_callTy call_tuple_of (by rfl) Z.tup bt_tuple (pa_cons (pv 8) pa_nil)))))))), ?_⟩
    clear hr Z C
    obtain ⟨r, c, e, v, rfl, hv, hl, q⟩ := h
    obtain ⟨va, xs, rfl, hva, hxs⟩ := hv
    rw [da_lns hxs] at hva
    clear hxs
    ((try dsimp only); repeat infer_instance)
    refine ⟨by show 0 ≤ _; decide, fun A hA => ?_⟩
    ((try dsimp only); repeat infer_instance)
    intro T hT
    ((try dsimp only); repeat infer_instance)
    refine ⟨by show 2 ≤ _; decide, fun C hC => ?_⟩
    ((try dsimp only); repeat infer_instance)
    have hTA : T ≠ A := fun z => by subst z; rw [upd_same] at hT; cases hT
    have hT0 : H T = none := by rw [upd_ne hTA] at hT; exact hT
    have hCT : C ≠ T := fun z => by subst z; rw [upd_same] at hC; cases hC
    have hCA : C ≠ A := fun z => by subst z; rw [upd_ne hCT, upd_same] at hC; cases hC
    have hC0 : H C = none := by rw [upd_ne hCT, upd_ne hCA] at hC; exact hC
    have S3 : Same H (upd (upd (upd H A (.lst [])) T (.dK [])) C (.lst [.int 0, .int 0])) := ((same_upd hA).trans (same_upd hT)).trans (same_upd hC)
    have eA : upd (upd (upd H A (.lst [])) T (.dK [])) C (.lst [.int 0, .int 0]) A = some (.lst []) := by rw [upd_ne (Ne.symm hCA), upd_ne (Ne.symm hTA)]; exact upd_same
    have eT : upd (upd (upd H A (.lst [])) T (.dK [])) C (.lst [.int 0, .int 0]) T = some (.dK []) := by rw [upd_ne (Ne.symm hCT)]; exact upd_same
    have eC : upd (upd (upd H A (.lst [])) T (.dK [])) C (.lst [.int 0, .int 0]) C = some (.lst [.int 0, .int 0]) := upd_same
    generalize upd (upd (upd H A (.lst [])) T (.dK [])) C (.lst [.int 0, .int 0]) = H3 at *
    refine ⟨va, _, rfl, SqL.of (S3 _ _ hva), fun rv hrv => ?_⟩
    have nR : ∀ b o, H3 b = some o → b ≠ rv := fun b o h z => by subst z; rw [h] at hrv; cases hrv
    have N0 : NInv H A T C rv (e.map lnV).reverse ⟨[], [], 0, 0⟩ [] (upd H3 rv (.lst (e.map lnV).reverse)) := {
      sm := S3.trans (same_upd hrv)
      a := same_upd hrv _ _ eA
      ls := .nil
      t := same_upd hrv _ _ eT
      c := same_upd hrv _ _ eC
      r := upd_same
      nd := by
        have h1 := nR A _ eA
        have h2 := nR T _ eT
        have h3 := nR C _ eC
        simp
        exact ⟨⟨hTA, fun z => hCT z.symm, h2⟩, ⟨fun z => hCA z.symm, h1⟩, h3⟩
      nw := fun b hb => by
        simp at hb
        rcases hb with rfl | rfl | rfl
        · exact hT0
        · exact hA
        · exact hC0
      ne := by simp }
    generalize upd H3 rv (.lst (e.map lnV).reverse) = H4 at *
    clear eA eT eC nR hrv S3
    ((try dsimp only); repeat infer_instance)
    refine ⟨rv, rfl, ⟨_, SqL.of N0.r⟩, ?_⟩
    refine for_list (K := K) (a := rv) (xs := (e.map lnV).reverse) (fun i σ' H' => ∃ bs x y, σ' = [some (.int r), some (.int c), some (.ref va), some (.ref A), some (.ref T), some (.ref C), x, y, none, none] ∧ NInv H A T C rv (e.map lnV).reverse (nrun r c (e.reverse.take i)) bs H' ∧ (nrun r c (e.reverse.take i)).told.length ≤ i ∧ bs.length ≤ i) ⟨[], none, none, rfl, N0, by simp [nrun], by simp⟩ (fun i σ' H' hi hP => ?_) (fun i x σ' H' hi hP => ?_) (fun σ' H' hP => ?_)
    · obtain ⟨bs, x, y, rfl, N, _⟩ := hP
      exact SqL.of N.r
    · obtain ⟨bs, y, z, rfl, N, hsm, hbs⟩ := hP
      rw [← List.map_reverse, List.getElem?_map] at hi
      cases hn : e.reverse[i]? with
      | none => rw [hn] at hi; cases hi
      | some n =>
        rw [hn] at hi
        cases hi
        show gName 6 (V.int (n : Int)) _ _ _
        have hil : i < e.reverse.length := (List.getElem?_eq_some_iff.mp hn).1
        rw [List.length_reverse] at hil
        have estep : nrun r c (e.reverse.take (i + 1)) = nstep r c (nrun r c (e.reverse.take i)) n := by rw [List.take_add_one, hn]; exact nrun_snoc _ _ _ _
        rw [estep]
        have hpl : ∀ p ∈ (nrun r c (e.reverse.take i)).parts, p.length ≤ 30 := fun p hp => by
          have := nrun_len r c (e.reverse.take i) p hp
          rw [List.length_take] at this
          omega
        generalize nrun r c (e.reverse.take i) = s at *
        obtain ⟨ps, told, c0, c1⟩ := s
        dsimp only at hsm
        ((try dsimp only); repeat infer_instance)
        refine ⟨T, _, rfl, DGet.k (k := .inl (n : Int)) N.t, ?_⟩
        rw [seen_get]
        ((try dsimp only); repeat infer_instance)
        by_cases g1 : n ∈ told
        · refine rd_ifF (by rw [decide_eq_true g1]; rfl) ?_
          have e2 : nstep r c ⟨ps, told, c0, c1⟩ n = ⟨ps, told, c0, c1⟩ := by unfold nstep; rw [if_neg (by simp [g1])]
          rw [e2]
          ((try dsimp only); repeat infer_instance)
          exact ⟨bs, _, _, rfl, N, Nat.le_succ_of_le hsm, Nat.le_succ_of_le hbs⟩
        refine rd_ifT (by rw [decide_eq_false g1]; rfl) ?_
        ((try dsimp only); repeat infer_instance)
        refine rd_ixLa N.c (j := 0) rfl ?_
        ((try dsimp only); repeat infer_instance)
        by_cases g2 : c0 < r
        case neg =>
          refine rd_ifF (decide_eq_false (by show ¬ ((c0 : Int) < r); omega)) ?_
          have e2 : nstep r c ⟨ps, told, c0, c1⟩ n = ⟨ps, told, c0, c1⟩ := by unfold nstep; rw [if_neg (by simp [g2])]
          rw [e2]
          ((try dsimp only); repeat infer_instance)
          exact ⟨bs, _, _, rfl, N, Nat.le_succ_of_le hsm, Nat.le_succ_of_le hbs⟩
        refine rd_ifT (decide_eq_true (by show ((c0 : Int) < r); omega)) ?_
        ((try dsimp only); repeat infer_instance)
        refine rd_ixLa N.c (j := 1) rfl ?_
        ((try dsimp only); repeat infer_instance)
        by_cases g3 : c1 < c
        case neg =>
          refine rd_ifF (decide_eq_false (by show ¬ ((c1 : Int) < c); omega)) ?_
          have e2 : nstep r c ⟨ps, told, c0, c1⟩ n = ⟨ps, told, c0, c1⟩ := by unfold nstep; rw [if_neg (by simp [g3])]
          rw [e2]
          ((try dsimp only); repeat infer_instance)
          exact ⟨bs, _, _, rfl, N, Nat.le_succ_of_le hsm, Nat.le_succ_of_le hbs⟩
        refine rd_ifT (decide_eq_true (by show ((c1 : Int) < c); omega)) ?_
        have e2 : nstep r c ⟨ps, told, c0, c1⟩ n = ⟨nadd r ps n, told ++ [n], if n < r then c0 + 1 else c0, if n < r then c1 else c1 + 1⟩ := by unfold nstep; rw [if_pos (by simp [g1, g2, g3])]
        rw [e2]
        dsimp only
        ((try dsimp only); repeat infer_instance)
        refine ⟨T, _, rfl, DPut.k (k := .inl (n : Int)) N.t (by show (seenK told).length < _; unfold seenK; rw [List.length_map]; exact small (n := 100) (by decide) (by omega)), ?_⟩
        rw [seen_put told n g1]
        have N1 := N.seen (told ++ [n])
        dsimp only at N1
        generalize upd H' T (.dK (seenK (told ++ [n]))) = H1 at *
        clear N
        ((try dsimp only); repeat infer_instance)
        by_cases g0 : n < r
        · rw [if_pos g0, if_pos g0]
          refine rd_ifT (decide_eq_true (by omega)) ?_
          ((try dsimp only); repeat infer_instance)
          refine ⟨C, _, 0, .int (c0 : Nat), rfl, rfl, SqL.of N1.c, rfl, ?_⟩
          ((try dsimp only); repeat infer_instance)
          refine rd_ip ?_
          refine rd_set0 (j := 0) N1.c (by simp) ?_
          have N2 := N1.cnt (c0 + 1) c1
          show tIfS _ _ _ _ _ (upd H1 C (.lst [V.int ((c0 + 1 : Nat) : Int), V.int (c1 : Int)]))
          dsimp only at N2
          generalize upd H1 C (.lst [V.int ((c0 + 1 : Nat) : Int), V.int (c1 : Int)]) = H2 at *
          clear N1
          ((try dsimp only); repeat infer_instance)
          refine ⟨by show 0 ≤ _; decide, fun p0 hp0 => ?_⟩
          have N3 := N2.alloc (o := .lst []) hp0
          have e0 : upd H2 p0 (.lst []) p0 = some (.lst []) := upd_same
          generalize upd H2 p0 (.lst []) = H3 at *
          clear N2 hp0
          refine rd_neNil N3.a N3.ls e0 ?_
          ((try dsimp only); repeat infer_instance)
          rcases N3.ls.last with ⟨z1, z2⟩ | ⟨bs0, b, ps0, p, z1, z2, h0, hb⟩
          · dsimp only at z1
            subst z1
            subst z2
            refine rd_ifF rfl ?_
            ((try dsimp only); repeat infer_instance)
            refine ⟨ty_lst N3.a, ?_⟩
            ((try dsimp only); repeat infer_instance)
            refine ⟨by show 1 ≤ _; decide, fun q1 hq1 => ?_⟩
            ((try dsimp only); repeat infer_instance)
            have k := same_upd (o := .lst [.int (n : Int)]) hq1
            refine rd_app (k _ _ N3.a) (by simp) ?_
            ((try dsimp only); repeat infer_instance)
            exact ⟨[q1], _, _, rfl, N3.push hq1 (none_of N3.sm hq1), by simp; omega, by simp⟩
          · dsimp only at z2
            subst z1
            subst z2
            refine rd_ifT (by simp) ?_
            ((try dsimp only); repeat infer_instance)
            refine rd_U ?_
            have ha3 := N3.a
            rw [List.map_append] at ha3
            refine rd_ixLast ha3 ?_
            ((try dsimp only); repeat infer_instance)
            have hpn := N3.ne p (by simp)
            obtain ⟨m, p', rfl⟩ := List.exists_cons_of_ne_nil hpn
            refine rd_ixLa (j := 0) hb rfl ?_
            show tVar _ _ _ _
            ((try dsimp only); repeat infer_instance)
            refine rd_I0 (i := (m : Int)) ?_
            ((try dsimp only); repeat infer_instance)
            refine rd_eq rfl ?_
            refine rd_k ?_
            have nb : bs0.length + 1 ≤ i := by simpa using hbs
            by_cases g : decide (m < r) = decide (n < r)
            · refine rd_ifT (by have : (decide ((m : Int) < r)) = (decide ((n : Int) < r)) := by simpa using g
                                rw [this]; simp) ?_
              ((try dsimp only); repeat infer_instance)
              refine rd_U ?_
              refine rd_ixLast ha3 ?_
              refine ⟨ty_lst hb, ?_⟩
              ((try dsimp only); repeat infer_instance)
              refine rd_app hb (by rw [List.length_map]; have := hpl (m :: p') (by simp); omega) ?_
              ((try dsimp only); repeat infer_instance)
              have e3 : nadd r (ps0 ++ [m :: p']) n = ps0 ++ [(m :: p') ++ [n]] := by unfold nadd; simp; simp at g; exact g
              rw [e3]
              exact ⟨_, _, _, rfl, N3.grow rfl h0, by simp; omega, by simpa using Nat.le_succ_of_le nb⟩
            · refine rd_ifF (by have : ¬ (decide ((m : Int) < r)) = (decide ((n : Int) < r)) := by simpa using g
                                simp only [V.bl.injEq]; exact decide_eq_false this) ?_
              ((try dsimp only); repeat infer_instance)
              refine ⟨ty_lst N3.a, ?_⟩
              ((try dsimp only); repeat infer_instance)
              refine ⟨by show 1 ≤ _; decide, fun q1 hq1 => ?_⟩
              ((try dsimp only); repeat infer_instance)
              have k := same_upd (o := .lst [.int (n : Int)]) hq1
              refine rd_app (k _ _ N3.a) (by simp; omega) ?_
              ((try dsimp only); repeat infer_instance)
              have e3 : nadd r (ps0 ++ [m :: p']) n = (ps0 ++ [m :: p']) ++ [[n]] := by unfold nadd; simp; simp at g; exact fun z => absurd z g
              rw [e3]
              exact ⟨_, _, _, rfl, N3.push hq1 (none_of N3.sm hq1), by simp; omega, by simp; omega⟩
        · rw [if_neg g0, if_neg g0]
          refine rd_ifF (decide_eq_false (by omega)) ?_
          ((try dsimp only); repeat infer_instance)
          refine ⟨C, _, 1, .int (c1 : Nat), rfl, rfl, SqL.of N1.c, rfl, ?_⟩
          ((try dsimp only); repeat infer_instance)
          refine rd_ip ?_
          refine rd_set0 (j := 1) N1.c (by simp) ?_
          have N2 := N1.cnt c0 (c1 + 1)
          show tIfS _ _ _ _ _ (upd H1 C (.lst [V.int (c0 : Int), V.int ((c1 + 1 : Nat) : Int)]))
          dsimp only at N2
          generalize upd H1 C (.lst [V.int (c0 : Int), V.int ((c1 + 1 : Nat) : Int)]) = H2 at *
          clear N1
          ((try dsimp only); repeat infer_instance)
          refine ⟨by show 0 ≤ _; decide, fun p0 hp0 => ?_⟩
          have N3 := N2.alloc (o := .lst []) hp0
          have e0 : upd H2 p0 (.lst []) p0 = some (.lst []) := upd_same
          generalize upd H2 p0 (.lst []) = H3 at *
          clear N2 hp0
          refine rd_neNil N3.a N3.ls e0 ?_
          ((try dsimp only); repeat infer_instance)
          rcases N3.ls.last with ⟨z1, z2⟩ | ⟨bs0, b, ps0, p, z1, z2, h0, hb⟩
          · dsimp only at z1
            subst z1
            subst z2
            refine rd_ifF rfl ?_
            ((try dsimp only); repeat infer_instance)
            refine ⟨ty_lst N3.a, ?_⟩
            ((try dsimp only); repeat infer_instance)
            refine ⟨by show 1 ≤ _; decide, fun q1 hq1 => ?_⟩
            ((try dsimp only); repeat infer_instance)
            have k := same_upd (o := .lst [.int (n : Int)]) hq1
            refine rd_app (k _ _ N3.a) (by simp) ?_
            ((try dsimp only); repeat infer_instance)
            exact ⟨[q1], _, _, rfl, N3.push hq1 (none_of N3.sm hq1), by simp; omega, by simp⟩
          · dsimp only at z2
            subst z1
            subst z2
            refine rd_ifT (by simp) ?_
            ((try dsimp only); repeat infer_instance)
            refine rd_U ?_
            have ha3 := N3.a
            rw [List.map_append] at ha3
            refine rd_ixLast ha3 ?_
            ((try dsimp only); repeat infer_instance)
            have hpn := N3.ne p (by simp)
            obtain ⟨m, p', rfl⟩ := List.exists_cons_of_ne_nil hpn
            refine rd_ixLa (j := 0) hb rfl ?_
            show tVar _ _ _ _
            ((try dsimp only); repeat infer_instance)
            refine rd_I0 (i := (m : Int)) ?_
            ((try dsimp only); repeat infer_instance)
            refine rd_eq rfl ?_
            refine rd_k ?_
            have nb : bs0.length + 1 ≤ i := by simpa using hbs
            by_cases g : decide (m < r) = decide (n < r)
            · refine rd_ifT (by have : (decide ((m : Int) < r)) = (decide ((n : Int) < r)) := by simpa using g
                                rw [this]; simp) ?_
              ((try dsimp only); repeat infer_instance)
              refine rd_U ?_
              refine rd_ixLast ha3 ?_
              refine ⟨ty_lst hb, ?_⟩
              ((try dsimp only); repeat infer_instance)
              refine rd_app hb (by rw [List.length_map]; have := hpl (m :: p') (by simp); omega) ?_
              ((try dsimp only); repeat infer_instance)
              have e3 : nadd r (ps0 ++ [m :: p']) n = ps0 ++ [(m :: p') ++ [n]] := by unfold nadd; simp; simp at g; exact g
              rw [e3]
              exact ⟨_, _, _, rfl, N3.grow rfl h0, by simp; omega, by simpa using Nat.le_succ_of_le nb⟩
            · refine rd_ifF (by have : ¬ (decide ((m : Int) < r)) = (decide ((n : Int) < r)) := by simpa using g
                                simp only [V.bl.injEq]; exact decide_eq_false this) ?_
              ((try dsimp only); repeat infer_instance)
              refine ⟨ty_lst N3.a, ?_⟩
              ((try dsimp only); repeat infer_instance)
              refine ⟨by show 1 ≤ _; decide, fun q1 hq1 => ?_⟩
              ((try dsimp only); repeat infer_instance)
              have k := same_upd (o := .lst [.int (n : Int)]) hq1
              refine rd_app (k _ _ N3.a) (by simp; omega) ?_
              ((try dsimp only); repeat infer_instance)
              have e3 : nadd r (ps0 ++ [m :: p']) n = (ps0 ++ [m :: p']) ++ [[n]] := by unfold nadd; simp; simp at g; exact fun z => absurd z g
              rw [e3]
              exact ⟨_, _, _, rfl, N3.push hq1 (none_of N3.sm hq1), by simp; omega, by simp; omega⟩
    · obtain ⟨bs, x, y, rfl, N, hsm, hbs⟩ := hP
      rw [← List.map_reverse, List.length_map, List.take_length] at N
      have hpl := nrun_len r c e.reverse
      rw [List.length_reverse] at hpl
      rw [List.length_reverse, List.length_map] at hbs
      have en : nrm r c e = ((nrun r c e.reverse).parts.reverse.map isrt).flatten := rfl
      rw [en] at q
      generalize nrun r c e.reverse = s at *
      clear N0
      ((try dsimp only); repeat infer_instance)
      refine ⟨by show 0 ≤ _; decide, fun F0 hF0 => ?_⟩
      have N2 := N.alloc (o := .lst []) hF0
      have eF : upd H' F0 (.lst []) F0 = some (.lst []) := upd_same
      generalize upd H' F0 (.lst []) = H5 at *
      clear N hF0
      ((try dsimp only); repeat infer_instance)
      refine ⟨A, _, rfl, SqL.of N2.a, fun rp hrp => ?_⟩
      have k := same_upd (o := .lst (bs.map V.ref).reverse) hrp
      have s6 := N2.sm.trans k
      have l6 := (N2.ls.same k).rev
      have eF := k _ _ eF
      have eR : upd H5 rp (.lst (bs.map V.ref).reverse) rp = some (.lst (bs.map V.ref).reverse) := upd_same
      generalize upd H5 rp (.lst (bs.map V.ref).reverse) = H6 at *
      clear N2 k hrp
      ((try dsimp only); repeat infer_instance)
      refine ⟨rp, rfl, ⟨_, SqL.of eR⟩, ?_⟩
      rw [← List.map_reverse] at eR
      refine for_list (K := K) (a := rp) (xs := bs.reverse.map V.ref) (fun i σ' H' => ∃ f z, σ' = [some (.int r), some (.int c), some (.ref va), some (.ref A), some (.ref T), some (.ref C), x, y, some (.ref f), z] ∧ Same H6 H' ∧ H' f = some (.lst (((s.parts.reverse.take i).map isrt).flatten.map lnV))) ⟨F0, none, rfl, fun _ _ h => h, eF⟩ (fun i σ' H' hi hP => ?_) (fun i x σ' H' hi hP => ?_) (fun σ' H' hP => ?_)
      · obtain ⟨f, z, rfl, s7, _⟩ := hP
        exact SqL.of (s7 _ _ eR)
      · obtain ⟨f, z, rfl, s7, e7⟩ := hP
        rw [List.getElem?_map] at hi
        cases hb : bs.reverse[i]? with
        | none => rw [hb] at hi; cases hi
        | some b =>
          rw [hb] at hi
          cases hi
          obtain ⟨p, hp, hbp⟩ := l6.get hb
          have hbp := s7 _ _ hbp
          have hp30 := hpl p (by have := List.mem_of_getElem? hp; simpa using this)
          have hfl : (((s.parts.reverse.take i).map isrt).flatten.map lnV).length ≤ 900 := by
            have b1 : ∀ (l : List (List Nat)), (∀ p ∈ l, p.length ≤ 30) → (l.map isrt).flatten.length ≤ 30 * l.length := fun l hl => by
              induction l with
              | nil => simp
              | cons a l ih =>
                have h1 := hl a (by simp)
                have h2 := ih fun p hp => hl p (by simp [hp])
                have h3 := (isrt_perm a).length_eq
                simp only [List.map_cons, List.flatten_cons, List.length_append, List.length_cons, h3]
                omega
            have h1 := b1 (s.parts.reverse.take i) fun p hp => by
              have := hpl p (by have := List.mem_of_mem_take hp; simpa using this)
              omega
            have h2 := l6.len
            rw [List.length_map]
            have h3 : (s.parts.reverse.take i).length ≤ s.parts.reverse.length := by rw [List.length_take]; omega
            rw [← h2, List.length_reverse] at h3
            omega
          ((try dsimp only); repeat infer_instance)
          refine rd_srt hbp (by omega) fun q1 hq1 => ?_
          have k := same_upd (o := .lst ((isrt p).map lnV)) hq1
          refine rd_cat (k _ _ e7) upd_same (by have h3 := (isrt_perm p).length_eq; simp only [List.length_map] at hfl ⊢; omega) fun f2 hf2 => ?_
          ((try dsimp only); repeat infer_instance)
          refine ⟨f2, _, rfl, (s7.trans k).trans (same_upd hf2), ?_⟩
          rw [List.take_add_one, hp]
          simp only [List.map_append, List.flatten_append, Option.toList_some, List.map_cons, List.map_nil, List.flatten_cons, List.flatten_nil, List.append_nil]
          exact upd_same
      · obtain ⟨f, z, rfl, s7, e7⟩ := hP
        have hL := l6.len
        rw [List.length_map, hL, List.take_length] at e7
        generalize (s.parts.reverse.map isrt).flatten = nf at *
        ((try dsimp only); repeat infer_instance)
        refine ⟨f, _, rfl, .inl ⟨SqL.of e7, fun l hl => ?_⟩⟩
        refine q _ _ ((s6.trans s7).trans (same_upd hl)) (.tup upd_same ?_)
        exact da_of_lns _

end Cz

set_option Elab.async false
set_option linter.all false
set_option maxRecDepth 100000
set_option maxHeartbeats 4000000

namespace Cz
open PySem L2
local macro_rules | `(tactic| infer_instance) => `(tactic| with_reducible first
  | refine rd_seq ?_ | refine rd_cons ?_ | refine rd_nil ?_ | refine rd_c ?_ | refine rd_op ?_ | (refine rd_var (v := ?_) ?_ ?_; rotate_left 1; (with_unfolding_all rfl)) | refine rd_un ?_ | refine rd_call ?_ | refine rd_cb ?_ | refine rd_I0 ?_ | refine rd_test ?_ | refine rd_tB ?_ | refine rd_k ?_
  | refine rd_not ?_ | refine rd_and ?_ | refine rd_or ?_ | refine rd_andV ?_ | refine rd_orV ?_ | refine rd_notV ?_ | refine rd_ife ?_ | refine rd_chain ?_ | refine rd_tup ?_ | refine rd_lst ?_ | refine rd_bm0 ?_ | refine rd_bm ?_ | refine rd_sl ?_ | refine rd_nopart ?_ | refine rd_part ?_ | refine rd_i ?_
  | refine rd_next ?_ | refine rd_cont ?_ | refine rd_drop ?_ | refine rd_ret ?_ | refine rd_retN ?_ | refine rd_if ?_ | refine rd_asg ?_ | refine rd_gname ?_ | refine rd_par ?_ | refine rd_par3 ?_ | refine rd_v2 ?_ | refine rd_v3 ?_ | refine rd_gnil ?_ | refine rd_for ?_ | refine rd_lc ?_ | refine rd_yes ?_ | refine rd_iT ?_ | refine rd_iL ?_ | refine rd_iR1 ?_ | refine rd_iR2 ?_ | refine rd_iS ?_ | refine rd_dput ?_ | refine rd_din ?_ | refine rd_dnin ?_ | refine rd_dget ?_ | refine rd_dget2 ?_ | refine rd_dnewK ?_ | refine rd_dnewT ?_ | refine rd_augS ?_ | refine rd_gsub ?_ | refine rd_body ?_ | refine rd_rev ?_ | (refine rd_ifT ?_ ?_; (with_unfolding_all rfl)) | (refine rd_ifF ?_ ?_; (with_unfolding_all rfl)))

theorem lock_same {H H' : Hp} {T : Addr} {u : HO} {od : Obj} (h : H T = some u) (s : Same (upd H T (.frz od u)) H') : Same H (upd H' T u) := fun b o e => by
  by_cases q : b = T
  · subst q; rw [upd_same, ← h]; exact e
  · rw [upd_ne q]; exact s _ _ ((upd_ne q).trans e)
theorem rd_lockE {t : TE} {σ : St} {H : Hp} {Q : VK} {d : Addr} {u : HO} (h : H d = some u) (m : Mut (some u)) (q : ∀ od, t σ (upd H d (.frz od u)) fun v H' => H' d = some (.frz od u) ∧ Q v (upd H' d u)) : tLockE t σ H Q := ⟨d, u, h, m, q⟩
theorem rd_keys {td : TE} {σ : St} {H : Hp} {R : It → Hp → Prop} (q : td σ H fun x H1 => ∃ d o, x = .ref d ∧ ((∃ kvs, H1 d = some (.frz o (.dK kvs)) ∧ R (Itk d o kvs) H1) ∨ ∃ kvs, H1 d = some (.frz o (.dT kvs)) ∧ R (Itkt d o kvs) H1)) : iKeys td σ H R := q
structure LInv (H0 : Hp) (A T rv : Addr) (rl : List V) (ps : List (List Nat)) (us : List Nat) (bs : List Addr) (H' : Hp) : Prop where
  sm : Same H0 H'
  a : H' A = some (.lst (bs.map V.ref))
  ls : Lsts H' bs ps
  t : H' T = some (.dK (seenK us))
  r : H' rv = some (.lst rl)
  nd : (T :: A :: rv :: bs).Nodup
  nw : ∀ b ∈ T :: A :: bs, H0 b = none
  ne : ∀ p ∈ ps, p ≠ []
section
variable {H0 H' : Hp} {A T rv : Addr} {rl : List V} {ps : List (List Nat)} {us : List Nat} {bs : List Addr} {p : Addr} {o : HO}
theorem LInv.apart (N : LInv H0 A T rv rl ps us bs H') : (A ≠ T ∧ rv ≠ T ∧ T ∉ bs) ∧ (rv ≠ A ∧ A ∉ bs) ∧ rv ∉ bs ∧ bs.Nodup := by
  have nd := N.nd
  have nd0 := (List.nodup_cons.mp nd).2
  have nd1 := (List.nodup_cons.mp nd0).2
  have nd2 := (List.nodup_cons.mp nd1).2
  exact ⟨⟨nd_ne nd (by simp), nd_ne nd (by simp), fun z => nd_ne nd (by simp [z]) rfl⟩, ⟨nd_ne nd0 (by simp), fun z => nd_ne nd0 (by simp [z]) rfl⟩, fun z => nd_ne nd1 (by simp [z]) rfl, nd2⟩
theorem LInv.keep {H2 : Hp} (N : LInv H0 A T rv rl ps us bs H') (k : Same H' H2) : LInv H0 A T rv rl ps us bs H2 :=
  ⟨N.sm.trans k, k _ _ N.a, N.ls.same k, k _ _ N.t, k _ _ N.r, N.nd, N.nw, N.ne⟩
theorem LInv.seen (N : LInv H0 A T rv rl ps us bs H') (l : List Nat) : LInv H0 A T rv rl ps l bs (upd H' T (.dK (seenK l))) := by
  obtain ⟨⟨a1, a3, a4⟩, _⟩ := N.apart
  exact ⟨upd_keep N.sm (N.nw T (by simp)), (upd_ne a1).trans N.a, N.ls.put a4, upd_same, (upd_ne a3).trans N.r, N.nd, N.nw, N.ne⟩
theorem LInv.fresh (N : LInv H0 A T rv rl ps us bs H') (h : H' p = none) : p ≠ T ∧ p ≠ A ∧ p ≠ rv ∧ p ∉ bs ∧ H0 p = none := by
  have ne : ∀ b o, H' b = some o → p ≠ b := fun b o e z => by subst z; rw [e] at h; cases h
  refine ⟨ne _ _ N.t, ne _ _ N.a, ne _ _ N.r, fun z => ?_, none_of N.sm h⟩
  obtain ⟨i, hi⟩ := List.mem_iff_getElem?.mp z
  obtain ⟨_, _, e⟩ := N.ls.get hi
  exact ne p _ e rfl
/-- a new first part, in a new list -/
theorem LInv.push {n : Nat} {l1 A' : Addr} (N : LInv H0 A T rv rl ps us bs H') (h1 : H' l1 = some (.lst [.int n])) (f1 : l1 ≠ T ∧ l1 ≠ A ∧ l1 ≠ rv ∧ l1 ∉ bs ∧ H0 l1 = none) (h2 : H' A' = none) : LInv H0 A' T rv rl ([n] :: ps) us (l1 :: bs) (upd H' A' (.lst (.ref l1 :: bs.map V.ref))) := by
  obtain ⟨⟨a1, a3, a4⟩, ⟨b2, b3⟩, d1, d2⟩ := N.apart
  obtain ⟨g1, g2, g3, g4, g5⟩ := N.fresh h2
  have gl : l1 ≠ A' := fun z => by subst z; rw [h1] at h2; cases h2
  have k := same_upd (o := .lst (.ref l1 :: bs.map V.ref)) h2
  refine ⟨N.sm.trans k, upd_same, .cons (k _ _ h1) (N.ls.same k), k _ _ N.t, k _ _ N.r, ?_, fun b hb => ?_, fun q hq => ?_⟩
  · simp
    exact ⟨⟨fun z => g1 z.symm, fun z => a3 z.symm, fun z => f1.1 z.symm, a4⟩, ⟨g3, fun z => gl z.symm, g4⟩, ⟨fun z => f1.2.2.1 z.symm, d1⟩, f1.2.2.2.1, d2⟩
  · simp at hb
    rcases hb with rfl | rfl | rfl | z
    · exact N.nw _ (by simp)
    · exact g5
    · exact f1.2.2.2.2
    · exact N.nw _ (by simp [z])
  · rcases List.mem_cons.mp hq with rfl | z
    · simp
    · exact N.ne q z
/-- the first part anew -/
theorem LInv.swap {b q : Addr} {p p' : List Nat} {ps : List (List Nat)} (N : LInv H0 A T rv rl (p :: ps) us (b :: bs) H') (h : Lsts H' bs ps) (h1 : H' q = some (.lst (p'.map lnV))) (f1 : q ≠ T ∧ q ≠ A ∧ q ≠ rv ∧ q ∉ b :: bs ∧ H0 q = none) (hp : p' ≠ []) : LInv H0 A T rv rl (p' :: ps) us (q :: bs) (upd H' A (.lst (.ref q :: bs.map V.ref))) := by
  obtain ⟨⟨a1, a3, a4⟩, ⟨b2, b3⟩, d1, d2⟩ := N.apart
  simp only [List.mem_cons, not_or] at a4 b3 d1 f1
  have d3 := (List.nodup_cons.mp d2).2
  refine ⟨upd_keep N.sm (N.nw A (by simp)), upd_same, .cons ((upd_ne f1.2.1).trans h1) (h.put b3.2), (upd_ne (Ne.symm a1)).trans N.t, (upd_ne b2).trans N.r, ?_, fun c hb => ?_, fun c hq => ?_⟩
  · simp
    exact ⟨⟨fun z => a1 z.symm, fun z => a3 z.symm, fun z => f1.1 z.symm, a4.2⟩, ⟨fun z => b2 z.symm, fun z => f1.2.1 z.symm, b3.2⟩, ⟨fun z => f1.2.2.1 z.symm, d1.2⟩, f1.2.2.2.1.2, d3⟩
  · simp at hb
    rcases hb with rfl | rfl | rfl | z
    · exact N.nw _ (by simp)
    · exact N.nw _ (by simp)
    · exact f1.2.2.2.2
    · exact N.nw _ (by simp [z])
  · rcases List.mem_cons.mp hq with rfl | z
    · exact hp
    · exact N.ne c (by simp [z])
end
theorem lrun_snoc (r c : Nat) (l : List Nat) (n : Nat) : lrun r c (l ++ [n]) = lstep r c (lrun r c l) n := by unfold lrun; rw [List.foldl_append]; rfl
/-- the seen ones that f keeps -/
theorem keep_len (us : List Nat) (f : Nat → Bool) : ((List.range us.length).filterMap fun i => match us[i]? with | some n => if f n = true then some (PyData.int (n : Int)) else none | none => none).length = (us.filter f).length := by
  have e : (List.range us.length).filterMap (fun i => match us[i]? with | some n => if f n = true then some (PyData.int (n : Int)) else none | none => none) = us.filterMap fun n => if f n = true then some (PyData.int (n : Int)) else none := by
    induction us with
    | nil => rfl
    | cons n us ih =>
      rw [List.length_cons, List.range_succ_eq_map, List.filterMap_cons, List.filterMap_map, List.filterMap_cons]
      simp only [List.getElem?_cons_zero]
      have : ((fun i => match (n :: us)[i]? with | some n => if f n = true then some (PyData.int (n : Int)) else none | none => none) ∘ Nat.succ) = fun i => match us[i]? with | some n => if f n = true then some (PyData.int (n : Int)) else none | none => none := by
        funext i
        simp
      rw [this, ih]
  rw [e]
  clear e
  induction us with
  | nil => rfl
  | cons n us ih =>
    rw [List.filterMap_cons, List.filter_cons]
    cases f n <;> simp [ih]
theorem ladd_len {r n k : Nat} {ps : List (List Nat)} (h : ∀ p ∈ ps, p.length ≤ k) : ∀ p ∈ ladd r ps n, p.length ≤ k + 1 := by
  unfold ladd
  split
  · rename_i p0 t0
    split
    · intro p hp
      rcases List.mem_cons.mp hp with q | q
      · subst q
        have := (isrt_perm (p0 ++ [n])).length_eq
        have h1 := h p0 (by simp)
        rw [this]
        simp; omega
      · exact Nat.le_succ_of_le (h p (by simp [q]))
    · intro p hp
      rcases List.mem_cons.mp hp with q | q
      · subst q; simp
      · exact Nat.le_succ_of_le (h p q)
  · intro p hp
    simp at hp; subst hp; simp
theorem lstep_len {r c k n : Nat} {s : List (List Nat) × List Nat} (h : ∀ p ∈ s.1, p.length ≤ k) : ∀ p ∈ (lstep r c s n).1, p.length ≤ k + 1 := by
  unfold lstep
  split
  · exact ladd_len h
  · exact fun p hp => Nat.le_succ_of_le (h p hp)
theorem lrun_len' (r c : Nat) : ∀ (l : List Nat) (s : List (List Nat) × List Nat) (k : Nat), (∀ p ∈ s.1, p.length ≤ k) → ∀ p ∈ (l.foldl (lstep r c) s).1, p.length ≤ k + l.length
  | [], s, k, h => h
  | n :: l, s, k, h => fun p hp => by
    have := lrun_len' r c l (lstep r c s n) (k + 1) (lstep_len h) p hp
    simp; omega
theorem lrun_len (r c : Nat) (l : List Nat) : ∀ p ∈ (lrun r c l).1, p.length ≤ l.length := fun p hp => by
  have := lrun_len' r c l ([], []) 0 (by simp) p hp
  omega
abbrev s__law_normal : Stmt := topS 57
abbrev n__law_normal : List Str := ["_law_high", "_law_wide", "_law_lines", "_law_parts", "_law_used", "_law_line", "_law_rows", "_law_columns", "_law_found", "_law_some", "_law_one"]
theorem sc__law_normal : FnScope n__law_normal ["_law_high", "_law_wide", "_law_lines"] (defScope s__law_normal) := ⟨rfl, rfl, rfl, by decide +kernel, rfl, by decide +kernel, by decide +kernel⟩

def sp__law_normal (K : PySem.W.Frag) : Sp := fun vs H Q E => ∃ (r c : Nat) (e : Eff) (v : V), vs = [.int r, .int c, v] ∧ Ls H v (e.map lnD) ∧ e.length ≤ 30 ∧ retD H (effD (lnrm r c e)) Q
theorem ok__law_normal {P : Program} {w : World} {K : PySem.W.Frag} {mg : Str → Option Value} {base : Heap} {f : Addr} {fd : FuncData} (F : Fun K "_law_normal" "_law_normal" s__law_normal f fd) (Z : Bl mg) (C : Ct mg)  : FnOk P w K mg base CX0 1 f fd ["_law_high", "_law_wide", "_law_lines"] (sp__law_normal K) := by
  refine F.ok (k := 0) sc__law_normal (fun vs H Q E h => ?_) (fun cdv A outer s H vs Q E hr h => ?_)
  · obtain ⟨r, c, e, v, rfl, hv, hl, q⟩ := h
    rfl
  · refine ⟨_, (pss_cons (ps_par (i := 3) (j := 4) rfl sc__law_normal.nd rfl rfl (by decide) rfl rfl (pa_cons (pe_lst pa_nil) (pa_cons pe_dnewK pa_nil)) (by rfl))
    (pss_cons (ps_for PassesOwn.never rfl (pi_list (pe_revL (pv 2))) (pg_name (i := 5) sc__law_normal.nd rfl (.inl rfl))
      (pss_cons (ps_par (i := 6) (j := 7) rfl sc__law_normal.nd rfl rfl (by decide) rfl rfl (pa_cons (pe_callB (kLen (K := K) rfl) (by rfl) Z.len bt_len (pa_cons (pe_lock (pe_lc (own := [("_law_one", 10)]) rfl sc__law_normal.nd (pi_keys (pv 4)) (blkOk_by (N := n__law_normal) (sc := (defScope s__law_normal)) (by decide +kernel)) (fun _ _ _ _ _ => (pg_name (i := 10) sc__law_normal.nd rfl (.inl rfl) (.inr rfl))) (fun _ _ _ _ _ => (pts_one (pt_cmpR op_lt (pv 10) (pv 0) (nomark _)))) (fun _ _ _ _ _ => (pv 10)))) pa_nil)) (pa_cons (pe_callB (kLen (K := K) rfl) (by rfl) Z.len bt_len (pa_cons (pe_lock (pe_lc (own := [("_law_one", 10)]) rfl sc__law_normal.nd (pi_keys (pv 4)) (blkOk_by (N := n__law_normal) (sc := (defScope s__law_normal)) (by decide +kernel)) (fun _ _ _ _ _ => (pg_name (i := 10) sc__law_normal.nd rfl (.inl rfl) (.inr rfl))) (fun _ _ _ _ _ => (pts_one (pt_cmpR op_ge (pv 10) (pv 0) (nomark _)))) (fun _ _ _ _ _ => (pv 10)))) pa_nil)) pa_nil)) (by rfl))
      (pss_one (ps_if (PW.pt (pw_and (pt_cmp (pc_dnotin (hu_of hr) (pv 5) (pv 4))) (pw_and (pt_cmpR op_lt (pv 6) (pv 0) (nomark _)) (pw_and1 (pt_cmpR op_lt (pv 7) (pv 1) (nomark _))))))
        (pss_cons (ps_dput (hu_of hr) (pv 4) (pv 5) pe_bl rfl)
        (pss_one (ps_if (PW.pt (pw_and (pt_cmpR (kNeD (K := K) rfl hr.units) (pv 3) (pe_lst pa_nil) (nomark _)) (pw_and1 (pt_cmpR op_eq (pe_cmpR op_lt (pe_ix (kIxL (K := K) rfl) (pe_ix (kIxL (K := K) rfl) (pv 3) pe_int (fun _ _ => rfl)) pe_int (fun _ _ => rfl)) (pv 0) (nomark _)) (pe_cmpR op_lt (pv 5) (pv 0) (nomark _)) (nomark _)))))
          (pss_one (ps_asg (pe_callB cr_sorted (by rfl) Z.srt bt_sorted (pa_cons (pe_op op_cat (pe_ix (kIxL (K := K) rfl) (pv 3) pe_int (fun _ _ => rfl)) (pe_lst (pa_cons (pv 5) pa_nil))) pa_nil)) (pg_sub (pv 3) pe_int set_list)))
          (pss_one (ps_set (i := 3) sc__law_normal.nd rfl (.inl rfl) (pe_op op_cat (pe_lst (pa_cons (pe_lst (pa_cons (pv 5) pa_nil)) pa_nil)) (pv 3)))))))
        pss_nil))))
    (pss_cons (ps_set (i := 8) sc__law_normal.nd rfl (.inl rfl) (pe_lst pa_nil))
    (pss_cons (ps_for PassesOwn.never rfl (pi_list (pv 3)) (pg_name (i := 9) sc__law_normal.nd rfl (.inl rfl))
      (pss_one (ps_set (i := 8) sc__law_normal.nd rfl (.inl rfl) (pe_op op_cat (pv 8) (pv 9)))))
    (pss_one (ps_ret (pe_callTy call_tuple_of (by rfl) Z.tup bt_tuple (pa_cons (pv 8) pa_nil)))))))), ?_⟩
    clear hr Z C
    obtain ⟨r, c, e, v, rfl, hv, hl, q⟩ := h
    obtain ⟨va, xs, rfl, hva, hxs⟩ := hv
    rw [da_lns hxs] at hva
    clear hxs
    ((try dsimp only); repeat infer_instance)
    refine ⟨by show 0 ≤ _; decide, fun A hA => ?_⟩
    ((try dsimp only); repeat infer_instance)
    intro T hT
    ((try dsimp only); repeat infer_instance)
    have hTA : T ≠ A := fun z => by subst z; rw [upd_same] at hT; cases hT
    have hT0 : H T = none := by rw [upd_ne hTA] at hT; exact hT
    have S3 : Same H (upd (upd H A (.lst [])) T (.dK [])) := (same_upd hA).trans (same_upd hT)
    have eA : upd (upd H A (.lst [])) T (.dK []) A = some (.lst []) := by rw [upd_ne (Ne.symm hTA)]; exact upd_same
    have eT : upd (upd H A (.lst [])) T (.dK []) T = some (.dK []) := upd_same
    generalize upd (upd H A (.lst [])) T (.dK []) = H3 at *
    refine ⟨va, _, rfl, SqL.of (S3 _ _ hva), fun rv hrv => ?_⟩
    have nR : ∀ b o, H3 b = some o → b ≠ rv := fun b o h z => by subst z; rw [h] at hrv; cases hrv
    have N0 : LInv H A T rv (e.map lnV).reverse [] [] [] (upd H3 rv (.lst (e.map lnV).reverse)) := {
      sm := S3.trans (same_upd hrv)
      a := same_upd hrv _ _ eA
      ls := .nil
      t := same_upd hrv _ _ eT
      r := upd_same
      nd := by
        have h1 := nR A _ eA
        have h2 := nR T _ eT
        simp
        exact ⟨⟨hTA, h2⟩, h1⟩
      nw := fun b hb => by
        simp at hb
        rcases hb with rfl | rfl
        · exact hT0
        · exact hA
      ne := by simp }
    generalize upd H3 rv (.lst (e.map lnV).reverse) = H4 at *
    clear eA eT nR hrv S3 hA hT hTA
    ((try dsimp only); repeat infer_instance)
    refine ⟨rv, rfl, ⟨_, SqL.of N0.r⟩, ?_⟩
    refine for_list (K := K) (a := rv) (xs := (e.map lnV).reverse) (fun i σ' H' => ∃ A bs x y z, σ' = [some (.int r), some (.int c), some (.ref va), some (.ref A), some (.ref T), x, y, z, none, none, none] ∧ LInv H A T rv (e.map lnV).reverse (lrun r c (e.reverse.take i)).1 (lrun r c (e.reverse.take i)).2 bs H' ∧ (lrun r c (e.reverse.take i)).2.length ≤ i ∧ bs.length ≤ i) ⟨A, [], none, none, none, rfl, N0, by simp [lrun], by simp⟩ (fun i σ' H' hi hP => ?_) (fun i x σ' H' hi hP => ?_) (fun σ' H' hP => ?_)
    · obtain ⟨A, bs, x, y, z, rfl, N, _⟩ := hP
      exact SqL.of N.r
    · obtain ⟨A, bs, y, z, w, rfl, N, hsm, hbs⟩ := hP
      rw [← List.map_reverse, List.getElem?_map] at hi
      cases hn : e.reverse[i]? with
      | none => rw [hn] at hi; cases hi
      | some n =>
        rw [hn] at hi
        cases hi
        show gName 5 (V.int (n : Int)) _ _ _
        have hil : i < e.reverse.length := (List.getElem?_eq_some_iff.mp hn).1
        rw [List.length_reverse] at hil
        have estep : lrun r c (e.reverse.take (i + 1)) = lstep r c (lrun r c (e.reverse.take i)) n := by rw [List.take_add_one, hn]; exact lrun_snoc _ _ _ _
        rw [estep]
        clear estep
        have hpl : ∀ p ∈ (lrun r c (e.reverse.take i)).1, p.length ≤ 30 := fun p hp => by
          have := lrun_len r c (e.reverse.take i) p hp
          rw [List.length_take] at this
          omega
        generalize lrun r c (e.reverse.take i) = s at *
        obtain ⟨ps, us⟩ := s
        dsimp only at hsm N
        ((try dsimp only); repeat infer_instance)
        refine rd_lockE N.t True.intro fun od => ?_
        refine rd_lc ?_
        refine rd_keys ?_
        ((try dsimp only); repeat infer_instance)
        refine ⟨T, od, rfl, .inl ⟨_, upd_same, ?_⟩⟩
        refine lcW walk_keys (fun H9 s => s _ _ upd_same) (fun i => match us[i]? with | some n => if decide (n < r) = true then some (PyData.int (n : Int)) else none | none => none) (fun i x H1 H9 hi s hY => ⟨by rw [hY.1]; exact sameR _, fun R Y hR hY2 => ?_⟩) (by show (seenK us).length ≤ _; unfold seenK; rw [List.length_map]; omega) (fun D1 H6 hD s6 hL => ?_)
        · obtain ⟨rfl, k, v, hk, rfl⟩ := hY
          unfold seenK at hk
          rw [List.getElem?_map] at hk
          cases hm : us[i]? with
          | none => rw [hm] at hk; cases hk
          | some m =>
            rw [hm] at hk
            cases hk
            show gName 10 (V.int (m : Int)) _ _ _
            ((try dsimp only); repeat infer_instance)
            refine ⟨rfl, ?_⟩
            ((try dsimp only); repeat infer_instance)
            rw [hm] at hR hY2
            dsimp only at hR hY2
            by_cases g : m < r
            · rw [decide_eq_true g] at hY2
              rw [if_pos (decide_eq_true (by omega))]
              ((try dsimp only); repeat infer_instance)
              exact hY2 _ (if_pos rfl) _ _ (sameR _) (.int _)
            · rw [decide_eq_false g] at hR
              rw [if_neg (by simp; omega)]
              exact hR (if_neg (by decide)) _ (sameR _)
        · refine ⟨s6 _ _ upd_same, ?_⟩
          have k := lock_same N.t s6
          have N5 := N.keep k
          have hL2 : Ls (upd H6 T (.dK (seenK us))) (.ref D1) ((List.range (seenK us).length).filterMap fun i => match us[i]? with | some n => if decide (n < r) = true then some (PyData.int (n : Int)) else none | none => none) := by
            obtain ⟨a, xs, e, h1, h2⟩ := hL
            cases e
            have hne : D1 ≠ T := fun z => by subst z; rw [upd_same] at hD; cases hD
            exact ⟨D1, xs, rfl, (upd_ne hne).trans h1, h2.up (Tk.put fun ys e => by have := s6 _ _ upd_same; rw [this] at e; cases e)⟩
          generalize upd H6 T (.dK (seenK us)) = H5 at *
          ((try dsimp only); repeat infer_instance)
          refine rd_lenL hL2 ?_
          have el : (seenK us).length = us.length := by unfold seenK; rw [List.length_map]
          rw [el, keep_len us fun n => decide (n < r)]
          ((try dsimp only); repeat infer_instance)
          refine rd_lockE N5.t True.intro fun od => ?_
          refine rd_lc ?_
          refine rd_keys ?_
          ((try dsimp only); repeat infer_instance)
          refine ⟨T, od, rfl, .inl ⟨_, upd_same, ?_⟩⟩
          refine lcW walk_keys (fun H9 s => s _ _ upd_same) (fun i => match us[i]? with | some n => if decide (r ≤ n) = true then some (PyData.int (n : Int)) else none | none => none) (fun i x H1 H9 hi s hY => ⟨by rw [hY.1]; exact sameR _, fun R Y hR hY2 => ?_⟩) (by show (seenK us).length ≤ _; unfold seenK; rw [List.length_map]; omega) (fun D2 H8 hD s6 hL => ?_)
          · obtain ⟨rfl, k, v, hk, rfl⟩ := hY
            unfold seenK at hk
            rw [List.getElem?_map] at hk
            cases hm : us[i]? with
            | none => rw [hm] at hk; cases hk
            | some m =>
              rw [hm] at hk
              cases hk
              show gName 10 (V.int (m : Int)) _ _ _
              ((try dsimp only); repeat infer_instance)
              refine ⟨rfl, ?_⟩
              ((try dsimp only); repeat infer_instance)
              rw [hm] at hR hY2
              dsimp only at hR hY2
              by_cases g : r ≤ m
              · rw [decide_eq_true g] at hY2
                rw [if_pos (decide_eq_true (by omega))]
                ((try dsimp only); repeat infer_instance)
                exact hY2 _ (if_pos rfl) _ _ (sameR _) (.int _)
              · rw [decide_eq_false g] at hR
                rw [if_neg (by simp; omega)]
                exact hR (if_neg (by decide)) _ (sameR _)
          · refine ⟨s6 _ _ upd_same, ?_⟩
            have k := lock_same N5.t s6
            have N7 := N5.keep k
            have hL2 : Ls (upd H8 T (.dK (seenK us))) (.ref D2) ((List.range (seenK us).length).filterMap fun i => match us[i]? with | some n => if decide (r ≤ n) = true then some (PyData.int (n : Int)) else none | none => none) := by
              obtain ⟨a, xs, e, h1, h2⟩ := hL
              cases e
              have hne : D2 ≠ T := fun z => by subst z; rw [upd_same] at hD; cases hD
              exact ⟨D2, xs, rfl, (upd_ne hne).trans h1, h2.up (Tk.put fun ys e => by have := s6 _ _ upd_same; rw [this] at e; cases e)⟩
            generalize upd H8 T (.dK (seenK us)) = H7 at *
            ((try dsimp only); repeat infer_instance)
            refine rd_lenL hL2 ?_
            have el : (seenK us).length = us.length := by unfold seenK; rw [List.length_map]
            rw [el, keep_len us fun n => decide (r ≤ n)]
            ((try dsimp only); repeat infer_instance)
            refine ⟨T, _, rfl, DGet.k (k := .inl (n : Int)) N7.t, ?_⟩
            rw [seen_get]
            ((try dsimp only); repeat infer_instance)
            clear N5 k hD s6 hL hL2
            generalize hx : (us.filter fun n => decide (n < r)).length = c0 at *
            generalize hy : (us.filter fun n => decide (r ≤ n)).length = c1 at *
            have skip : ¬ (n ∉ us ∧ c0 < r ∧ c1 < c) → lstep r c (ps, us) n = (ps, us) := fun h => by
              unfold lstep
              rw [hx, hy, if_neg (by simp; intro a b; exact Nat.le_of_not_lt fun z => h ⟨a, b, z⟩)]
            by_cases g1 : n ∈ us
            · refine rd_ifF (by rw [decide_eq_true g1]; rfl) ?_
              rw [skip (fun z => z.1 g1)]
              ((try dsimp only); repeat infer_instance)
              exact ⟨A, bs, _, _, _, rfl, N7, Nat.le_succ_of_le hsm, Nat.le_succ_of_le hbs⟩
            refine rd_ifT (by rw [decide_eq_false g1]; rfl) ?_
            ((try dsimp only); repeat infer_instance)
            by_cases g2 : c0 < r
            case neg =>
              refine rd_ifF (decide_eq_false (by omega)) ?_
              rw [skip (fun z => g2 z.2.1)]
              ((try dsimp only); repeat infer_instance)
              exact ⟨A, bs, _, _, _, rfl, N7, Nat.le_succ_of_le hsm, Nat.le_succ_of_le hbs⟩
            refine rd_ifT (decide_eq_true (by omega)) ?_
            ((try dsimp only); repeat infer_instance)
            by_cases g3 : c1 < c
            case neg =>
              refine rd_ifF (decide_eq_false (by omega)) ?_
              rw [skip (fun z => g3 z.2.2)]
              ((try dsimp only); repeat infer_instance)
              exact ⟨A, bs, _, _, _, rfl, N7, Nat.le_succ_of_le hsm, Nat.le_succ_of_le hbs⟩
            refine rd_ifT (decide_eq_true (by omega)) ?_
            have e2 : lstep r c (ps, us) n = (ladd r ps n, us ++ [n]) := by unfold lstep; rw [hx, hy, if_pos (by simp [g1, g2, g3])]
            rw [e2]
            clear e2 skip
            dsimp only
            ((try dsimp only); repeat infer_instance)
            refine ⟨T, _, rfl, DPut.k (k := .inl (n : Int)) N7.t (by show (seenK us).length < _; rw [el]; exact small (n := 100) (by decide) (by omega)), ?_⟩
            rw [seen_put us n g1]
            have N1 := N7.seen (us ++ [n])
            generalize upd H7 T (.dK (seenK (us ++ [n]))) = H1 at *
            clear N7
            have hus : (us ++ [n]).length ≤ i + 1 := by simp; omega
            ((try dsimp only); repeat infer_instance)
            refine ⟨by show 0 ≤ _; decide, fun p0 hp0 => ?_⟩
            have N3 := N1.keep (same_upd (o := .lst []) hp0)
            have e0 : upd H1 p0 (.lst []) p0 = some (.lst []) := upd_same
            generalize upd H1 p0 (.lst []) = H3 at *
            clear N1 hp0
            refine rd_neNil N3.a N3.ls e0 ?_
            ((try dsimp only); repeat infer_instance)
            have newpart : ∀ (σ : St) (D : Ends), σ[5]? = some (some (.int (n : Int))) → σ[3]? = some (some (.ref A)) → (∀ l1 A' H9, LInv H A' T rv (e.map lnV).reverse ([n] :: ps) (us ++ [n]) (l1 :: bs) H9 → D.nx (σ.set 3 (some (.ref A'))) H9) → tAsg (tOp rCat (tLst (tCons (tLst (tCons (tVar 5) tNil)) tNil)) (tVar 3)) (gName 3) D σ H3 := fun σ D h5 h3 hq => by
              ((try dsimp only); repeat infer_instance)
              refine rd_var h5 ?_
              ((try dsimp only); repeat infer_instance)
              refine ⟨by show 1 ≤ _; decide, fun l1 hl1 => ?_⟩
              have k1 := same_upd (o := .lst [.int (n : Int)]) hl1
              have N4 := N3.keep k1
              have f1 := N3.fresh hl1
              have e1 : upd H3 l1 (.lst [.int (n : Int)]) l1 = some (.lst [.int (n : Int)]) := upd_same
              generalize upd H3 l1 (.lst [.int (n : Int)]) = H4 at *
              ((try dsimp only); repeat infer_instance)
              refine ⟨by show 1 ≤ _; decide, fun l2 hl2 => ?_⟩
              have k2 := same_upd (o := .lst [.ref l1]) hl2
              have N5 := N4.keep k2
              have e1 := k2 _ _ e1
              have e2 : upd H4 l2 (.lst [.ref l1]) l2 = some (.lst [.ref l1]) := upd_same
              generalize upd H4 l2 (.lst [.ref l1]) = H5 at *
              refine rd_var h3 ?_
              refine rd_cat e2 N5.a (by rw [List.length_map]; simp; omega) fun A' hA' => ?_
              ((try dsimp only); repeat infer_instance)
              exact hq _ _ _ (N5.push e1 f1 hA')
            cases hls : ps with
            | nil =>
              refine rd_ifF rfl ?_
              subst hls
              refine newpart _ _ rfl rfl fun l1 A' H9 N9 => ?_
              ((try dsimp only); repeat infer_instance)
              exact ⟨A', _, _, _, _, rfl, N9, hus, by simp; omega⟩
            | cons p0' ps' =>
              refine rd_ifT rfl ?_
              subst hls
              have hl := N3.ls
              generalize hbs' : bs = bs' at hl
              cases hl with
              | @cons b bs' _ _ hb h0 =>
                subst hbs'
                have hpn := N3.ne p0' (by simp)
                obtain ⟨m, p', rfl⟩ := List.exists_cons_of_ne_nil hpn
                ((try dsimp only); repeat infer_instance)
                refine rd_ixLa (j := 0) N3.a rfl ?_
                ((try dsimp only); repeat infer_instance)
                refine rd_ixLa (j := 0) hb rfl ?_
                show tVar _ _ _ _
                ((try dsimp only); repeat infer_instance)
                refine rd_I0 (i := (m : Int)) ?_
                ((try dsimp only); repeat infer_instance)
                refine rd_eq rfl ?_
                refine rd_k ?_
                by_cases g : decide (m < r) = decide (n < r)
                · refine rd_ifT (by have : (decide ((m : Int) < r)) = (decide ((n : Int) < r)) := by simpa using g
                                    rw [this]; simp) ?_
                  ((try dsimp only); repeat infer_instance)
                  refine rd_ixLa (j := 0) N3.a rfl ?_
                  ((try dsimp only); repeat infer_instance)
                  refine ⟨by show 1 ≤ _; decide, fun q1 hq1 => ?_⟩
                  have k1 := same_upd (o := .lst [.int (n : Int)]) hq1
                  have N4 := N3.keep k1
                  have e1 : upd H3 q1 (.lst [.int (n : Int)]) q1 = some (.lst [.int (n : Int)]) := upd_same
                  have hb1 := k1 _ _ hb
                  have h01 := h0.same k1
                  generalize upd H3 q1 (.lst [.int (n : Int)]) = H4 at *
                  have hpl' := hpl (m :: p') (by simp)
                  refine rd_cat hb1 e1 (by rw [List.length_map]; simp at hpl' ⊢; omega) fun q2 hq2 => ?_
                  have k2 := same_upd (o := .lst ((m :: p').map lnV ++ [.int (n : Int)])) hq2
                  have N5 := N4.keep k2
                  have e2 : upd H4 q2 (.lst ((m :: p').map lnV ++ [.int (n : Int)])) q2 = some (.lst (((m :: p') ++ [n]).map lnV)) := by rw [upd_same, List.map_append]; rfl
                  have h02 := h01.same k2
                  generalize upd H4 q2 (.lst ((m :: p').map lnV ++ [.int (n : Int)])) = H5 at *
                  ((try dsimp only); repeat infer_instance)
                  refine rd_srt e2 (by simp at hpl' ⊢; omega) fun q3 hq3 => ?_
                  have k3 := same_upd (o := .lst ((isrt ((m :: p') ++ [n])).map lnV)) hq3
                  have N6 := N5.keep k3
                  have f3 := N5.fresh hq3
                  have h03 := h02.same k3
                  have e3 : upd H5 q3 (.lst ((isrt ((m :: p') ++ [n])).map lnV)) q3 = _ := upd_same
                  generalize upd H5 q3 (.lst ((isrt ((m :: p') ++ [n])).map lnV)) = H6 at *
                  ((try dsimp only); repeat infer_instance)
                  refine rd_set0 (j := 0) N6.a (by simp) ?_
                  have e4 : ladd r ((m :: p') :: ps') n = isrt ((m :: p') ++ [n]) :: ps' := if_pos g
                  rw [e4]
                  refine ⟨A, _, _, _, _, rfl, N6.swap h03 e3 f3 (fun z => ?_), hus, by simp at hbs ⊢; omega⟩
                  have := (isrt_perm ((m :: p') ++ [n])).length_eq
                  rw [z] at this
                  simp at this
                · refine rd_ifF (by have : ¬ (decide ((m : Int) < r)) = (decide ((n : Int) < r)) := by simpa using g
                                    simp only [V.bl.injEq]; exact decide_eq_false this) ?_
                  have e4 : ladd r ((m :: p') :: ps') n = [n] :: (m :: p') :: ps' := if_neg g
                  rw [e4]
                  refine newpart _ _ rfl rfl fun l1 A' H9 N9 => ?_
                  ((try dsimp only); repeat infer_instance)
                  exact ⟨A', _, _, _, _, rfl, N9, hus, by simp at hbs ⊢; omega⟩
    · obtain ⟨A, bs, x, y, z, rfl, N, hsm, hbs⟩ := hP
      rw [← List.map_reverse, List.length_map, List.take_length] at N
      have hpl := lrun_len r c e.reverse
      rw [List.length_reverse] at hpl
      rw [List.length_reverse, List.length_map] at hbs
      have en : lnrm r c e = (lrun r c e.reverse).1.flatten := rfl
      rw [en] at q
      generalize lrun r c e.reverse = s at *
      obtain ⟨ps, us⟩ := s
      dsimp only at q hpl N
      clear N0
      ((try dsimp only); repeat infer_instance)
      refine ⟨by show 0 ≤ _; decide, fun F0 hF0 => ?_⟩
      have N2 := N.keep (same_upd (o := .lst []) hF0)
      have eF : upd H' F0 (.lst []) F0 = some (.lst []) := upd_same
      generalize upd H' F0 (.lst []) = H6 at *
      clear N hF0
      ((try dsimp only); repeat infer_instance)
      have s6 := N2.sm
      have l6 := N2.ls
      have eR := N2.a
      refine ⟨A, rfl, ⟨_, SqL.of eR⟩, ?_⟩
      refine for_list (K := K) (a := A) (xs := bs.map V.ref) (fun i σ' H' => ∃ f w, σ' = [some (.int r), some (.int c), some (.ref va), some (.ref A), some (.ref T), x, y, z, some (.ref f), w, none] ∧ Same H6 H' ∧ H' f = some (.lst ((ps.take i).flatten.map lnV))) ⟨F0, none, rfl, fun _ _ h => h, eF⟩ (fun i σ' H' hi hP => ?_) (fun i x σ' H' hi hP => ?_) (fun σ' H' hP => ?_)
      · obtain ⟨f, w, rfl, s7, _⟩ := hP
        exact SqL.of (s7 _ _ eR)
      · obtain ⟨f, w, rfl, s7, e7⟩ := hP
        rw [List.getElem?_map] at hi
        cases hb : bs[i]? with
        | none => rw [hb] at hi; cases hi
        | some b =>
          rw [hb] at hi
          cases hi
          obtain ⟨p, hp, hbp⟩ := l6.get hb
          have hbp := s7 _ _ hbp
          have hp30 := hpl p (List.mem_of_getElem? hp)
          have hfl : ((ps.take i).flatten.map lnV).length ≤ 900 := by
            have b1 : ∀ (l : List (List Nat)), (∀ p ∈ l, p.length ≤ 30) → l.flatten.length ≤ 30 * l.length := fun l hl => by
              induction l with
              | nil => simp
              | cons a l ih =>
                have h1 := hl a (by simp)
                have h2 := ih fun p hp => hl p (by simp [hp])
                simp only [List.flatten_cons, List.length_append, List.length_cons]
                omega
            have h1 := b1 (ps.take i) fun p hp => by
              have := hpl p (List.mem_of_mem_take hp)
              omega
            have h2 := l6.len
            rw [List.length_map]
            have h3 : (ps.take i).length ≤ ps.length := by rw [List.length_take]; omega
            rw [← h2] at h3
            omega
          ((try dsimp only); repeat infer_instance)
          refine rd_cat e7 hbp (by simp only [List.length_map] at hfl ⊢; omega) fun f2 hf2 => ?_
          ((try dsimp only); repeat infer_instance)
          refine ⟨f2, _, rfl, s7.trans (same_upd hf2), ?_⟩
          rw [List.take_add_one, hp]
          simp only [List.map_append, List.flatten_append, Option.toList_some, List.flatten_cons, List.flatten_nil, List.append_nil]
          exact upd_same
      · obtain ⟨f, w, rfl, s7, e7⟩ := hP
        have hL := l6.len
        rw [List.length_map, hL, List.take_length] at e7
        generalize ps.flatten = nf at *
        ((try dsimp only); repeat infer_instance)
        refine ⟨f, _, rfl, .inl ⟨SqL.of e7, fun l hl => ?_⟩⟩
        refine q _ _ ((s6.trans s7).trans (same_upd hl)) (.tup upd_same ?_)
        exact da_of_lns _

end Cz

set_option Elab.async false
set_option linter.all false
set_option maxRecDepth 100000
set_option maxHeartbeats 1000000
/-! measures: their order, their common part -/
namespace Cz
open PySem L2
open PySem.W (dataLe dataLe_rows alike alikeAll keyToks AllAlike)
def eI (e : Eff) : List Int := List.map (fun n : Nat => (n : Int)) e
theorem kd_E (e : Eff) : (keyE e).map kd = (eI e).map PyData.int := by unfold keyE eI; rw [List.map_map, List.map_map]; rfl
theorem le_key (a b : Eff) : dataLe false keyD (keyE a) (keyE b) = decide (eI a ≤ eI b) := by
  have h := congrFun (congrFun (dataLe_rows eI) a) b
  rw [← h]
  show (!PyProof.Rows.lexLt PyProof.Rows.itemOrd (keyToks (.tuple ((keyE b).map kd))) (keyToks (.tuple ((keyE a).map kd)))) = _
  rw [kd_E, kd_E]
  rfl
theorem lexLt_iff : ∀ a b : List Int, HT.lexLt a b = true ↔ a < b
  | [], [] => by simp [HT.lexLt]
  | [], _ :: _ => by simp [HT.lexLt]
  | _ :: _, [] => by simp [HT.lexLt]
  | x :: xs, y :: ys => by
    rw [HT.lexLt_cons, List.cons_lt_cons_iff, ← lexLt_iff xs ys]
    by_cases h : x = y
    · subst h; simp
    · simp [h]
def TSort (t : Told) : Prop := t.Pairwise fun x y => HT.lexLt (eI x.1) (eI y.1) = true
theorem alike_ints : ∀ a b : List Int, alikeAll (a.map PyData.int) (b.map PyData.int) = true
  | [], _ => by simp [alikeAll]
  | _ :: _, [] => by simp [alikeAll]
  | x :: xs, y :: ys => by simp [alikeAll, alike, alike_ints xs ys]
theorem alike_keys (t : Told) : AllAlike (((toldK t).map (·.1)).map keyD) := by
  intro d hd d' hd'
  unfold toldK at hd hd'
  rw [List.map_map, List.map_map] at hd hd'
  obtain ⟨x, _, rfl⟩ := List.mem_map.mp hd
  obtain ⟨y, _, rfl⟩ := List.mem_map.mp hd'
  show alike (.tuple ((keyE x.1).map kd)) (.tuple ((keyE y.1).map kd)) = true
  rw [kd_E, kd_E]
  show alikeAll _ _ = true
  exact alike_ints _ _
theorem keyD_depth (e : Eff) : (keyD (keyE e)).depth ≤ 8 := by rw [keyD_E]; exact Nat.le_trans (dp_eff e) (by decide)
theorem srtb_told (t : Told) (h : t.length ≤ 1000) : Srtb keyD ((toldK t).map (·.1)) := by
  refine ⟨alike_keys t, fun b hb => ⟨_, rfl⟩, fun b hb => ?_, by unfold toldK; simpa using h⟩
  unfold toldK at hb
  rw [List.map_map] at hb
  obtain ⟨x, _, rfl⟩ := List.mem_map.mp hb
  exact keyD_depth x.1
theorem keys_told (t : Told) : (toldK t).map (·.1) = t.map fun x => keyE x.1 := by unfold toldK; rw [List.map_map]; rfl
/-- sorted already -/
theorem sort_keys {t : Told} (h : TSort t) : ((toldK t).map (·.1)).mergeSort (dataLe false keyD) = (toldK t).map (·.1) := by
  refine List.mergeSort_of_pairwise ?_
  rw [keys_told, List.pairwise_map]
  refine h.imp fun {x y} hxy => ?_
  rw [le_key]
  exact decide_eq_true (List.le_of_lt ((lexLt_iff _ _).mp hxy))
theorem eI_inj {a b : Eff} (h : eI a = eI b) : a = b := (List.map_inj_right (fun x y q => by exact_mod_cast q)).mp h
/-- what sorting gives: t anew, in order -/
theorem sorted_told (t : Told) (hn : (t.map (·.1)).Nodup) : ∃ t' : Told, t'.Perm t ∧ TSort t' ∧ ((toldK t).map (·.1)).mergeSort (dataLe false keyD) = (toldK t').map (·.1) := by
  have hp : (((toldK t).map (·.1)).mergeSort (dataLe false keyD)).Perm (t.map fun x => keyE x.1) := by rw [keys_told]; exact List.mergeSort_perm _ _
  have hs : (((toldK t).map (·.1)).mergeSort (dataLe false keyD)).Pairwise fun a b => dataLe false keyD a b = true := by
    have T := PySem.W.sortLe_total (PyProof.Rows.listOrd PyProof.Rows.itemOrd) false fun b => keyToks (keyD b)
    refine List.pairwise_mergeSort (fun a b c => T.trans a b c) (fun a b => ?_) _
    rcases T.total a b with q | q
    · show (dataLe false keyD a b || _) = true; rw [show dataLe false keyD a b = true from q]; rfl
    · show (_ || dataLe false keyD b a) = true; rw [show dataLe false keyD b a = true from q, Bool.or_true]
  obtain ⟨t', ht, e⟩ : ∃ t' : Told, t'.Perm t ∧ t'.map (fun x => keyE x.1) = ((toldK t).map (·.1)).mergeSort (dataLe false keyD) := by
    generalize ((toldK t).map (·.1)).mergeSort (dataLe false keyD) = ks at hp
    clear hs hn
    obtain ⟨l, h1, h2⟩ : ∃ l : Told, l.Perm t ∧ ks = l.map fun x => keyE x.1 := by
      have := hp
      clear hp
      induction ks generalizing t with
      | nil =>
        have := this.symm.eq_nil
        exact ⟨[], by rw [List.map_eq_nil_iff.mp this], rfl⟩
      | cons k ks ih =>
        have hk : k ∈ t.map fun x => keyE x.1 := this.mem_iff.mp (by simp)
        obtain ⟨x, hx, rfl⟩ := List.mem_map.mp hk
        have p1 := List.perm_cons_erase hx
        have p2 : ks.Perm ((t.erase x).map fun x => keyE x.1) := by
          have := this.trans (p1.map fun x => keyE x.1)
          exact (List.perm_cons _).mp this
        obtain ⟨l, hl, e⟩ := ih _ p2
        exact ⟨x :: l, (hl.cons x).trans p1.symm, by rw [e]; rfl⟩
    exact ⟨l, h1, h2.symm⟩
  refine ⟨t', ht, ?_, by rw [keys_told t']; exact e.symm⟩
  rw [← e, List.pairwise_map] at hs
  have hn' : (t'.map (·.1)).Nodup := (ht.map _).nodup_iff.mpr hn
  rw [List.nodup_iff_pairwise_ne, List.pairwise_map] at hn'
  refine (hs.and hn').imp fun {x y} h => ?_
  rw [lexLt_iff]
  have h1 := h.1
  rw [le_key] at h1
  have h1 := of_decide_eq_true h1
  refine Classical.byContradiction fun hn => ?_
  have h2 := List.not_lt.mp hn
  exact h.2 (eI_inj (List.le_antisymm h1 h2))
/-! ### common parts -/
def gN (l : List Nat) : Nat := l.foldr Nat.gcd 0
theorem gN_dvd {d : Nat} : ∀ {l : List Nat}, d ∣ gN l ↔ ∀ x ∈ l, d ∣ x
  | [] => by simp [gN]
  | x :: l => by
    have ih := gN_dvd (d := d) (l := l)
    show d ∣ Nat.gcd x (gN l) ↔ _
    rw [Nat.dvd_gcd_iff, ih]
    simp
theorem gN_perm {l l' : List Nat} (h : l.Perm l') : gN l = gN l' :=
  Nat.dvd_antisymm (gN_dvd.mpr fun x hx => gN_dvd.mp (Nat.dvd_refl _) x (h.mem_iff.mpr hx)) (gN_dvd.mpr fun x hx => gN_dvd.mp (Nat.dvd_refl _) x (h.mem_iff.mp hx))
theorem gN_app (l : List Nat) (x : Nat) : gN (l ++ [x]) = Nat.gcd x (gN l) := by
  rw [gN_perm (List.perm_append_comm (l₁ := l) (l₂ := [x]))]
  rfl
theorem gN_pos {l : List Nat} {x : Nat} (hx : x ∈ l) (h0 : 0 < x) : 0 < gN l := Nat.pos_of_dvd_of_pos (gN_dvd.mp (Nat.dvd_refl _) x hx) h0
theorem gN_div {l : List Nat} (h : 0 < gN l) : gN (l.map (· / gN l)) = 1 := by
  have h1 : gN l * gN (l.map (· / gN l)) ∣ gN l := gN_dvd.mpr fun x hx => by
    have h2 := gN_dvd.mp (Nat.dvd_refl (gN (l.map (· / gN l)))) (x / gN l) (List.mem_map.mpr ⟨x, hx, rfl⟩)
    have h3 := gN_dvd.mp (Nat.dvd_refl (gN l)) x hx
    have := Nat.mul_dvd_mul_left (gN l) h2
    rwa [Nat.mul_div_cancel' h3] at this
  have h2 : gN l * gN (l.map (· / gN l)) ∣ gN l * 1 := by rwa [Nat.mul_one]
  exact Nat.dvd_one.mp (Nat.dvd_of_mul_dvd_mul_left h h2)
def wN (t : Told) : List Nat := t.map fun x => x.2.toNat
end Cz

set_option Elab.async false
set_option linter.all false
set_option maxRecDepth 100000
set_option maxHeartbeats 1000000
/-! dicts with tuple keys, read -/
namespace Cz
open PySem L2
open PySem.W (dataLe)
theorem rd_lock {t : TS} {D : Ends} {σ : St} {H : Hp} {d : Addr} {u : HO} (h : H d = some u) (m : Mut (some u)) (q : ∀ od, t ⟨fun σ' H' => H' d = some (.frz od u) ∧ D.nx σ' (upd H' d u), fun v H' => H' d = some (.frz od u) ∧ D.rt v (upd H' d u), fun σ' H' => H' d = some (.frz od u) ∧ D.bk σ' (upd H' d u), fun σ' H' => H' d = some (.frz od u) ∧ D.ct σ' (upd H' d u)⟩ σ (upd H d (.frz od u))) : tLock t D σ H := ⟨d, u, h, m, q⟩
theorem rd_valsT {td : TE} {σ : St} {H : Hp} {R : It → Hp → Prop} (q : td σ H fun x H1 => ∃ d o kvs, x = .ref d ∧ H1 d = some (.frz o (.dT kvs)) ∧ R (Itvt d o kvs) H1) : iValsT td σ H R := q
theorem rd_itemsT {td : TE} {σ : St} {H : Hp} {R : It → Hp → Prop} (q : td σ H fun x H1 => ∃ d o kvs, x = .ref d ∧ H1 d = some (.frz o (.dT kvs)) ∧ R (Itit d o kvs) H1) : iItemsT td σ H R := q
theorem rd_frz {t : TE} {σ : St} {H : Hp} {Q : VK} (q : t σ H fun v H1 => ∃ d u, v = .ref d ∧ H1 d = some u ∧ Mut (some u) ∧ ∀ od, Q v (upd H1 d (.frz od u))) : tFrz t σ H Q := q
theorem walk_valsT {d : Addr} {o : Obj} {kvs : List (List Key × V)} : Walk (Itvt d o kvs) kvs.length (fun H => H d = some (.frz o (.dT kvs))) (fun i H x H' => H' = H ∧ ∃ k, kvs[i]? = some (k, x)) :=
  ⟨fun _ _ hi q => ⟨q, hi⟩, fun _ q => ⟨q, Nat.le_refl _⟩, fun _ _ _ _ _ _ y => y⟩
theorem walk_itemsT {d : Addr} {o : Obj} {kvs : List (List Key × V)} : Walk (Itit d o kvs) kvs.length (fun H => H d = some (.frz o (.dT kvs)))
    (fun i H x H' => ∃ (T : Addr) (k : List Key) (v : V) (q : Addr), kvs[i]? = some (k, v) ∧ H q = some (.tup (k.map kV)) ∧ x = .ref T ∧ H T = none ∧ H' = upd H T (.tup [.ref q, v])) :=
  ⟨fun _ _ hi q => ⟨q, hi⟩, fun _ q => ⟨q, Nat.le_refl _⟩, fun _ _ _ _ _ _ y => y⟩
theorem rd_lstOf' {K : PySem.W.Frag} {H : Hp} {v : V} {ds : List PyData} {R : Addr → List V → Prop} (h : Dt H v (.tuple ds)) (q : ∀ l ys, H l = none → Same H (upd H l (.lst ys)) → Ls (upd H l (.lst ys)) (.ref l) ds → R l ys) : ∃ p ys, [v] = [.ref p] ∧ (SqL K H p ys ∨ SqT K H p ys) ∧ ∀ l, H l = none → R l ys := by
  obtain ⟨a, xs, rfl, h1, h2⟩ := h.tup_at
  exact ⟨a, xs, rfl, .inr (SqT.of h1), fun l hl => q l xs hl (same_upd hl) (Ls.new hl h2)⟩
/-- measures as dicts -/
def toldV (t : Told) : List (List Key × V) := t.map fun x => (keyE x.1, .int x.2)
theorem toldV_K (t : Told) : (toldK t).map (fun x => (x.1, V.int x.2)) = toldV t := by unfold toldK toldV; rw [List.map_map]; rfl
theorem toldV_keys (t : Told) : (toldV t).map (·.1) = (toldK t).map (·.1) := by unfold toldK toldV; rw [List.map_map, List.map_map]; rfl
theorem toldV_at {t : Told} {i : Nat} {k : List Key} {v : V} (h : (toldV t)[i]? = some (k, v)) : ∃ x, t[i]? = some x ∧ k = keyE x.1 ∧ v = .int x.2 := by
  unfold toldV at h
  rw [List.getElem?_map] at h
  cases e : t[i]? with
  | none => rw [e] at h; cases h
  | some x => rw [e] at h; cases h; exact ⟨x, rfl, rfl, rfl⟩
def lookE (t : Told) (e : Eff) : Option Int := (t.find? fun x => decide (x.1 = e)).map (·.2)
theorem toldV_look (t : Told) (e : Eff) : valV (toldV t) (keyE e) = (lookE t e).map V.int := by
  induction t with
  | nil => rfl
  | cons x t ih =>
    by_cases h : x.1 = e
    · have : lookE (x :: t) e = some x.2 := by unfold lookE; rw [List.find?_cons, decide_eq_true h]; rfl
      rw [this]
      exact valV_pos (p := (keyE x.1, V.int x.2)) (by rw [h])
    · have : lookE (x :: t) e = lookE t e := by unfold lookE; rw [List.find?_cons, decide_eq_false h]
      rw [this, ← ih]
      exact valV_neg (p := (keyE x.1, V.int x.2)) (fun q => h (keyE_inj q))
theorem lookE_mem {t : Told} (hn : (t.map (·.1)).Nodup) {x : Eff × Int} (hx : x ∈ t) : lookE t x.1 = some x.2 := by
  induction t with
  | nil => simp at hx
  | cons y t ih =>
    rw [List.map_cons, List.nodup_cons] at hn
    unfold lookE
    rw [List.find?_cons]
    rcases List.mem_cons.mp hx with rfl | q
    · rw [decide_eq_true rfl]; rfl
    · have : ¬ y.1 = x.1 := fun e => hn.1 (by rw [e]; exact List.mem_map.mpr ⟨x, q, rfl⟩)
      rw [decide_eq_false this]
      exact ih hn.2 q
/-- what was told of e is more by w -/
def addE (t : Told) (e : Eff) (w : Int) : Told := if t.any (fun x => decide (x.1 = e)) then t.map (fun x => if x.1 = e then (x.1, w) else x) else t ++ [(e, w)]
theorem toldV_put (t : Told) (e : Eff) (w : Int) : putK (toldV t) (keyE e) (.int w) = toldV (addE t e w) := by
  have h : ((toldV t).any fun kv => decide (kv.1 = keyE e)) = t.any fun x => decide (x.1 = e) := by
    unfold toldV
    rw [List.any_map]
    congr 1
    funext x
    show decide (keyE x.1 = keyE e) = _
    by_cases q : x.1 = e
    · rw [decide_eq_true q, decide_eq_true (by rw [q])]
    · rw [decide_eq_false q, decide_eq_false fun z => q (keyE_inj z)]
  unfold putK addE
  rw [h]
  split
  · unfold toldV
    rw [List.map_map, List.map_map]
    refine List.map_congr_left fun x _ => ?_
    by_cases q : x.1 = e
    · simp [q]
    · have : ¬ keyE x.1 = keyE e := fun z => q (keyE_inj z)
      simp [q, this]
  · unfold toldV
    rw [List.map_append]
    rfl
theorem Pl_told (t : Told) : Pl (.tuple (toldD t)) = true := by
  rw [toldD_map]
  refine PlA_map fun x _ => ?_
  show (Pl (effD x.1) && (Pl (.int x.2) && true)) = true
  rw [Pl_eff]; rfl
/-- what is known of a measure -/
structure TOk (r c : Nat) (t : Told) : Prop where
  ne : t ≠ []
  few : t.length ≤ 4
  nrm : ∀ x ∈ t, Cz.nrm r c x.1 = x.1
  lns : ∀ x ∈ t, ∀ n ∈ x.1, n < r + c
  len : ∀ x ∈ t, x.1.length ≤ 3
  pos : ∀ x ∈ t, 0 < x.2
  srt : TSort t
  gcd : gN (wN t) = 1
  sum : Cs.wt t ≤ 16
theorem TSort.nodup {t : Told} (h : TSort t) : (t.map (·.1)).Nodup := by
  rw [List.nodup_iff_pairwise_ne, List.pairwise_map]
  refine h.imp fun {x y} hxy e => ?_
  rw [e, lexLt_iff] at hxy
  exact List.lt_irrefl _ hxy
/-- the share of a weight -/
def cutT (t : Told) (g : Int) : Told := t.map fun x => (x.1, x.2 / g)
theorem cutT_one (t : Told) : cutT t 1 = t := by unfold cutT; simp
end Cz

set_option Elab.async false
set_option linter.all false
set_option maxRecDepth 100000
set_option maxHeartbeats 4000000

namespace Cz
open PySem L2
open PySem.W (dataLe)
local macro_rules | `(tactic| infer_instance) => `(tactic| with_reducible first
  | refine rd_seq ?_ | refine rd_cons ?_ | refine rd_nil ?_ | refine rd_c ?_ | refine rd_op ?_ | (refine rd_var (v := ?_) ?_ ?_; rotate_left 1; (with_unfolding_all rfl)) | refine rd_un ?_ | refine rd_call ?_ | refine rd_cb ?_ | refine rd_I0 ?_ | refine rd_test ?_ | refine rd_tB ?_ | refine rd_k ?_
  | refine rd_not ?_ | refine rd_and ?_ | refine rd_or ?_ | refine rd_andV ?_ | refine rd_orV ?_ | refine rd_notV ?_ | refine rd_ife ?_ | refine rd_chain ?_ | refine rd_tup ?_ | refine rd_lst ?_ | refine rd_bm0 ?_ | refine rd_bm ?_ | refine rd_sl ?_ | refine rd_nopart ?_ | refine rd_part ?_ | refine rd_i ?_
  | refine rd_next ?_ | refine rd_cont ?_ | refine rd_drop ?_ | refine rd_ret ?_ | refine rd_retN ?_ | refine rd_if ?_ | refine rd_asg ?_ | refine rd_gname ?_ | refine rd_par ?_ | refine rd_par3 ?_ | refine rd_v2 ?_ | refine rd_v3 ?_ | refine rd_gnil ?_ | refine rd_for ?_ | refine rd_lc ?_ | refine rd_yes ?_ | refine rd_iT ?_ | refine rd_iL ?_ | refine rd_iR1 ?_ | refine rd_iR2 ?_ | refine rd_iS ?_ | refine rd_dput ?_ | refine rd_din ?_ | refine rd_dnin ?_ | refine rd_dget ?_ | refine rd_dget2 ?_ | refine rd_dnewK ?_ | refine rd_dnewT ?_ | refine rd_augS ?_ | refine rd_gsub ?_ | refine rd_body ?_ | refine rd_valsT ?_ | refine rd_itemsT ?_ | refine rd_frz ?_ | refine rd_keys ?_ | refine rd_rev ?_ | (refine rd_ifT ?_ ?_; (with_unfolding_all rfl)) | (refine rd_ifF ?_ ?_; (with_unfolding_all rfl)))

abbrev s_is_effect_of : Stmt := topS 22
abbrev n_is_effect_of : List Str := ["rows", "columns", "value"]
theorem sc_is_effect_of : FnScope n_is_effect_of ["rows", "columns", "value"] (defScope s_is_effect_of) := ⟨rfl, rfl, rfl, by decide +kernel, rfl, by decide +kernel, by decide +kernel⟩

def sp_is_effect_of (K : PySem.W.Frag) : Sp := fun vs H Q E => ∃ (r c : Nat) (e : Eff) (v : V), vs = [.int r, .int c, v] ∧ Dt H v (effD e) ∧ e.length ≤ 3 ∧ (∀ n ∈ e, n < r + c) ∧ nrm r c e = e ∧ retB H true Q
theorem ok_is_effect_of {P : Program} {w : World} {K : PySem.W.Frag} {mg : Str → Option Value} {base : Heap} {f : Addr} {fd : FuncData} (F : Fun K "is_effect_of" "is_effect_of" s_is_effect_of f fd) (Z : Bl mg) (C : Ct mg) (D_are_strokes : Dn P w K mg base "are_strokes" ["rows", "columns", "value"] 3 (sp_are_strokes K)) (D_normal_of : Dn P w K mg base "normal_of" ["rows", "columns", "strokes"] 1 (sp_normal_of K)) : FnOk P w K mg base CX0 4 f fd ["rows", "columns", "value"] (sp_is_effect_of K) := by
  refine F.ok (k := 3) sc_is_effect_of (fun vs H Q E h => ?_) (fun cdv A outer s H vs Q E hr h => ?_)
  · obtain ⟨r, c, e, v, rfl, hv, hl, he, hn, q⟩ := h
    rfl
  · refine ⟨_, (pss_cons (ps_if (PW.pt (pw_or (pt_not (pt_val (pe_callB (kIsi (K := K) rfl) (by rfl) Z.isi bt_isinstance (pa_cons (pv 2) (pa_cons (pe_ty Z.tup bt_tuple) pa_nil))))) (pw_or1 (pt_not (pt_val (pe_fn D_are_strokes hr (pa_cons (pv 0) (pa_cons (pv 1) (pa_cons (pe_callTy call_list_of (by rfl) Z.lst bt_list (pa_cons (pv 2) pa_nil)) pa_nil)))))))))
      (pss_one (ps_ret pe_bl))
      pss_nil)
    (pss_one (ps_ret (pe_cmpR (kEqD (K := K) rfl hr.units) (pe_fn D_normal_of hr (pa_cons (pv 0) (pa_cons (pv 1) (pa_cons (pe_callTy call_list_of (by rfl) Z.lst bt_list (pa_cons (pv 2) pa_nil)) pa_nil)))) (pv 2) (nomark _))))), ?_⟩
    clear hr Z C D_are_strokes D_normal_of
    obtain ⟨r, c, e, v, rfl, hv, hl, he, hn, q⟩ := h
    ((try dsimp only); repeat infer_instance)
    refine rd_isi (ty_tup hv) k_tt ?_
    ((try dsimp only); repeat infer_instance)
    refine rd_lstOf' hv fun l1 ys1 hl1 s1 d1 => ?_
    generalize upd H l1 (.lst ys1) = H1 at *
    ((try dsimp only); repeat infer_instance)
    refine ⟨r, c, e, _, rfl, d1, by omega, he, fun H2 s2 => ?_⟩
    ((try dsimp only); repeat infer_instance)
    refine rd_lstOf' ((hv.ups s1).ups s2) fun l2 ys2 hl2 s3 d3 => ?_
    generalize upd H2 l2 (.lst ys2) = H3 at *
    ((try dsimp only); repeat infer_instance)
    refine ⟨r, c, e, _, rfl, d3, by omega, fun v4 H4 s4 d4 => ?_⟩
    rw [hn] at d4
    ((try dsimp only); repeat infer_instance)
    refine rd_eqD d4 ((((hv.ups s1).ups s2).ups s3).ups s4) (sh_eff e) (sh_eff e) ?_
    rw [eq_eff, decide_eq_true rfl]
    exact q _ (((s1.trans s2).trans s3).trans s4)

/-- the common part of the first weights -/
theorem gcd_step {t : Told} (hp : ∀ x ∈ t, 0 < x.2) {i : Nat} {x : Eff × Int} (h : t[i]? = some x) : gcdI x.2 (gN (wN (t.take i)) : Nat) = (gN (wN (t.take (i + 1))) : Nat) := by
  have h0 := hp x (List.mem_of_getElem? h)
  have e : wN (t.take (i + 1)) = wN (t.take i) ++ [x.2.toNat] := by
    unfold wN
    rw [List.take_add_one, h, List.map_append]
    rfl
  rw [e, gN_app]
  unfold gcdI
  congr 2
  omega
theorem gN_le {t : Told} (hp : ∀ x ∈ t, 0 < x.2) {i : Nat} (hi : 0 < i) (ht : t ≠ []) : 0 < gN (wN (t.take i)) := by
  cases t with
  | nil => exact absurd rfl ht
  | cons x t =>
    have h0 := hp x (by simp)
    refine gN_pos (x := x.2.toNat) ?_ (by omega)
    unfold wN
    cases i with
    | zero => omega
    | succ i => simp
abbrev s_tidied : Stmt := topS 33
abbrev n_tidied : List Str := ["told", "shared", "weight", "one"]
theorem sc_tidied : FnScope n_tidied ["told"] (defScope s_tidied) := ⟨rfl, rfl, rfl, by decide +kernel, rfl, by decide +kernel, by decide +kernel⟩

def sp_tidied (K : PySem.W.Frag) : Sp := fun vs H Q E => ∃ (r c : Nat) (t : Told) (d : Addr), vs = [.ref d] ∧ H d = some (.dT (toldV t)) ∧ TOk r c t ∧ retD H (.tuple (toldD t)) Q
theorem ok_tidied {P : Program} {w : World} {K : PySem.W.Frag} {mg : Str → Option Value} {base : Heap} {f : Addr} {fd : FuncData} (F : Fun K "tidied" "tidied" s_tidied f fd) (Z : Bl mg) (C : Ct mg) (D_common : Dn P w K mg base "common" ["one", "other"] 1 (sp_common K)) : FnOk P w K mg base CX0 2 f fd ["told"] (sp_tidied K) := by
  refine F.ok (k := 1) sc_tidied (fun vs H Q E h => ?_) (fun cdv A outer s H vs Q E hr h => ?_)
  · obtain ⟨r, c, t, d, rfl, hd, ok, q⟩ := h
    rfl
  · refine ⟨_, (pss_cons (ps_set (i := 1) sc_tidied.nd rfl (.inr rfl) pe_int)
    (pss_cons (ps_lock (ps_for PassesOwn.never rfl (pi_valsT (pv 0)) (pg_name (i := 2) sc_tidied.nd rfl (.inl rfl))
      (pss_one (ps_set (i := 1) sc_tidied.nd rfl (.inr rfl) (pe_fn D_common hr (pa_cons (pv 2) (pa_cons (pv 1) pa_nil)))))))
    (pss_one (ps_ret (pe_callTy call_tuple_of (by rfl) Z.tup bt_tuple (pa_cons (pe_lc (own := [("one", 3)]) rfl sc_tidied.nd (pi_list (pe_callB (cr_srtT rfl hr.units) (by rfl) Z.srt bt_sorted (pa_cons (pv 0) pa_nil))) (blkOk_by (N := n_tidied) (sc := (defScope s_tidied)) (by decide +kernel)) (fun _ _ _ _ _ => (pg_name (i := 3) sc_tidied.nd rfl (.inl rfl) (.inr rfl))) (fun _ _ _ _ _ => pts_nil) (fun _ _ _ _ _ => (pe_tup (pa_cons (pv 3) (pa_cons (pe_op op_fdivW (pe_dget (hu_of hr) (pv 0) (pv 3) (fun _ _ => rfl)) (pv 1)) pa_nil))))) pa_nil)))))), ?_⟩
    clear hr Z C D_common
    obtain ⟨r, c, t, d, rfl, hd, ok, q⟩ := h
    ((try dsimp only); repeat infer_instance)
    refine rd_lock hd True.intro fun od => ?_
    ((try dsimp only); repeat infer_instance)
    refine ⟨d, od, _, rfl, upd_same, ?_⟩
    refine for_it walk_valsT (fun i σ' H' => ∃ y z, σ' = [some (.ref d), some (.int (gN (wN (t.take i)) : Nat)), y, z] ∧ H' = upd H d (.frz od (.dT (toldV t)))) ⟨none, none, rfl, rfl⟩ (fun i σ' H' _ hP => by obtain ⟨y, z, rfl, rfl⟩ := hP; exact upd_same) (fun i x σ' H' H1 hi hP hY => ?_) (fun σ' H' hP => ?_)
    · obtain ⟨y, z, rfl, rfl⟩ := hP
      obtain ⟨rfl, k, hk⟩ := hY
      obtain ⟨x, hx, _, rfl⟩ := toldV_at hk
      have h0 := ok.pos x (List.mem_of_getElem? hx)
      ((try dsimp only); repeat infer_instance)
      refine ⟨_, _, rfl, by omega, by omega, ?_⟩
      rw [gcd_step ok.pos hx]
      ((try dsimp only); repeat infer_instance)
      exact ⟨_, _, rfl, rfl⟩
    · obtain ⟨y, z, rfl, rfl⟩ := hP
      have hl : (toldV t).length = t.length := by unfold toldV; rw [List.length_map]
      rw [hl, List.take_length, ok.gcd]
      refine ⟨upd_same, ?_⟩
      have k := lock_same (H' := upd H d (.frz od (.dT (toldV t)))) hd (fun _ _ h => h)
      have hd2 : upd (upd H d (.frz od (.dT (toldV t)))) d (.dT (toldV t)) d = some (.dT (toldV t)) := upd_same
      generalize upd (upd H d (.frz od (.dT (toldV t)))) d (.dT (toldV t)) = H1 at *
      ((try dsimp only); repeat infer_instance)
      have few : t.length ≤ 1000 := by have := ok.few; omega
      refine ⟨d, _, rfl, .inl hd2, by rw [toldV_keys]; exact srtb_told t few, fun p H2 hp s2 hL => ?_⟩
      rw [toldV_keys, sort_keys ok.srt] at hL
      ((try dsimp only); repeat infer_instance)
      obtain ⟨p', xs, e, h1, h2⟩ := hL
      cases e
      refine lcL ⟨p, xs, rfl, h1, h2⟩ (fun i _ => (t[i]?).map fun x => .tuple [effD x.1, .int x.2]) (fun i u w H3 hu s3 hw R Y hR hY => ?_) (by rw [List.length_map]; unfold toldK; simpa using few) (fun Dd H3 hn s3 hL3 => ?_)
      · rw [keys_told, List.map_map, List.getElem?_map] at hu
        cases hx : t[i]? with
        | none => rw [hx] at hu; cases hu
        | some x =>
          rw [hx] at hu
          cases hu
          have hw : Dt H3 w (keyD (keyE x.1)) := hw
          have h0 := ok.pos x (List.mem_of_getElem? hx)
          have hd3 := s3 _ _ (s2 _ _ hd2)
          ((try dsimp only); repeat infer_instance)
          refine ⟨rfl, ?_⟩
          ((try dsimp only); repeat infer_instance)
          refine ⟨d, .int x.2, rfl, ?_, ?_⟩
          · have := DGet.of hd3 hw
            rw [toldV_look, lookE_mem ok.srt.nodup (List.mem_of_getElem? hx)] at this
            exact this
          ((try dsimp only); repeat infer_instance)
          refine rd_I (wide_div (b := 4) (by omega) (by decide) (by decide) (by decide)) ?_
          ((try dsimp only); repeat infer_instance)
          refine ⟨by show 2 ≤ _; decide, fun p2 hp2 => ?_⟩
          refine hY _ (by rw [hx]; rfl) _ _ (same_upd hp2) ?_
          have e1 : x.2 / ((1 : Nat) : Int) = x.2 := by simp
          rw [e1]
          rw [keyD_E] at hw
          exact Dt.newT hp2 (.cons hw (.cons (.int _) .nil))
      · have ek : keepsOf (fun i _ => (t[i]?).map fun x => PyData.tuple [effD x.1, .int x.2]) (((toldK t).map (·.1)).map keyD) = toldD t := by
          rw [keys_told, List.map_map, toldD_map]
          exact keeps_all _ _ (fun x : Eff × Int => PyData.tuple [effD x.1, .int x.2]) t fun i a h => by rw [h]; rfl
        rw [ek] at hL3
        ((try dsimp only); repeat infer_instance)
        refine rd_tupOf hL3 fun u H4 s4 d4 => ?_
        exact q _ _ (((k.trans s2).trans s3).trans s4) d4

end Cz

set_option Elab.async false
set_option linter.all false
set_option maxRecDepth 100000
set_option maxHeartbeats 4000000

namespace Cz
open PySem L2
open PySem.W (dataLe)
local macro_rules | `(tactic| infer_instance) => `(tactic| with_reducible first
  | refine rd_seq ?_ | refine rd_cons ?_ | refine rd_nil ?_ | refine rd_c ?_ | refine rd_op ?_ | (refine rd_var (v := ?_) ?_ ?_; rotate_left 1; (with_unfolding_all rfl)) | refine rd_un ?_ | refine rd_call ?_ | refine rd_cb ?_ | refine rd_I0 ?_ | refine rd_test ?_ | refine rd_tB ?_ | refine rd_k ?_
  | refine rd_not ?_ | refine rd_and ?_ | refine rd_or ?_ | refine rd_andV ?_ | refine rd_orV ?_ | refine rd_notV ?_ | refine rd_ife ?_ | refine rd_chain ?_ | refine rd_tup ?_ | refine rd_lst ?_ | refine rd_bm0 ?_ | refine rd_bm ?_ | refine rd_sl ?_ | refine rd_nopart ?_ | refine rd_part ?_ | refine rd_i ?_
  | refine rd_next ?_ | refine rd_cont ?_ | refine rd_drop ?_ | refine rd_ret ?_ | refine rd_retN ?_ | refine rd_if ?_ | refine rd_asg ?_ | refine rd_gname ?_ | refine rd_par ?_ | refine rd_par3 ?_ | refine rd_v2 ?_ | refine rd_v3 ?_ | refine rd_gnil ?_ | refine rd_for ?_ | refine rd_lc ?_ | refine rd_yes ?_ | refine rd_iT ?_ | refine rd_iL ?_ | refine rd_iR1 ?_ | refine rd_iR2 ?_ | refine rd_iS ?_ | refine rd_dput ?_ | refine rd_din ?_ | refine rd_dnin ?_ | refine rd_dget ?_ | refine rd_dget2 ?_ | refine rd_dnewK ?_ | refine rd_dnewT ?_ | refine rd_augS ?_ | refine rd_gsub ?_ | refine rd_body ?_ | refine rd_valsT ?_ | refine rd_itemsT ?_ | refine rd_frz ?_ | refine rd_keys ?_ | refine rd_rev ?_ | (refine rd_ifT ?_ ?_; (with_unfolding_all rfl)) | (refine rd_ifF ?_ ?_; (with_unfolding_all rfl)))

theorem eff_lnV (e : Eff) : e.map lnV = (eI e).map V.int := by unfold eI; rw [List.map_map]; rfl
theorem eff_lnD (e : Eff) : e.map lnD = (eI e).map PyData.int := by unfold eI; rw [List.map_map]; rfl
theorem rd_ltE {K : PySem.W.Frag} {H : Hp} {x y : V} {a b : Eff} {Q : VK} (h1 : Dt H x (effD a)) (h2 : Dt H y (effD b)) (q : Q (.bl (HT.lexLt (eI a) (eI b))) H) : rLtT K x y H Q := by
  obtain ⟨p, xs, rfl, e1, d1⟩ := h1.tup_at
  obtain ⟨p2, ys, rfl, e2, d2⟩ := h2.tup_at
  rw [eff_lnD] at d1 d2
  rw [d1.ints] at e1
  rw [d2.ints] at e2
  exact ⟨_, _, _, _, rfl, rfl, SqT.of e1, SqT.of e2, q⟩
theorem walk_zipT {K : PySem.W.Frag} {a b : Addr} {xs ys : List V} {n : Nat} (hn : n = min xs.length ys.length) : Walk (RZ.ItzT K a b) n (fun H => SqT K H a xs ∧ SqT K H b ys) (YPair (fun i => xs[i]?) (fun i => ys[i]?)) := by
  subst hn
  refine ⟨fun i _ hi q => ?_, fun _ q => ⟨xs, ys, q.1, q.2, by omega⟩, fun i H v H' _ q y => ?_⟩
  · have h1 : i < xs.length := by omega
    have h2 : i < ys.length := by omega
    exact ⟨xs, ys, xs[i], ys[i], q.1, q.2, by simp [h1], by simp [h2]⟩
  · obtain ⟨T, x, z, h1, h2, h3, h4, h5⟩ := y
    exact ⟨T, x, z, h1, h2, h3, h4 xs q.1, h5 ys q.2⟩
theorem rd_lenF {K : PySem.W.Frag} {H : Hp} {v : V} {ds : List PyData} {Q : VK} (h : Ft H v ds) (q : Q (.int ds.length) H) : rLen K [v] H Q := by
  obtain ⟨a, xs, rfl, h1, h2⟩ := h.sq (K := K)
  exact ⟨a, xs, rfl, .inr (h1 H (sameR H)), by rw [h2.len]; exact q⟩
theorem rd_slF {K : PySem.W.Frag} {H : Hp} {v : V} {ds : List PyData} {Q : VK} (h : Ft H v ds) (hne : ds ≠ []) (q : ∀ u H', Same H H' → Dt H' u (.tuple (cutD ds (some 1) none)) → Q u H') : rSlA K v (some 1) none H Q := by
  obtain ⟨a, xs, rfl, h1, h2⟩ := h.sq (K := K)
  refine ⟨a, xs, rfl, h1 H (sameR H), fun e => ?_, fun _ p hp => q _ _ (same_upd hp) (Dt.newT hp (h2.cut _ _))⟩
  have := e.1
  rw [show (some (1 : Int)) = some ((1 : Nat) : Int) from rfl, HT.sIx_nat, h2.len] at this
  have : ds.length ≠ 0 := fun z => hne (List.eq_nil_of_length_eq_zero z)
  omega
theorem cut1 (ds : List PyData) : cutD ds (some 1) none = ds.drop 1 := by
  unfold cutD
  rw [show (some (1 : Int)) = some ((1 : Nat) : Int) from rfl, HT.sIx_nat, HT.sIx_none]
  by_cases h : ds = []
  · subst h; rfl
  · have : ds.length ≠ 0 := fun z => h (List.eq_nil_of_length_eq_zero z)
    have e : min 1 ds.length = 1 := by omega
    rw [e]
    exact List.take_of_length_le (by simp)
theorem rd_zip {K : PySem.W.Frag} {ta : TA} {σ : St} {H : Hp} {R : It → Hp → Prop} (q : ta σ H fun vs H1 => ∃ a b xs ys, vs = [.ref a, .ref b] ∧ ((SqL K H1 a xs ∧ SqL K H1 b ys ∧ R (Itz K a b) H1) ∨ (SqT K H1 a xs ∧ SqT K H1 b ys ∧ R (RZ.ItzT K a b) H1))) : RZ.iZipA K ta σ H R := q
abbrev s_is_measure_of : Stmt := topS 34
abbrev n_is_measure_of : List Str := ["rows", "columns", "value", "pair", "one", "other"]
theorem sc_is_measure_of : FnScope n_is_measure_of ["rows", "columns", "value"] (defScope s_is_measure_of) := ⟨rfl, rfl, rfl, by decide +kernel, rfl, by decide +kernel, by decide +kernel⟩

def sp_is_measure_of (K : PySem.W.Frag) : Sp := fun vs H Q E => ∃ (r c : Nat) (t : Told) (v : V), vs = [.int r, .int c, v] ∧ Ft H v (toldD t) ∧ TOk r c t ∧ retB H true Q
theorem ok_is_measure_of {P : Program} {w : World} {K : PySem.W.Frag} {mg : Str → Option Value} {base : Heap} {f : Addr} {fd : FuncData} (F : Fun K "is_measure_of" "is_measure_of" s_is_measure_of f fd) (Z : Bl mg) (C : Ct mg) (D_is_effect_of : Dn P w K mg base "is_effect_of" ["rows", "columns", "value"] 4 (sp_is_effect_of K)) (D_is_int : Dn P w K mg base "is_int" ["value"] 1 (sp_is_int K)) (D_tidied : Dn P w K mg base "tidied" ["told"] 2 (sp_tidied K)) : FnOk P w K mg base CX0 5 f fd ["rows", "columns", "value"] (sp_is_measure_of K) := by
  refine F.ok (k := 4) sc_is_measure_of (fun vs H Q E h => ?_) (fun cdv A outer s H vs Q E hr h => ?_)
  · obtain ⟨r, c, t, v, rfl, hv, ok, q⟩ := h
    rfl
  · refine ⟨_, (pss_cons (ps_if (PW.pt (pw_or (pt_not (pt_val (pe_callB (kIsi (K := K) rfl) (by rfl) Z.isi bt_isinstance (pa_cons (pv 2) (pa_cons (pe_ty Z.tup bt_tuple) pa_nil))))) (pw_or1 (pt_not (pt_chain op_le op_le pe_int (pe_callB (kLen (K := K) rfl) (by rfl) Z.len bt_len (pa_cons (pv 2) pa_nil)) (pe_k C.listed))))))
      (pss_one (ps_ret pe_bl))
      pss_nil)
    (pss_cons (ps_for PassesOwn.never rfl (pi_tup (pv 2)) (pg_name (i := 3) sc_is_measure_of.nd rfl (.inl rfl))
      (pss_cons (ps_if (PW.pt (pw_or (pt_not (pt_val (pe_callB (kIsi (K := K) rfl) (by rfl) Z.isi bt_isinstance (pa_cons (pv 3) (pa_cons (pe_ty Z.tup bt_tuple) pa_nil))))) (pw_or (pt_cmpR op_ne (pe_callB (kLen (K := K) rfl) (by rfl) Z.len bt_len (pa_cons (pv 3) pa_nil)) pe_int (nomark _)) (pw_or1 (pt_not (pt_val (pe_fn D_is_effect_of hr (pa_cons (pv 0) (pa_cons (pv 1) (pa_cons (pe_ix (kIxT (K := K) rfl) (pv 3) pe_int (fun _ _ => rfl)) pa_nil))))))))))
        (pss_one (ps_ret pe_bl))
        pss_nil)
      (pss_one (ps_if (PW.pt (pw_or (pt_not (pt_val (pe_fn D_is_int hr (pa_cons (pe_ix (kIxT (K := K) rfl) (pv 3) pe_int (fun _ _ => rfl)) pa_nil)))) (pw_or1 (pt_cmpR op_lt (pe_ix (kIxT (K := K) rfl) (pv 3) pe_int (fun _ _ => rfl)) pe_int (nomark _)))))
        (pss_one (ps_ret pe_bl))
        pss_nil))))
    (pss_cons (ps_if (pt_not (pt_val (pe_callB (kAll (K := K) rfl rfl) (by rfl) Z.all bt_all (pa_cons (pe_lc (own := [("one", 4), ("other", 5)]) rfl sc_is_measure_of.nd (RZ.pi_zipA (by rfl) Z.zip (pa_cons (pv 2) (pa_cons (pe_slice sl_tupA (pv 2) (po_some pe_int) po_none) pa_nil))) (blkOk_by (N := n_is_measure_of) (sc := (defScope s_is_measure_of)) (by decide +kernel)) (fun _ _ _ _ _ => (kTup (K := K) 2 rfl rfl (pgs_cons (pg_name (i := 4) sc_is_measure_of.nd rfl (.inl rfl) (.inr rfl)) (pgs_cons (pg_name (i := 5) sc_is_measure_of.nd rfl (.inl rfl) (.inr rfl)) pgs_nil)))) (fun _ _ _ _ _ => pts_nil) (fun _ _ _ _ _ => (pe_cmpR (kLtT (K := K) rfl hr.units0) (pe_ix (kIxT (K := K) rfl) (pv 4) pe_int (fun _ _ => rfl)) (pe_ix (kIxT (K := K) rfl) (pv 5) pe_int (fun _ _ => rfl)) (nomark _)))) pa_nil))))
      (pss_one (ps_ret pe_bl))
      pss_nil)
    (pss_one (ps_ret (pe_cmpR (kEqD (K := K) rfl hr.units) (pe_fn D_tidied hr (pa_cons (pe_callTy (cr_dictT rfl hr.units) (by rfl) Z.dct bt_dict (pa_cons (pv 2) pa_nil)) pa_nil)) (pv 2) (nomark _))))))), ?_⟩
    clear hr Z C D_is_effect_of D_is_int D_tidied
    obtain ⟨r, c, t, v, rfl, hv, ok, q⟩ := h
    have few := ok.few
    have l0 : 0 < t.length := List.length_pos_iff.mpr ok.ne
    ((try dsimp only); repeat infer_instance)
    refine rd_isi (ty_ft hv) k_tt ?_
    ((try dsimp only); repeat infer_instance)
    refine rd_lenF hv ?_
    rw [toldD_len]
    ((try dsimp only); repeat infer_instance)
    refine rd_ifT (decide_eq_true (by omega)) ?_
    ((try dsimp only); repeat infer_instance)
    refine rd_ifF (by rw [decide_eq_true (by omega)]; rfl) ?_
    ((try dsimp only); repeat infer_instance)
    refine hv.forT (fun i σ' H' => Same H H' ∧ ∃ x, σ' = [some (.int r), some (.int c), some v, x, none, none]) ⟨sameR _, none, rfl⟩ (fun i σ' H' p => p.1) (fun i d u σ' H' hd hP hu => ?_) (fun σ' H' hP => ?_)
    · obtain ⟨s1, z, rfl⟩ := hP
      obtain ⟨x, hx, rfl⟩ := toldD_get hd
      have hm := List.mem_of_getElem? hx
      ((try dsimp only); repeat infer_instance)
      refine rd_isi (ty_tup hu) k_tt ?_
      ((try dsimp only); repeat infer_instance)
      refine rd_len hu ?_
      ((try dsimp only); repeat infer_instance)
      refine rd_ne rfl ?_
      ((try dsimp only); repeat infer_instance)
      refine rd_ixT hu rfl fun e he => ?_
      ((try dsimp only); repeat infer_instance)
      refine ⟨r, c, x.1, e, rfl, he, ok.len x hm, ok.lns x hm, ok.nrm x hm, fun H2 s2 => ?_⟩
      ((try dsimp only); repeat infer_instance)
      refine rd_ixTI (j := 1) (hu.ups s2) rfl ?_
      ((try dsimp only); repeat infer_instance)
      refine ⟨_, rfl, ?_⟩
      ((try dsimp only); repeat infer_instance)
      refine rd_ixTI (j := 1) (hu.ups s2) rfl ?_
      ((try dsimp only); repeat infer_instance)
      refine rd_ifF (decide_eq_false (by have := ok.pos x hm; omega)) ?_
      ((try dsimp only); repeat infer_instance)
      exact ⟨s1.trans s2, _, rfl⟩
    · obtain ⟨s1, z, rfl⟩ := hP
      have hv1 := hv.ups s1
      ((try dsimp only); repeat infer_instance)
      refine rd_zip ?_
      ((try dsimp only); repeat infer_instance)
      refine rd_slF hv1 (fun e => by have := toldD_len t; rw [e] at this; simp at this; omega) fun u H2 s2 d2 => ?_
      rw [cut1] at d2
      ((try dsimp only); repeat infer_instance)
      have hv2 := hv1.ups s2
      obtain ⟨a, xs, rfl, h1, h2⟩ := hv2.sq (K := K)
      obtain ⟨b, ys, rfl, h3, h4⟩ := d2.tup_at
      refine ⟨a, b, xs, ys, rfl, .inr ⟨h1 _ (sameR _), SqT.of h3, ?_⟩⟩
      have lx : xs.length = t.length := by rw [h2.len, toldD_len]
      have ly : ys.length = t.length - 1 := by rw [h4.len, List.length_drop, toldD_len]
      refine lcW (walk_zipT (n := t.length - 1) (by omega)) (fun H9 s => ⟨h1 _ s, SqT.of (s _ _ h3)⟩) (fun _ => some (.bool true)) (fun i x H8 H9 hi s hY => ?_) (by omega) (fun Dd H9 hn s3 hL => ?_)
      · obtain ⟨T, x1, y1, rfl, hT, rfl, ex, ey⟩ := hY
        obtain ⟨dx, edx, hdx⟩ := h2.got ex
        obtain ⟨dy, edy, hdy⟩ := h4.got ey
        rw [List.getElem?_drop] at edy
        obtain ⟨x, hx, rfl⟩ := toldD_get edx
        obtain ⟨y, hy, rfl⟩ := toldD_get edy
        have sT := same_upd (o := .tup [x1, y1]) hT
        refine ⟨sT, fun R Y hR hY2 => ?_⟩
        have dp : Dt (upd H8 T (.tup [x1, y1])) (.ref T) (.tuple [_, _]) := Dt.newT hT (.cons (hdx.ups s) (.cons (hdy.ups s) .nil))
        refine rd_gtup dp rfl fun zs hzs => ?_
        refine rd_gcons hzs fun e r0 he hr => ?_
        ((try dsimp only); repeat infer_instance)
        refine rd_gcons hr fun w r2 hw hr2 => ?_
        ((try dsimp only); repeat infer_instance)
        refine rd_gnil' hr2 ?_
        refine ⟨rfl, ?_⟩
        ((try dsimp only); repeat infer_instance)
        refine rd_ixT he rfl fun e1 he1 => ?_
        ((try dsimp only); repeat infer_instance)
        refine rd_ixT hw rfl fun e2 he2 => ?_
        refine rd_ltE he1 he2 ?_
        have lt : HT.lexLt (eI x.1) (eI y.1) = true := by
          have := List.pairwise_iff_getElem.mp ok.srt i (1 + i) (List.getElem?_eq_some_iff.mp hx).1 (List.getElem?_eq_some_iff.mp hy).1 (by omega)
          rw [(List.getElem?_eq_some_iff.mp hx).2, (List.getElem?_eq_some_iff.mp hy).2] at this
          exact this
        rw [lt]
        exact hY2 _ rfl _ _ (sameR _) (.bl true)
      · rw [range_all] at hL
        ((try dsimp only); repeat infer_instance)
        refine rd_all hL ?_
        rw [all_true]
        ((try dsimp only); repeat infer_instance)
        have hv3 := hv2.ups s3
        refine ⟨.ref a, toldK t, rfl, hv3, ?_, ?_, fun p hp => ?_⟩
        · rw [keys_told]
          have := ok.srt.nodup
          rw [List.nodup_iff_pairwise_ne, List.pairwise_map] at this ⊢
          exact this.imp fun h z => h (keyE_inj z)
        · unfold toldK; rw [List.length_map]; omega
        rw [toldV_K]
        have s4 := same_upd (o := .dT (toldV t)) hp
        have hv4 := hv3.ups s4
        have e4 : upd H9 p (.dT (toldV t)) p = some (.dT (toldV t)) := upd_same
        generalize upd H9 p (.dT (toldV t)) = H10 at *
        ((try dsimp only); repeat infer_instance)
        refine ⟨r, c, t, p, rfl, e4, ok, fun u H11 s5 d5 => ?_⟩
        ((try dsimp only); repeat infer_instance)
        refine ⟨.tuple (toldD t), .tuple (toldD t), d5.dp K, (hv4.ups s5).dp, sh_told t, sh_told t, ?_⟩
        have eq : PyData.eqv (.tuple (toldD t)) (.tuple (toldD t)) = true := (eqv_iff _ _ (Pl_told t) (Pl_told t)).mpr rfl
        rw [eq]
        exact q _ (((((s1.trans s2)).trans s3).trans s4).trans s5)

abbrev s_need_measure : Stmt := topS 35
abbrev n_need_measure : List Str := ["rows", "columns", "value"]
theorem sc_need_measure : FnScope n_need_measure ["rows", "columns", "value"] (defScope s_need_measure) := ⟨rfl, rfl, rfl, by decide +kernel, rfl, by decide +kernel, by decide +kernel⟩

def sp_need_measure (K : PySem.W.Frag) : Sp := fun vs H Q E => ∃ (r c : Nat) (t : Told) (v : V), vs = [.int r, .int c, v] ∧ 1 ≤ r ∧ r ≤ 12 ∧ 1 ≤ c ∧ c ≤ 12 ∧ Ft H v (toldD t) ∧ TOk r c t ∧ retN H Q
theorem ok_need_measure {P : Program} {w : World} {K : PySem.W.Frag} {mg : Str → Option Value} {base : Heap} {f : Addr} {fd : FuncData} (F : Fun K "need_measure" "need_measure" s_need_measure f fd) (Z : Bl mg) (C : Ct mg) (D_is_measure_of : Dn P w K mg base "is_measure_of" ["rows", "columns", "value"] 5 (sp_is_measure_of K)) (D_need_board : Dn P w K mg base "need_board" ["rows", "columns"] 4 (sp_need_board K)) : FnOk P w K mg base CX0 6 f fd ["rows", "columns", "value"] (sp_need_measure K) := by
  refine F.ok (k := 5) sc_need_measure (fun vs H Q E h => ?_) (fun cdv A outer s H vs Q E hr h => ?_)
  · obtain ⟨r, c, t, v, rfl, h1, h2, h3, h4, hv, ok, q⟩ := h
    rfl
  · refine ⟨_, (pss_cons (ps_expr (pe_fn D_need_board hr (pa_cons (pv 0) (pa_cons (pv 1) pa_nil))))
    (pss_one (ps_if (pt_not (pt_val (pe_fn D_is_measure_of hr (pa_cons (pv 0) (pa_cons (pv 1) (pa_cons (pv 2) pa_nil))))))
      (pss_one ps_never)
      pss_nil))), ?_⟩
    clear hr Z C D_is_measure_of D_need_board
    obtain ⟨r, c, t, v, rfl, h1, h2, h3, h4, hv, ok, q⟩ := h
    ((try dsimp only); repeat infer_instance)
    refine ⟨_, _, rfl, by omega, by omega, by omega, by omega, ?_⟩
    ((try dsimp only); repeat infer_instance)
    refine ⟨r, c, t, v, rfl, hv, ok, fun H1 s1 => ?_⟩
    ((try dsimp only); repeat infer_instance)
    exact q _ s1

abbrev s_need_chain : Stmt := topS 39
abbrev n_need_chain : List Str := ["rows", "columns", "told"]
theorem sc_need_chain : FnScope n_need_chain ["rows", "columns", "told"] (defScope s_need_chain) := ⟨rfl, rfl, rfl, by decide +kernel, rfl, by decide +kernel, by decide +kernel⟩

def sp_need_chain (K : PySem.W.Frag) : Sp := fun vs H Q E => ∃ (r c : Nat) (t : Told) (v : V), vs = [.int r, .int c, v] ∧ 1 ≤ r ∧ r ≤ 12 ∧ 1 ≤ c ∧ c ≤ 12 ∧ r * c ≤ 6 ∧ Ft H v (toldD t) ∧ TOk r c t ∧ retN H Q
theorem ok_need_chain {P : Program} {w : World} {K : PySem.W.Frag} {mg : Str → Option Value} {base : Heap} {f : Addr} {fd : FuncData} (F : Fun K "need_chain" "need_chain" s_need_chain f fd) (Z : Bl mg) (C : Ct mg) (D_need_cells : Dn P w K mg base "need_cells" ["rows", "columns", "most"] 5 (sp_need_cells K)) (D_need_measure : Dn P w K mg base "need_measure" ["rows", "columns", "value"] 6 (sp_need_measure K)) : FnOk P w K mg base CX0 7 f fd ["rows", "columns", "told"] (sp_need_chain K) := by
  refine F.ok (k := 6) sc_need_chain (fun vs H Q E h => ?_) (fun cdv A outer s H vs Q E hr h => ?_)
  · obtain ⟨r, c, t, v, rfl, h1, h2, h3, h4, h5, hv, ok, q⟩ := h
    rfl
  · refine ⟨_, (pss_cons (ps_expr (pe_fn D_need_cells hr (pa_cons (pv 0) (pa_cons (pv 1) (pa_cons (pe_k C.cells) pa_nil)))))
    (pss_one (ps_expr (pe_fn D_need_measure hr (pa_cons (pv 0) (pa_cons (pv 1) (pa_cons (pv 2) pa_nil))))))), ?_⟩
    clear hr Z C D_need_cells D_need_measure
    obtain ⟨r, c, t, v, rfl, h1, h2, h3, h4, h5, hv, ok, q⟩ := h
    ((try dsimp only); repeat infer_instance)
    refine ⟨_, _, _, rfl, by omega, by omega, by omega, by omega, by exact_mod_cast h5, ?_⟩
    ((try dsimp only); repeat infer_instance)
    refine ⟨r, c, t, v, rfl, h1, h2, h3, h4, hv, ok, fun H1 s1 => ?_⟩
    ((try dsimp only); repeat infer_instance)
    exact q _ s1

end Cz

set_option Elab.async false
set_option linter.all false
set_option maxRecDepth 100000
set_option maxHeartbeats 1000000
/-! the measure that the law makes, in plain -/
namespace Cz
open PySem L2
def accT (r c : Nat) (t : Told) (x : Eff × Int) : Told := addE t (lnrm r c x.1) ((lookE t (lnrm r c x.1)).getD 0 + x.2)
structure AOk (r c : Nat) (ths : List (Eff × Int)) (t : Told) : Prop where
  nd : (t.map (·.1)).Nodup
  src : ∀ x ∈ t, ∃ y ∈ ths, x.1 = lnrm r c y.1
  pos : ∀ x ∈ t, 0 < x.2
  wt : Cs.wt t = Cs.wt ths
  len : t.length ≤ ths.length
theorem wt_app (a b : Told) : Cs.wt (a ++ b) = Cs.wt a + Cs.wt b := by
  unfold Cs.wt
  rw [List.map_append, List.sum_append]
theorem wt_cons (x : Eff × Int) (t : Told) : Cs.wt (x :: t) = x.2 + Cs.wt t := by simp [Cs.wt]
theorem addE_keys (t : Told) (e : Eff) (w : Int) : (addE t e w).map (·.1) = if e ∈ t.map (·.1) then t.map (·.1) else t.map (·.1) ++ [e] := by
  have h : (t.any fun x => decide (x.1 = e)) = decide (e ∈ t.map (·.1)) := by
    by_cases q : e ∈ t.map (·.1)
    · rw [decide_eq_true q, List.any_eq_true]
      obtain ⟨x, hx, rfl⟩ := List.mem_map.mp q
      exact ⟨x, hx, decide_eq_true rfl⟩
    · rw [decide_eq_false q, List.any_eq_false]
      intro x hx z
      exact q (List.mem_map.mpr ⟨x, hx, of_decide_eq_true z⟩)
  unfold addE
  rw [h]
  by_cases q : e ∈ t.map (·.1)
  · rw [decide_eq_true q, if_pos rfl, if_pos q, List.map_map]
    refine List.map_congr_left fun x _ => ?_
    simp only [Function.comp]
    split <;> rfl
  · rw [decide_eq_false q, if_neg (by decide), if_neg q, List.map_append]
    rfl
theorem look_none {t : Told} {e : Eff} (h : e ∉ t.map (·.1)) : lookE t e = none := by
  unfold lookE
  rw [List.find?_eq_none.mpr fun x hx z => h (List.mem_map.mpr ⟨x, hx, of_decide_eq_true z⟩)]
  rfl
theorem wt_put {t : Told} (hn : (t.map (·.1)).Nodup) {e : Eff} {w : Int} (h : e ∈ t.map (·.1)) : Cs.wt (t.map fun x => if x.1 = e then (x.1, (lookE t e).getD 0 + w) else x) = Cs.wt t + w := by
  generalize hv : (lookE t e).getD 0 = v
  induction t with
  | nil => simp at h
  | cons y t ih =>
    rw [List.map_cons, List.nodup_cons] at hn
    rw [List.map_cons, wt_cons, wt_cons]
    by_cases q : y.1 = e
    · have e1 : lookE (y :: t) e = some y.2 := by unfold lookE; rw [List.find?_cons, decide_eq_true q]; rfl
      rw [e1] at hv
      have rest : (t.map fun x => if x.1 = e then (x.1, v + w) else x) = t := by
        have : ∀ x ∈ t, (if x.1 = e then (x.1, v + w) else x) = x := fun x hx => if_neg fun z => hn.1 (by rw [q, ← z]; exact List.mem_map.mpr ⟨x, hx, rfl⟩)
        rw [List.map_congr_left this, List.map_id']
      rw [rest, if_pos q]
      simp at hv
      show v + w + _ = _
      omega
    · have e1 : lookE (y :: t) e = lookE t e := by unfold lookE; rw [List.find?_cons, decide_eq_false q]
      rw [e1] at hv
      have h' : e ∈ t.map (·.1) := by
        rw [List.map_cons] at h
        rcases List.mem_cons.mp h with z | z
        · exact absurd z.symm q
        · exact z
      rw [if_neg q, ih hn.2 h' hv]
      omega
theorem look_pos {t : Told} (hp : ∀ x ∈ t, 0 < x.2) (e : Eff) : 0 ≤ (lookE t e).getD 0 := by
  unfold lookE
  cases h : t.find? fun x => decide (x.1 = e) with
  | none => simp
  | some x => have := hp x (List.mem_of_find?_eq_some h); simp; omega
theorem AOk.step {r c : Nat} {ths : List (Eff × Int)} {t : Told} (h : AOk r c ths t) {y : Eff × Int} (hy : 0 < y.2) : AOk r c (ths ++ [y]) (accT r c t y) := by
  have keys := addE_keys t (lnrm r c y.1) ((lookE t (lnrm r c y.1)).getD 0 + y.2)
  have lp := look_pos h.pos (lnrm r c y.1)
  have mem : ∀ x ∈ accT r c t y, x ∈ t ∨ x.1 = lnrm r c y.1 ∧ x.2 = (lookE t (lnrm r c y.1)).getD 0 + y.2 := fun x hx => by
    unfold accT addE at hx
    split at hx
    · obtain ⟨z, hz, rfl⟩ := List.mem_map.mp hx
      split
      · rename_i q; exact .inr ⟨q, rfl⟩
      · exact .inl hz
    · rcases List.mem_append.mp hx with q | q
      · exact .inl q
      · simp at q; subst q; exact .inr ⟨rfl, rfl⟩
  refine ⟨?_, fun x hx => ?_, fun x hx => ?_, ?_, ?_⟩
  · show ((accT r c t y).map (·.1)).Nodup
    unfold accT
    rw [keys]
    split
    · exact h.nd
    · rename_i q
      rw [List.nodup_append]
      refine ⟨h.nd, by simp, fun a ha b hb => ?_⟩
      simp at hb
      subst hb
      exact fun z => q (z ▸ ha)
  · rcases mem x hx with q | q
    · obtain ⟨z, hz, e⟩ := h.src x q
      exact ⟨z, by simp [hz], e⟩
    · exact ⟨y, by simp, q.1⟩
  · rcases mem x hx with q | q
    · exact h.pos x q
    · omega
  · rw [wt_app]
    have : Cs.wt [y] = y.2 := by simp [Cs.wt]
    rw [this]
    by_cases q : lnrm r c y.1 ∈ t.map (·.1)
    · have : accT r c t y = t.map fun x => if x.1 = lnrm r c y.1 then (x.1, (lookE t (lnrm r c y.1)).getD 0 + y.2) else x := by
        unfold accT addE
        rw [if_pos]
        obtain ⟨x, hx, e⟩ := List.mem_map.mp q
        exact List.any_eq_true.mpr ⟨x, hx, decide_eq_true e⟩
      rw [this, wt_put h.nd q, h.wt]
    · have : accT r c t y = t ++ [(lnrm r c y.1, (lookE t (lnrm r c y.1)).getD 0 + y.2)] := by
        unfold accT addE
        rw [if_neg]
        intro z
        obtain ⟨x, hx, e⟩ := List.any_eq_true.mp z
        exact q (List.mem_map.mpr ⟨x, hx, of_decide_eq_true e⟩)
      rw [this, wt_app, look_none q, h.wt]
      simp [Cs.wt]
  · have := congrArg List.length keys
    rw [List.length_map] at this
    show (addE _ _ _).length ≤ _
    rw [this]
    have := h.len
    split <;> simp <;> omega
theorem wt_perm {a b : Told} (h : a.Perm b) : Cs.wt a = Cs.wt b := by
  induction h with
  | nil => rfl
  | cons x _ ih => rw [wt_cons, wt_cons, ih]
  | swap x y l => rw [wt_cons, wt_cons, wt_cons, wt_cons]; omega
  | trans _ _ h1 h2 => rw [h1, h2]
theorem wt_div {g : Int} (hg : 1 ≤ g) : ∀ {t : Told}, (∀ x ∈ t, 0 < x.2) → Cs.wt (cutT t g) ≤ Cs.wt t
  | [], _ => Int.le_refl _
  | x :: t, h => by
    have h1 := wt_div hg (t := t) fun y hy => h y (by simp [hy])
    show Cs.wt ((x.1, x.2 / g) :: cutT t g) ≤ _
    rw [wt_cons, wt_cons]
    have := Int.ediv_le_self g (show 0 ≤ x.2 by have := h x (by simp); omega)
    show x.2 / g + _ ≤ _
    omega
theorem wt_len {n : Nat} : ∀ {ths : List (Eff × Int)}, (∀ x ∈ ths, x.2 ≤ n) → Cs.wt ths ≤ n * ths.length
  | [], _ => by simp [Cs.wt]
  | x :: t, h => by
    have h1 := wt_len (ths := t) fun y hy => h y (by simp [hy])
    have h2 := h x (by simp)
    rw [wt_cons, List.length_cons, Int.natCast_add, Int.mul_add]
    simp
    omega
theorem wt_mem : ∀ {t : Told}, (∀ y ∈ t, 0 < y.2) → ∀ {x}, x ∈ t → x.2 ≤ Cs.wt t
  | [], _, x, hx => by simp at hx
  | z :: l, h, x, hx => by
    rw [wt_cons]
    have hz := h z (by simp)
    have hl : ∀ y ∈ l, 0 < y.2 := fun y hy => h y (by simp [hy])
    have nn : 0 ≤ Cs.wt l := by
      cases l with
      | nil => simp [Cs.wt]
      | cons y l => have := wt_mem hl (x := y) (by simp); have := hl y (by simp); omega
    rcases List.mem_cons.mp hx with rfl | q
    · omega
    · have := wt_mem hl q; omega
theorem gN_le16 {t : Told} (hp : ∀ x ∈ t, 0 < x.2) (h : ∀ x ∈ t, x.2 ≤ 16) (i : Nat) : gN (wN (t.take i)) ≤ 16 := by
  cases t with
  | nil => simp [wN, gN]
  | cons x t =>
    cases i with
    | zero => simp [wN, gN]
    | succ i =>
      have h0 := hp x (by simp)
      have h1 := h x (by simp)
      have h2 : gN (wN ((x :: t).take (i + 1))) ∣ x.2.toNat := gN_dvd.mp (Nat.dvd_refl _) _ (by unfold wN; simp)
      have := Nat.le_of_dvd (by omega) h2
      omega
/-- the law's measure is a measure -/
theorem tok_of {r c : Nat} {ths : List (Eff × Int)} {t t' : Told} (hb : (r, c) ∈ boards) (ho : ThrOk r c ths) (h0 : 0 < ths.length) (h4 : ths.length ≤ 4) (A : AOk r c ths t) (hp : t'.Perm t) (hs : TSort t') :
    0 < gN (wN t) ∧ gN (wN t) ≤ 16 ∧ TOk r c (cutT t' (gN (wN t) : Nat)) := by
  have wle := wt_len (n := 4) (ths := ths) fun x hx => (ho x hx).2.2.2
  have w16 : Cs.wt t ≤ 16 := by rw [A.wt]; omega
  have hne : t ≠ [] := fun z => by
    have := A.wt
    rw [z] at this
    cases ths with
    | nil => simp at h0
    | cons x l =>
      rw [wt_cons] at this
      have h1 := (ho x (by simp)).2.2.1
      have h2 : 0 ≤ Cs.wt l := by
        have : ∀ l : List (Eff × Int), (∀ y ∈ l, 0 ≤ y.2) → 0 ≤ Cs.wt l := fun l => by
          induction l with
          | nil => intro _; simp [Cs.wt]
          | cons z l ih => intro h; rw [wt_cons]; have := h z (by simp); have := ih fun y hy => h y (by simp [hy]); omega
        exact this l fun y hy => by have := (ho y (by simp [hy])).2.2.1; omega
      simp [Cs.wt] at this
      simp [Cs.wt] at h2
      omega
  obtain ⟨x0, hx0⟩ := List.exists_mem_of_ne_nil t hne
  have p0 := A.pos x0 hx0
  have g0 : 0 < gN (wN t) := gN_pos (x := x0.2.toNat) (List.mem_map.mpr ⟨x0, hx0, rfl⟩) (by omega)
  have wpos : ∀ x ∈ t, x.2 ≤ Cs.wt t := fun x hx => by
    have : ∀ t : Told, (∀ y ∈ t, 0 < y.2) → ∀ x ∈ t, x.2 ≤ Cs.wt t := fun t => by
      induction t with
      | nil => intro _ x hx; simp at hx
      | cons z l ih =>
        intro h x hx
        rw [wt_cons]
        have hz := h z (by simp)
        have hl : ∀ y ∈ l, 0 < y.2 := fun y hy => h y (by simp [hy])
        have nn : 0 ≤ Cs.wt l := by
          cases l with
          | nil => simp [Cs.wt]
          | cons y l => have := ih hl y (by simp); have := hl y (by simp); omega
        rcases List.mem_cons.mp hx with rfl | q
        · omega
        · have := ih hl x q; omega
    exact this t A.pos x hx
  have gle : ∀ x ∈ t, (gN (wN t) : Int) ∣ x.2 := fun x hx => by
    have h1 := gN_dvd.mp (Nat.dvd_refl (gN (wN t))) x.2.toNat (List.mem_map.mpr ⟨x, hx, rfl⟩)
    have := A.pos x hx
    have e : x.2 = (x.2.toNat : Int) := by omega
    rw [e]
    exact Int.natCast_dvd_natCast.mpr h1
  have g16 : gN (wN t) ≤ 16 := by
    have h1 := Int.le_of_dvd p0 (gle x0 hx0)
    have := wpos x0 hx0
    omega
  refine ⟨g0, g16, ?_⟩
  have mem : ∀ x ∈ cutT t' (gN (wN t) : Nat), ∃ y ∈ t, x = (y.1, y.2 / (gN (wN t) : Nat)) := fun x hx => by
    obtain ⟨y, hy, rfl⟩ := List.mem_map.mp hx
    exact ⟨y, hp.mem_iff.mp hy, rfl⟩
  have nrmA : ∀ x ∈ t, Cz.nrm r c x.1 = x.1 ∧ (∀ n ∈ x.1, n < r + c) ∧ x.1.length ≤ 3 := fun x hx => by
    obtain ⟨y, hy, e⟩ := A.src x hx
    obtain ⟨h1, h2, _, _⟩ := ho y hy
    have := nrm_ok (r := r) (c := c) (e := y.1) hb h1 h2
    rw [e]
    exact this
  refine ⟨fun z => ?_, ?_, fun x hx => ?_, fun x hx => ?_, fun x hx => ?_, fun x hx => ?_, ?_, ?_, ?_⟩
  · have : t' = [] := List.map_eq_nil_iff.mp z
    rw [this] at hp
    exact hne hp.symm.eq_nil
  · unfold cutT
    rw [List.length_map, hp.length_eq]
    have := A.len
    omega
  · obtain ⟨y, hy, rfl⟩ := mem x hx
    exact (nrmA y hy).1
  · obtain ⟨y, hy, rfl⟩ := mem x hx
    exact (nrmA y hy).2.1
  · obtain ⟨y, hy, rfl⟩ := mem x hx
    exact (nrmA y hy).2.2
  · obtain ⟨y, hy, rfl⟩ := mem x hx
    exact Int.ediv_pos_of_pos_of_dvd (A.pos y hy) (by omega) (gle y hy)
  · unfold TSort cutT
    rw [List.pairwise_map]
    exact hs
  · have e : wN (cutT t' (gN (wN t) : Nat)) = (wN t').map (· / gN (wN t)) := by
      unfold wN cutT
      rw [List.map_map, List.map_map]
      refine List.map_congr_left fun x hx => ?_
      have := A.pos x (hp.mem_iff.mp hx)
      show (x.2 / (gN (List.map (fun x => x.2.toNat) t) : Nat)).toNat = x.2.toNat / _
      have e2 : x.2 = (x.2.toNat : Int) := by omega
      rw [e2, ← Int.natCast_ediv]
      rfl
    have ep : gN (wN t') = gN (wN t) := gN_perm (hp.map _)
    rw [e, ← ep]
    exact gN_div (by rw [ep]; exact g0)
  · have := wt_div (g := (gN (wN t) : Nat)) (by omega) (t := t') fun x hx => A.pos x (hp.mem_iff.mp hx)
    rw [wt_perm hp] at this
    omega
end Cz

set_option Elab.async false
set_option linter.all false
set_option maxRecDepth 100000
set_option maxHeartbeats 4000000

namespace Cz
open PySem L2
open PySem.W (dataLe)
local macro_rules | `(tactic| infer_instance) => `(tactic| with_reducible first
  | refine rd_seq ?_ | refine rd_cons ?_ | refine rd_nil ?_ | refine rd_c ?_ | refine rd_op ?_ | (refine rd_var (v := ?_) ?_ ?_; rotate_left 1; (with_unfolding_all rfl)) | refine rd_un ?_ | refine rd_call ?_ | refine rd_cb ?_ | refine rd_I0 ?_ | refine rd_test ?_ | refine rd_tB ?_ | refine rd_k ?_
  | refine rd_not ?_ | refine rd_and ?_ | refine rd_or ?_ | refine rd_andV ?_ | refine rd_orV ?_ | refine rd_notV ?_ | refine rd_ife ?_ | refine rd_chain ?_ | refine rd_tup ?_ | refine rd_lst ?_ | refine rd_bm0 ?_ | refine rd_bm ?_ | refine rd_sl ?_ | refine rd_nopart ?_ | refine rd_part ?_ | refine rd_i ?_
  | refine rd_next ?_ | refine rd_cont ?_ | refine rd_drop ?_ | refine rd_ret ?_ | refine rd_retN ?_ | refine rd_if ?_ | refine rd_asg ?_ | refine rd_gname ?_ | refine rd_par ?_ | refine rd_par3 ?_ | refine rd_v2 ?_ | refine rd_v3 ?_ | refine rd_gnil ?_ | refine rd_for ?_ | refine rd_lc ?_ | refine rd_yes ?_ | refine rd_iT ?_ | refine rd_iL ?_ | refine rd_iR1 ?_ | refine rd_iR2 ?_ | refine rd_iS ?_ | refine rd_dput ?_ | refine rd_din ?_ | refine rd_dnin ?_ | refine rd_dget ?_ | refine rd_dget2 ?_ | refine rd_dnewK ?_ | refine rd_dnewT ?_ | refine rd_augS ?_ | refine rd_gsub ?_ | refine rd_body ?_ | refine rd_valsT ?_ | refine rd_itemsT ?_ | refine rd_frz ?_ | refine rd_keys ?_ | refine rd_rev ?_ | (refine rd_ifT ?_ ?_; (with_unfolding_all rfl)) | (refine rd_ifF ?_ ?_; (with_unfolding_all rfl)))

theorem Thrs.get {B : List Addr} {H : Hp} : ∀ {xs : List V} {ys : List (Eff × Int)} {i : Nat} {x : V}, Thrs B H xs ys → xs[i]? = some x → ∃ y, ys[i]? = some y ∧ ThrAt B H x y
  | _, _, 0, _, .cons h _, e => by cases e; exact ⟨_, rfl, h⟩
  | _, _, i + 1, _, .cons _ t, e => Thrs.get (i := i) t e
theorem isD_T {H : Hp} {a : Addr} {kvs : List (List Key × V)} (h : H a = some (.dT kvs)) : IsD H a := .inr ⟨kvs, .inl h⟩
theorem accT_snoc (r c : Nat) (l : List (Eff × Int)) (y : Eff × Int) (t : Told) : (l ++ [y]).foldl (accT r c) t = accT r c (l.foldl (accT r c) t) y := by rw [List.foldl_append]; rfl
theorem AOk.take {r c : Nat} {ths : List (Eff × Int)} (ho : ThrOk r c ths) : ∀ i, AOk r c (ths.take i) ((ths.take i).foldl (accT r c) [])
  | 0 => ⟨by simp, by simp, by simp, rfl, by simp⟩
  | i + 1 => by
    have ih := AOk.take ho i
    rw [List.take_add_one]
    cases h : ths[i]? with
    | none => simpa using ih
    | some y =>
      simp only [Option.toList_some]
      rw [accT_snoc]
      exact ih.step (by have := (ho y (List.mem_of_getElem? h)).2.2.1; omega)
abbrev s__law_measure : Stmt := topS 63
abbrev n__law_measure : List Str := ["_law_high", "_law_wide", "_law_throws_here", "_law_told", "_law_shared", "_law_lines", "_law_weight", "_law_one"]
theorem sc__law_measure : FnScope n__law_measure ["_law_high", "_law_wide", "_law_throws_here"] (defScope s__law_measure) := ⟨rfl, rfl, rfl, by decide +kernel, rfl, by decide +kernel, by decide +kernel⟩

def sp__law_measure (K : PySem.W.Frag) : Sp := fun vs H Q E => ∃ (r c : Nat) (p : Addr) (xs : List V) (ths : List (Eff × Int)) (B : List Addr), vs = [.int r, .int c, .ref p] ∧ (r, c) ∈ boards ∧ H p = some (.lst xs) ∧ Thrs B H xs ths ∧ ThrOk r c ths ∧ 0 < ths.length ∧ ths.length ≤ 4 ∧
  (∀ v H' t, Same H H' → Ft H' v (toldD t) → TOk r c t → Q v H')
theorem ok__law_measure {P : Program} {w : World} {K : PySem.W.Frag} {mg : Str → Option Value} {base : Heap} {f : Addr} {fd : FuncData} (F : Fun K "_law_measure" "_law_measure" s__law_measure f fd) (Z : Bl mg) (C : Ct mg) (D_law_common : Dn P w K mg base "_law_common" ["_law_one", "_law_other"] 1 (sp__law_common K)) (D_law_normal : Dn P w K mg base "_law_normal" ["_law_high", "_law_wide", "_law_lines"] 1 (sp__law_normal K)) : FnOk P w K mg base CX0 2 f fd ["_law_high", "_law_wide", "_law_throws_here"] (sp__law_measure K) := by
  refine F.ok (k := 1) sc__law_measure (fun vs H Q E h => ?_) (fun cdv A outer s H vs Q E hr h => ?_)
  · obtain ⟨r, c, p, xs, ths, B, rfl, hb, hp, hx, ho, h0, h4, q⟩ := h
    rfl
  · refine ⟨_, (pss_cons (ps_asg (pe_tup (pa_cons pe_dnewT (pa_cons pe_int pa_nil))) (pg_tup rfl (pgs_cons (pg_name (i := 3) sc__law_measure.nd rfl (.inr rfl)) (pgs_cons (pg_name (i := 4) sc__law_measure.nd rfl (.inr rfl)) pgs_nil))))
    (pss_cons (ps_for PassesOwn.never rfl (pi_list (pv 2)) (pg_tup rfl (pgs_cons (pg_name (i := 5) sc__law_measure.nd rfl (.inl rfl)) (pgs_cons (pg_name (i := 6) sc__law_measure.nd rfl (.inl rfl)) pgs_nil)))
      (pss_cons (ps_set (i := 7) sc__law_measure.nd rfl (.inl rfl) (pe_fn D_law_normal hr (pa_cons (pv 0) (pa_cons (pv 1) (pa_cons (pv 5) pa_nil)))))
      (pss_one (ps_dput (hu_of hr) (pv 3) (pv 7) (pe_op op_add (pe_dget2 (hu_of hr) (pv 3) (pv 7) pe_int ⟨rfl, rfl, rfl, rfl⟩) (pv 6)) rfl))))
    (pss_cons (ps_lock (ps_for PassesOwn.never rfl (pi_keys (pv 3)) (pg_name (i := 7) sc__law_measure.nd rfl (.inl rfl))
      (pss_one (ps_set (i := 4) sc__law_measure.nd rfl (.inr rfl) (pe_fn D_law_common hr (pa_cons (pe_dget (hu_of hr) (pv 3) (pv 7) (fun _ _ => rfl)) (pa_cons (pv 4) pa_nil)))))))
    (pss_one (ps_ret (pe_callTy cr_tupF (by rfl) Z.tup bt_tuple (pa_cons (pe_lc (own := [("_law_one", 7)]) rfl sc__law_measure.nd (pi_list (pe_callB (cr_srtT rfl hr.units) (by rfl) Z.srt bt_sorted (pa_cons (pv 3) pa_nil))) (blkOk_by (N := n__law_measure) (sc := (defScope s__law_measure)) (by decide +kernel)) (fun _ _ _ _ _ => (pg_name (i := 7) sc__law_measure.nd rfl (.inl rfl) (.inr rfl))) (fun _ _ _ _ _ => pts_nil) (fun _ _ _ _ _ => (pe_tup (pa_cons (pv 7) (pa_cons (pe_op op_fdivW (pe_dget (hu_of hr) (pv 3) (pv 7) (fun _ _ => rfl)) (pv 4)) pa_nil))))) pa_nil))))))), ?_⟩
    clear hr Z C D_law_common D_law_normal
    obtain ⟨r, c, p, xs, ths, B, rfl, hb, hp, hx, ho, h0, h4, q⟩ := h
    ((try dsimp only); repeat infer_instance)
    intro d hd
    ((try dsimp only); repeat infer_instance)
    refine ⟨by show 2 ≤ _; decide, fun tp htp => ?_⟩
    have e0 : upd (upd H d (.dT [])) tp (.tup [.ref d, .int 0]) d = some (.dT []) := same_upd htp _ _ upd_same
    have eS : Same H (upd (upd H d (.dT [])) tp (.tup [.ref d, .int 0])) := (same_upd hd).trans (same_upd htp)
    have eT : upd (upd H d (.dT [])) tp (.tup [.ref d, .int 0]) tp = some (.tup [.ref d, .int 0]) := upd_same
    generalize upd (upd H d (.dT [])) tp (.tup [.ref d, .int 0]) = H1 at *
    refine ⟨tp, _, rfl, SqT.of eT, rfl, _, _, rfl, ?_⟩
    ((try dsimp only); repeat infer_instance)
    refine ⟨_, _, rfl, ?_⟩
    ((try dsimp only); repeat infer_instance)
    refine ⟨p, rfl, ⟨_, SqL.of (eS _ _ hp)⟩, ?_⟩
    refine for_list (K := K) (a := p) (xs := xs) (fun i σ' H' => ∃ x y z, σ' = [some (.int r), some (.int c), some (.ref p), some (.ref d), some (.int 0), x, y, z] ∧ Same H H' ∧ H' d = some (.dT (toldV ((ths.take i).foldl (accT r c) [])))) ⟨none, none, none, rfl, eS, e0⟩ (fun i σ' H' hi hP => ?_) (fun i x σ' H' hi hP => ?_) (fun σ' H' hP => ?_)
    · obtain ⟨x, y, z, rfl, s1, _⟩ := hP
      exact SqL.of (s1 _ _ hp)
    · obtain ⟨x1, y1, z1, rfl, s1, e1⟩ := hP
      obtain ⟨y, hy, t, l, rfl, ht, hl, _⟩ := hx.get hi
      obtain ⟨o1, o2, o3, o4⟩ := ho y (List.mem_of_getElem? hy)
      refine ⟨t, _, rfl, SqT.of (s1 _ _ ht), rfl, _, _, rfl, ?_⟩
      ((try dsimp only); repeat infer_instance)
      refine ⟨_, _, rfl, ?_⟩
      ((try dsimp only); repeat infer_instance)
      refine ⟨r, c, y.1, _, rfl, ⟨l, _, rfl, s1 _ _ hl, da_of_lns _⟩, by omega, fun v H2 s2 d2 => ?_⟩
      rw [← keyD_E] at d2
      have e2 := s2 _ _ e1
      have A := AOk.take (r := r) (c := c) ho i
      have hlen : (toldV ((ths.take i).foldl (accT r c) [])).length ≤ 4 := by
        have := A.len
        unfold toldV
        rw [List.length_map]
        rw [List.length_take] at this
        omega
      have e3 : (ths.take (i + 1)).foldl (accT r c) [] = accT r c ((ths.take i).foldl (accT r c) []) y := by rw [List.take_add_one, hy]; exact accT_snoc _ _ _ _ _
      rw [e3]
      generalize (ths.take i).foldl (accT r c) [] = t0 at *
      ((try dsimp only); repeat infer_instance)
      refine ⟨d, rfl, isD_T e2, ?_⟩
      ((try dsimp only); repeat infer_instance)
      have g := DGet.of e2 d2
      rw [toldV_look] at g
      refine ⟨_, g, ?_⟩
      have ev : ((lookE t0 (lnrm r c y.1)).map V.int).getD (.int 0) = .int ((lookE t0 (lnrm r c y.1)).getD 0) := by cases lookE t0 (lnrm r c y.1) <;> rfl
      rw [ev]
      ((try dsimp only); repeat infer_instance)
      refine ⟨d, _, rfl, DPut.of e2 d2 (Nat.lt_of_le_of_lt hlen (by decide)), ?_⟩
      rw [toldV_put]
      have hd0 : H d = none := hd
      exact ⟨_, _, _, rfl, upd_keep (s1.trans s2) hd0, upd_same⟩
    · obtain ⟨x1, y1, z1, rfl, s1, e1⟩ := hP
      have lx := hx.len
      rw [lx, List.take_length] at e1
      have A := AOk.take (r := r) (c := c) ho ths.length
      rw [List.take_length] at A
      generalize ths.foldl (accT r c) [] = t0 at *
      have l4 : t0.length ≤ 4 := by have := A.len; omega
      have w16 : ∀ x ∈ t0, 0 < x.2 := A.pos
      obtain ⟨t', ht', hs', esort⟩ := sorted_told t0 A.nd
      obtain ⟨g0, g16, ok⟩ := tok_of hb ho h0 h4 A ht' hs'
      ((try dsimp only); repeat infer_instance)
      refine rd_lock e1 True.intro fun od => ?_
      ((try dsimp only); repeat infer_instance)
      refine ⟨d, od, rfl, .inr ⟨_, upd_same, ?_⟩⟩
      have d0 : H d = none := hd
      have big : ∀ n : Nat, n ≤ 16 → n < 2 ^ 4400 := fun n hn => Nat.lt_of_le_of_lt hn (Nat.lt_of_lt_of_le (show 16 < 2 ^ 5 by decide) (Nat.pow_le_pow_right (by decide) (by decide)))
      refine for_it walk_keysT (fun i σ2 H9 => ∃ y z, σ2 = [some (.int r), some (.int c), some (.ref p), some (.ref d), some (.int (gN (wN (t0.take i)) : Nat)), x1, y, z] ∧ H9 = upd H' d (.frz od (.dT (toldV t0)))) ⟨_, _, rfl, rfl⟩ (fun i σ2 H9 _ hP => by obtain ⟨y, z, rfl, rfl⟩ := hP; exact upd_same) (fun i x σ2 H9 H8 hi hP hY => ?_) (fun σ2 H9 hP => ?_)
      · obtain ⟨y, z, rfl, rfl⟩ := hP
        obtain ⟨rfl, k, v, b, hk, rfl, hb⟩ := hY
        obtain ⟨x, hx, rfl, rfl⟩ := toldV_at hk
        have hm := List.mem_of_getElem? hx
        have h0 := A.pos x hm
        have x16 : x.2 ≤ 16 := by
          have h1 : x.2.toNat ∈ wN t0 := List.mem_map.mpr ⟨x, hm, rfl⟩
          have h2 := wt_mem A.pos hm
          have := A.wt
          have wle := wt_len (n := 4) (ths := ths) fun x hx => (ho x hx).2.2.2
          omega
        have gp : gN (wN (t0.take i)) ≤ 16 := gN_le16 A.pos (fun x hx => by
          have h2 := wt_mem A.pos hx
          have := A.wt
          have wle := wt_len (n := 4) (ths := ths) fun x hx => (ho x hx).2.2.2
          omega) i
        have g := DGet.ofF (v := .ref b) (k := keyE x.1) (H := upd H' d (.frz od (.dT (toldV t0)))) (a := d) upd_same (dt_key hb)
        rw [toldV_look, lookE_mem A.nd hm] at g
        ((try dsimp only); repeat infer_instance)
        refine ⟨d, _, rfl, g, ?_⟩
        ((try dsimp only); repeat infer_instance)
        refine ⟨_, _, rfl, big _ (by omega), big _ (by rw [Int.natAbs_natCast]; exact gp), ?_⟩
        rw [gcd_step A.pos hx]
        ((try dsimp only); repeat infer_instance)
        exact ⟨_, _, rfl, rfl⟩
      · obtain ⟨y, z, rfl, rfl⟩ := hP
        have hl : (toldV t0).length = t0.length := by unfold toldV; rw [List.length_map]
        rw [hl, List.take_length]
        refine ⟨upd_same, ?_⟩
        have k := lock_same e1 (fun (b : Addr) (o : HO) (h : upd H' d (.frz od (.dT (toldV t0))) b = some o) => h)
        have hd2 : upd (upd H' d (.frz od (.dT (toldV t0)))) d (.dT (toldV t0)) d = some (.dT (toldV t0)) := upd_same
        generalize upd (upd H' d (.frz od (.dT (toldV t0)))) d (.dT (toldV t0)) = H2 at *
        ((try dsimp only); repeat infer_instance)
        refine ⟨d, _, rfl, .inl hd2, by rw [toldV_keys]; exact srtb_told t0 (by omega), fun p3 H3 hp3 s3 hL => ?_⟩
        rw [toldV_keys, esort] at hL
        ((try dsimp only); repeat infer_instance)
        obtain ⟨p', xs3, e, h1, h2⟩ := hL
        cases e
        refine lcL ⟨p3, xs3, rfl, h1, h2⟩ (fun i _ => (t'[i]?).map fun x => .tuple [effD x.1, .int (x.2 / (gN (wN t0) : Nat))]) (fun i u w H4 hu s4 hw R Y hR hY => ?_) (by rw [List.length_map]; unfold toldK; have := ht'.length_eq; simp; omega) (fun Dd H4 hn s4 hL3 => ?_)
        · rw [keys_told, List.map_map, List.getElem?_map] at hu
          cases hx : t'[i]? with
          | none => rw [hx] at hu; cases hu
          | some x =>
            rw [hx] at hu
            cases hu
            have hw : Dt H4 w (keyD (keyE x.1)) := hw
            have hm : x ∈ t0 := ht'.mem_iff.mp (List.mem_of_getElem? hx)
            have hd3 := s4 _ _ (s3 _ _ hd2)
            ((try dsimp only); repeat infer_instance)
            refine ⟨rfl, ?_⟩
            ((try dsimp only); repeat infer_instance)
            refine ⟨d, .int x.2, rfl, ?_, ?_⟩
            · have := DGet.of hd3 hw
              rw [toldV_look, lookE_mem A.nd hm] at this
              exact this
            ((try dsimp only); repeat infer_instance)
            refine rd_I (wide_div (b := 6) (by omega) (by rw [Int.natAbs_natCast]; omega) (by decide) (by decide)) ?_
            ((try dsimp only); repeat infer_instance)
            refine ⟨by show 2 ≤ _; decide, fun p2 hp2 => ?_⟩
            refine hY _ (by rw [hx]; rfl) _ _ (same_upd hp2) ?_
            rw [keyD_E] at hw
            exact Dt.newT hp2 (.cons hw (.cons (.int _) .nil))
        · have ek : keepsOf (fun i _ => (t'[i]?).map fun x => PyData.tuple [effD x.1, .int (x.2 / (gN (wN t0) : Nat))]) (((toldK t').map (·.1)).map keyD) = toldD (cutT t' (gN (wN t0) : Nat)) := by
            rw [keys_told, List.map_map, toldD_map]
            unfold cutT
            rw [List.map_map]
            exact keeps_all _ _ (fun x : Eff × Int => PyData.tuple [effD x.1, .int (x.2 / (gN (wN t0) : Nat))]) t' fun i a h => by rw [h]; rfl
          rw [ek] at hL3
          ((try dsimp only); repeat infer_instance)
          obtain ⟨pl, xl, e, h5, h6⟩ := hL3
          cases e
          refine ⟨Dd, xl, rfl, SqL.of h5, fun pf o hpf ho' => ?_⟩
          exact q _ _ _ ((((s1.trans k).trans s3).trans s4).trans (same_upd hpf)) ⟨pf, xl, o, rfl, upd_same, ho', h6.ups (same_upd hpf)⟩ ok

end Cz

set_option Elab.async false
set_option linter.all false
set_option maxRecDepth 100000
set_option maxHeartbeats 1000000
/-! searches, in plain -/
namespace Cz
open PySem L2
inductive Cl (suc : Pic → List Pic) (s : Pic) : Pic → Prop
  | refl : Cl suc s s
  | step {p q : Pic} : Cl suc s p → q ∈ suc p → Cl suc s q
theorem Cl.trans {suc : Pic → List Pic} {a b c : Pic} (h : Cl suc a b) (g : Cl suc b c) : Cl suc a c := by
  induction g with
  | refl => exact h
  | step _ hq ih => exact .step ih hq
theorem Cl.mono {suc suc' : Pic → List Pic} {a b : Pic} (hs : ∀ p, Cl suc a p → ∀ q ∈ suc p, q ∈ suc' p) (h : Cl suc a b) : Cl suc' a b := by
  induction h with
  | refl => exact .refl
  | step hp hq ih => exact .step ih (hs _ hp _ hq)
def sucT (t : Told) (p : Pic) : List Pic := t.map fun x => act p x.1
def sucG (t : Told) (g p : Pic) : List Pic := if p = g then [] else sucT t p
def sucB (t : Told) (g p : Pic) : List Pic := (sucT t p).filter fun q => decide (q ≠ g)
/-- one more, if it is new -/
def addQ (s : List Pic × List Pic) (q : Pic) : List Pic × List Pic := if q ∈ s.1 then s else (s.1 ++ [q], s.2 ++ [q])
structure Srch (suc : Pic → List Pic) (s : Pic) (r c : Nat) (l R : List Pic) : Prop where
  nd : l.Nodup
  shp : ∀ p ∈ l, Shp r c p
  st : s ∈ l
  snd : ∀ p ∈ l, Cl suc s p
  rim : ∀ p ∈ R, p ∈ l
  cls : ∀ p ∈ l, p ∈ R ∨ ∀ q ∈ suc p, q ∈ l
theorem Srch.start {suc : Pic → List Pic} {s : Pic} {r c : Nat} (h : Shp r c s) : Srch suc s r c [s] [s] :=
  ⟨by simp, fun p hp => by simp at hp; subst hp; exact h, by simp, fun p hp => by simp at hp; subst hp; exact .refl, fun p hp => hp, fun p hp => .inl hp⟩
/-- what a run over qs adds -/
theorem addQ_run : ∀ (qs : List Pic) (l R : List Pic), ∃ nw : List Pic, qs.foldl addQ (l, R) = (l ++ nw, R ++ nw) ∧ (∀ q ∈ nw, q ∈ qs) ∧ (l.Nodup → (l ++ nw).Nodup) ∧ ∀ q ∈ qs, q ∈ l ++ nw
  | [], l, R => ⟨[], by simp, by simp, by simp, by simp⟩
  | q :: qs, l, R => by
    by_cases h : q ∈ l
    · obtain ⟨nw, e, h1, h2, h3⟩ := addQ_run qs l R
      refine ⟨nw, ?_, fun x hx => by simp [h1 x hx], h2, fun x hx => ?_⟩
      · rw [List.foldl_cons]
        have : addQ (l, R) q = (l, R) := if_pos h
        rw [this, e]
      · rcases List.mem_cons.mp hx with rfl | z
        · simp [h]
        · exact h3 x z
    · obtain ⟨nw, e, h1, h2, h3⟩ := addQ_run qs (l ++ [q]) (R ++ [q])
      refine ⟨q :: nw, ?_, fun x hx => ?_, fun hn => ?_, fun x hx => ?_⟩
      · rw [List.foldl_cons]
        have : addQ (l, R) q = (l ++ [q], R ++ [q]) := if_neg h
        rw [this, e]
        simp
      · rcases List.mem_cons.mp hx with rfl | z
        · simp
        · simp [h1 x z]
      · have : (l ++ [q]).Nodup := by
          rw [List.nodup_append]
          exact ⟨hn, by simp, fun a ha b hb => by simp at hb; subst hb; exact fun z => h (z ▸ ha)⟩
        have := h2 this
        simpa using this
      · rcases List.mem_cons.mp hx with rfl | z
        · simp
        · have := h3 x z
          simpa using this
/-- all pictures of a board -/
def rowsOf : Nat → List (List Bool)
  | 0 => [[]]
  | c + 1 => (rowsOf c).map (true :: ·) ++ (rowsOf c).map (false :: ·)
def picsOf (c : Nat) : Nat → List Pic
  | 0 => [[]]
  | r + 1 => (rowsOf c).flatMap fun x => (picsOf c r).map (x :: ·)
theorem mem_rows : ∀ (x : List Bool), x ∈ rowsOf x.length
  | [] => by simp [rowsOf]
  | b :: x => by
    have := mem_rows x
    show (b :: x) ∈ (rowsOf x.length).map (true :: ·) ++ (rowsOf x.length).map (false :: ·)
    cases b <;> simp [this]
theorem mem_pics {c : Nat} : ∀ {p : Pic}, (∀ x ∈ p, x.length = c) → p ∈ picsOf c p.length
  | [], _ => by simp [picsOf]
  | x :: p, h => by
    have h1 := mem_rows x
    rw [h x (by simp)] at h1
    have h2 := mem_pics (p := p) fun y hy => h y (by simp [hy])
    exact List.mem_flatMap.mpr ⟨x, h1, List.mem_map.mpr ⟨p, h2, rfl⟩⟩
theorem nodup_le {α : Type} [DecidableEq α] : ∀ {l U : List α}, l.Nodup → (∀ x ∈ l, x ∈ U) → l.length ≤ U.length
  | [], _, _, _ => by simp
  | x :: l, U, hn, hs => by
    rw [List.nodup_cons] at hn
    have hx := hs x (by simp)
    have := nodup_le (l := l) (U := U.erase x) hn.2 fun y hy => (List.mem_erase_of_ne (fun z => hn.1 (by rw [← z]; exact hy))).mpr (hs y (by simp [hy]))
    rw [List.length_erase_of_mem hx] at this
    have := List.length_pos_of_mem hx
    simp
    omega
theorem pics_few : ∀ {r c : Nat}, (r, c) ∈ boards → (picsOf c r).length ≤ 16 := by
  have : boards.all (fun b => decide ((picsOf b.2 b.1).length ≤ 16)) = true := by decide +kernel
  intro r c h
  exact of_decide_eq_true (List.all_eq_true.mp this (r, c) h)
theorem few16 {r c : Nat} {l : List Pic} (hb : (r, c) ∈ boards) (hn : l.Nodup) (hs : ∀ p ∈ l, Shp r c p) : l.length ≤ 16 := by
  refine Nat.le_trans (nodup_le hn fun p hp => ?_) (pics_few hb)
  have h := hs p hp
  have := mem_pics (p := p) h.row
  rw [h.len] at this
  exact this
section
variable {suc : Pic → List Pic} {s : Pic} {r c : Nat} {l R : List Pic}
theorem Srch.few (S : Srch suc s r c l R) (hb : (r, c) ∈ boards) : l.length ≤ 16 := few16 hb S.nd S.shp
/-- one turn: here is taken from the rim, its successors are added -/
theorem Srch.turn {here : Pic} {R0 : List Pic} (S : Srch suc s r c l (R0 ++ [here])) (hs : ∀ q ∈ suc here, Shp r c q) {l' R' : List Pic} (e : (suc here).foldl addQ (l, R0) = (l', R')) :
    Srch suc s r c l' R' ∧ ∃ k, l'.length = l.length + k ∧ R'.length = R0.length + k := by
  obtain ⟨nw, e1, h1, h2, h3⟩ := addQ_run (suc here) l R0
  rw [e1] at e
  cases e
  have hh := S.rim here (by simp)
  refine ⟨⟨h2 S.nd, fun p hp => ?_, by simp [S.st], fun p hp => ?_, fun p hp => ?_, fun p hp => ?_⟩, nw.length, by simp, by simp⟩
  · rcases List.mem_append.mp hp with q | q
    · exact S.shp p q
    · exact hs p (h1 p q)
  · rcases List.mem_append.mp hp with q | q
    · exact S.snd p q
    · exact .step (S.snd here hh) (h1 p q)
  · rcases List.mem_append.mp hp with q | q
    · exact List.mem_append.mpr (.inl (S.rim p (by simp [q])))
    · exact List.mem_append.mpr (.inr q)
  · rcases List.mem_append.mp hp with q | q
    · rcases S.cls p q with z | z
      · rcases List.mem_append.mp z with w | w
        · exact .inl (by simp [w])
        · simp at w
          subst w
          exact .inr h3
      · exact .inr fun x hx => List.mem_append.mpr (.inl (z x hx))
    · exact .inl (by simp [q])
theorem Srch.done (S : Srch suc s r c l []) (p : Pic) : p ∈ l ↔ Cl suc s p := by
  refine ⟨S.snd p, fun h => ?_⟩
  induction h with
  | refl => exact S.st
  | step _ hq ih =>
    rcases S.cls _ ih with z | z
    · simp at z
    · exact z _ hq
/-- the measure of the search -/
def left (l R : List Pic) : Nat := (16 - l.length) * 2 + R.length
end
theorem sucT_shp {t : Told} {r c : Nat} {p : Pic} (h : Shp r c p) : ∀ q ∈ sucT t p, Shp r c q := fun q hq => by
  obtain ⟨x, _, rfl⟩ := List.mem_map.mp hq
  exact h.act _
theorem sucG_shp {t : Told} {r c : Nat} {g p : Pic} (h : Shp r c p) : ∀ q ∈ sucG t g p, Shp r c q := fun q hq => by
  unfold sucG at hq
  split at hq
  · simp at hq
  · exact sucT_shp h q hq
theorem sucB_shp {t : Told} {r c : Nat} {g p : Pic} (h : Shp r c p) : ∀ q ∈ sucB t g p, Shp r c q := fun q hq => sucT_shp h q (List.mem_filter.mp hq).1
/-- is p reached from s -/
noncomputable def rch (t : Told) (s p : Pic) : Bool := @decide (Cl (sucT t) s p) (Classical.propDecidable _)
noncomputable def sure (t : Told) (g s : Pic) : Bool := @decide (∀ q, Cl (sucG t g) s q → Cl (sucT t) q g) (Classical.propDecidable _)
theorem rch_of {t : Told} {s p : Pic} {l : List Pic} (h : ∀ q, q ∈ l ↔ Cl (sucT t) s q) : decide (p ∈ l) = rch t s p := by
  unfold rch
  by_cases q : p ∈ l
  · rw [decide_eq_true q]
    exact (@decide_eq_true _ (Classical.propDecidable _) ((h p).mp q)).symm
  · rw [decide_eq_false q]
    exact (@decide_eq_false _ (Classical.propDecidable _) fun z => q ((h p).mpr z)).symm
theorem rch_true {t : Told} {s p : Pic} : rch t s p = true ↔ Cl (sucT t) s p := by
  unfold rch
  exact ⟨fun h => @of_decide_eq_true _ (Classical.propDecidable _) h, fun h => @decide_eq_true _ (Classical.propDecidable _) h⟩
theorem sure_true {t : Told} {g s : Pic} : sure t g s = true ↔ ∀ q, Cl (sucG t g) s q → Cl (sucT t) q g := by
  unfold sure
  exact ⟨fun h => @of_decide_eq_true _ (Classical.propDecidable _) h, fun h => @decide_eq_true _ (Classical.propDecidable _) h⟩
/-- seen pictures, as a dict -/
def seenP (l : List Pic) : List (List Key × V) := l.map fun p => (keyP p, .bl true)
theorem seenP_get (l : List Pic) (p : Pic) : (valV (seenP l) (keyP p)).isSome = decide (p ∈ l) := by
  rw [← valV_any]
  unfold seenP
  rw [List.any_map]
  by_cases h : p ∈ l
  · rw [decide_eq_true h, List.any_eq_true]
    exact ⟨p, h, by simp⟩
  · rw [decide_eq_false h, List.any_eq_false]
    intro m hm
    simp
    intro e
    rw [keyP_inj e] at hm
    exact h hm
theorem seenP_put (l : List Pic) (p : Pic) (h : p ∉ l) : putK (seenP l) (keyP p) (.bl true) = seenP (l ++ [p]) := by
  unfold putK
  have := seenP_get l p
  rw [← valV_any, decide_eq_false h] at this
  rw [if_neg (by rw [this]; decide)]
  unfold seenP
  rw [List.map_append]
  rfl
end Cz

set_option Elab.async false
set_option linter.all false
set_option maxRecDepth 100000
set_option maxHeartbeats 1000000
/-! searches as they lie -/
namespace Cz
open PySem L2
theorem Ft.for0 {K : PySem.W.Frag} {H0 H : Hp} {σ : St} {v : V} {ds : List PyData} {g : TG} {tb : TS} {D : Ends} (hx : Ft H0 v ds) (Pv : Nat → St → Hp → Prop) (h0 : Pv 0 σ H) (hsm : ∀ i σ' H', Pv i σ' H' → Same H0 H')
    (hs : ∀ i d u σ' H', ds[i]? = some d → Pv i σ' H' → Dt H' u d → g u σ' H' fun σ2 H2 => tb { D with nx := Pv (i + 1), ct := Pv (i + 1), bk := D.nx } σ2 H2) (hd : ∀ σ' H', Pv ds.length σ' H' → D.nx σ' H') :
    ∃ a, v = .ref a ∧ (∃ xs, SqT K H a xs) ∧ FoK g tb D σ (Itt K a) H := by
  obtain ⟨a, xs, rfl, h1, h2⟩ := hx.sq (K := K)
  refine ⟨a, rfl, ⟨xs, h1 H (hsm 0 σ H h0)⟩, for_tup (K := K) (a := a) (xs := xs) Pv h0 (fun i σ' H' _ p => h1 H' (hsm i σ' H' p)) (fun i x σ' H' hi p => ?_) (by rw [h2.len]; exact hd)⟩
  obtain ⟨d, e, hu⟩ := h2.got hi
  exact hs i d x σ' H' e p (hu.ups (hsm i σ' H' p))
/-- a list of pictures -/
def PL (H : Hp) (a : Addr) (R : List Pic) : Prop := ∃ xs, H a = some (.lst xs) ∧ Da H xs (R.map encP)
theorem PL.same {H H' : Hp} {a : Addr} {R : List Pic} (h : PL H a R) (s : Same H H') : PL H' a R := let ⟨xs, h1, h2⟩ := h; ⟨xs, s _ _ h1, h2.ups s⟩
theorem PL.ls {H : Hp} {a : Addr} {R : List Pic} (h : PL H a R) : Ls H (.ref a) (R.map encP) := let ⟨xs, h1, h2⟩ := h; ⟨a, xs, rfl, h1, h2⟩
structure SInv (H0 H' : Hp) (F Rm : Addr) (l R : List Pic) : Prop where
  sm : Same H0 H'
  f : H' F = some (.dT (seenP l))
  r : PL H' Rm R
  f0 : H0 F = none
  r0 : H0 Rm = none
section
variable {K : PySem.W.Frag} {H0 H' H2 : Hp} {F Rm : Addr} {l R : List Pic} {p : Pic} {v : V} {Q : VK}
theorem SInv.ne (I : SInv H0 H' F Rm l R) : F ≠ Rm := fun q => by
  obtain ⟨xs, h1, _⟩ := I.r
  rw [← q, I.f] at h1
  cases h1
theorem SInv.keep (I : SInv H0 H' F Rm l R) (s : Same H' H2) : SInv H0 H2 F Rm l R := ⟨I.sm.trans s, s _ _ I.f, I.r.same s, I.f0, I.r0⟩
theorem SInv.popR (I : SInv H0 H' F Rm l (R ++ [p])) (q : ∀ y H2, SInv H0 H2 F Rm l R → Dt H2 y (encP p) → Q y H2) : rPop (.ref Rm) [] H' Q := by
  obtain ⟨xs, h1, h2⟩ := I.r
  have hl := h2.len
  rw [List.map_append, List.map_cons, List.map_nil] at h2 hl
  have e : ((R.map encP) ++ [encP p])[xs.length - 1]? = some (encP p) := by
    rw [hl]
    simp
  obtain ⟨y, ey, hy⟩ := h2.get e
  have tk : Tk H' (upd H' Rm (.lst xs.dropLast)) := .lst h1
  refine ⟨Rm, xs, y, rfl, rfl, h1, ey, q _ _ ⟨upd_keep I.sm I.r0, (upd_ne I.ne).trans I.f, ⟨_, upd_same, ?_⟩, I.f0, I.r0⟩ (hy.up tk)⟩
  have := (h2.dropLast).up tk
  rwa [List.dropLast_concat] at this
theorem SInv.putR (I : SInv H0 H' F Rm l R) (hv : Dt H' v (encP p)) (hp : p ∉ l) (hl : l.length ≤ 900) : ∃ H2, DPut H' F v (.bl true) H2 ∧ SInv H0 H2 F Rm (l ++ [p]) R ∧ Dt H2 v (encP p) := by
  have hk : Dt H' v (keyD (keyP p)) := by rw [keyD_P]; exact hv
  have tk : Tk H' (upd H' F (.dT (seenP (l ++ [p])))) := .dT I.f
  have d := DPut.of (u := .bl true) I.f hk (by unfold seenP; rw [List.length_map]; exact Nat.lt_of_le_of_lt hl (by decide))
  rw [seenP_put l p hp] at d
  obtain ⟨xs, h1, h2⟩ := I.r
  exact ⟨_, d, ⟨upd_keep I.sm I.f0, upd_same, ⟨xs, (upd_ne (Ne.symm I.ne)).trans h1, h2.up tk⟩, I.f0, I.r0⟩, hv.up tk⟩
theorem SInv.appR (I : SInv H0 H' F Rm l R) (hv : Dt H' v (encP p)) (hl : R.length ≤ 900) (q : ∀ H2, SInv H0 H2 F Rm l (R ++ [p]) → Q .non H2) : rAppend (.ref Rm) [v] H' Q := by
  obtain ⟨xs, h1, h2⟩ := I.r
  have tk : Tk H' (upd H' Rm (.lst (xs ++ [v]))) := .lst h1
  refine rd_app h1 (by rw [h2.len, List.length_map]; omega) (q _ ⟨upd_keep I.sm I.r0, (upd_ne I.ne).trans I.f, ⟨_, upd_same, ?_⟩, I.f0, I.r0⟩)
  rw [List.map_append]
  exact (h2.app (.one hv)).up tk
theorem SInv.ty (I : SInv H0 H' F Rm l R) : tyV K "list" (.ref Rm) H' := let ⟨_, h1, _⟩ := I.r; ty_lst h1
theorem sh_pics (R : List Pic) : SeqAt.shaped (.list (R.map encP)) = true := by
  refine shaped_of (PlA_map fun p _ => Pl_pic p) ?_
  have h1 := depthA (f := encP) (n := 2) (l := R) fun p _ => dp_pic p
  simp only [PyData.depth]
  omega
theorem rd_neNilP {q : Addr} (h : PL H' Rm R) (hq : H' q = some (.lst [])) (z : Q (.bl (decide (R ≠ []))) H') : rNeD K (.ref Rm) (.ref q) H' Q := by
  refine ⟨.list (R.map encP), .list [], h.ls.dp K, .lst (SqL.of hq) .nil, sh_pics R, by decide, ?_⟩
  have : (!PyData.eqv (.list (R.map encP)) (.list [])) = decide (R ≠ []) := by
    cases R with
    | nil => rfl
    | cons x l => rfl
  rw [this]
  exact z
theorem SInv.dget (I : SInv H0 H' F Rm l R) (hv : Dt H' v (encP p)) : DGet H' F v (valV (seenP l) (keyP p)) := DGet.of I.f (by rw [keyD_P]; exact hv)
end
/-- the search starts -/
theorem SInv.start {H H1 : Hp} {F Rm b : Addr} {s : Pic} (hF : H F = none) (hb : H b = some (.tup ((keyP s).map kV))) (hR : upd (upd H F (.dT [])) F (.dT [(keyP s, .bl true)]) Rm = none) (e : H1 = upd (upd (upd H F (.dT [])) F (.dT [(keyP s, .bl true)])) Rm (.lst [.ref b])) : SInv H H1 F Rm [s] [s] := by
  subst e
  have hRF : Rm ≠ F := fun q => by subst q; rw [upd_same] at hR; cases hR
  have hR0 : H Rm = none := by rw [upd_ne hRF, upd_ne hRF] at hR; exact hR
  have hbF := ne_of_none hb hF
  refine ⟨fun x o e => ?_, (upd_ne (Ne.symm hRF)).trans upd_same, ⟨_, upd_same, .one ?_⟩, hF, hR0⟩
  · have h1 := ne_of_none e hF
    have h2 := ne_of_none e hR0
    rw [upd_ne h2, upd_ne h1, upd_ne h1]; exact e
  · have h2 := ne_of_none hb hR0
    have := dt_key (H := upd (upd (upd H F (.dT [])) F (.dT [(keyP s, .bl true)])) Rm (.lst [.ref b])) (b := b) (k := keyP s) (by rw [upd_ne h2, upd_ne hbF, upd_ne hbF]; exact hb)
    rwa [keyD_P] at this
theorem rd_disp1 {tk tv : TE} {σ : St} {H : Hp} {Q : VK} (q : ∀ p, H p = none → tk σ (upd H p (.dT [])) fun x H1 => tv σ H1 fun y H2 => H2 p = some (.dT []) ∧ ∃ (k : List Key) (b : Addr), x = .ref b ∧ H2 b = some (.tup (k.map kV)) ∧ Q (.ref p) (upd H2 p (.dT [(k, y)]))) : tDisp1 tk tv σ H Q := q
theorem sucT_snoc {t : Told} {i : Nat} {x : Eff × Int} (h : t[i]? = some x) (p : Pic) : sucT (t.take (i + 1)) p = sucT (t.take i) p ++ [act p x.1] := by unfold sucT; rw [List.take_add_one, h, List.map_append]; rfl
theorem sucB_snoc {t : Told} {i : Nat} {x : Eff × Int} (h : t[i]? = some x) (g p : Pic) : sucB (t.take (i + 1)) g p = sucB (t.take i) g p ++ if act p x.1 ≠ g then [act p x.1] else [] := by
  unfold sucB
  rw [sucT_snoc h, List.filter_append]
  congr 1
  rw [List.filter_cons]
  by_cases q : act p x.1 ≠ g
  · rw [if_pos q, if_pos (by simpa using q)]; rfl
  · rw [if_neg q, if_neg (by simpa using q)]; rfl
theorem sucG_snoc {t : Told} {i : Nat} {x : Eff × Int} (h : t[i]? = some x) (g p : Pic) : sucG (t.take (i + 1)) g p = sucG (t.take i) g p ++ if p ≠ g then [act p x.1] else [] := by
  unfold sucG
  by_cases q : p = g
  · rw [if_pos q, if_pos q, if_neg (by simpa using q)]; rfl
  · rw [if_neg q, if_neg q, if_pos q, sucT_snoc h]
/-- how much there is within a turn -/
theorem run_few {suc : Pic → List Pic} {s here : Pic} {r c : Nat} {l R0 qs : List Pic} (S : Srch suc s r c l (R0 ++ [here])) (hb : (r, c) ∈ boards) (hs : ∀ q ∈ qs, Shp r c q) (hR : R0.length + 1 ≤ l.length) :
    (qs.foldl addQ (l, R0)).1.length ≤ 16 ∧ (qs.foldl addQ (l, R0)).2.length ≤ 16 := by
  obtain ⟨nw, e, h1, h2, h3⟩ := addQ_run qs l R0
  rw [e]
  have := few16 hb (h2 S.nd) fun p hp => by
    rcases List.mem_append.mp hp with q | q
    · exact S.shp p q
    · exact hs p (h1 p q)
  simp at this ⊢
  omega
end Cz

set_option Elab.async false
set_option linter.all false
set_option maxRecDepth 100000
set_option maxHeartbeats 4000000

namespace Cz
open PySem L2
local macro_rules | `(tactic| infer_instance) => `(tactic| with_reducible first
  | refine rd_seq ?_ | refine rd_cons ?_ | refine rd_nil ?_ | refine rd_c ?_ | refine rd_op ?_ | (refine rd_var (v := ?_) ?_ ?_; rotate_left 1; (with_unfolding_all rfl)) | refine rd_un ?_ | refine rd_call ?_ | refine rd_cb ?_ | refine rd_I0 ?_ | refine rd_test ?_ | refine rd_tB ?_ | refine rd_k ?_
  | refine rd_not ?_ | refine rd_and ?_ | refine rd_or ?_ | refine rd_andV ?_ | refine rd_orV ?_ | refine rd_notV ?_ | refine rd_ife ?_ | refine rd_chain ?_ | refine rd_tup ?_ | refine rd_lst ?_ | refine rd_bm0 ?_ | refine rd_bm ?_ | refine rd_sl ?_ | refine rd_nopart ?_ | refine rd_part ?_ | refine rd_i ?_
  | refine rd_next ?_ | refine rd_cont ?_ | refine rd_drop ?_ | refine rd_ret ?_ | refine rd_retN ?_ | refine rd_if ?_ | refine rd_asg ?_ | refine rd_gname ?_ | refine rd_par ?_ | refine rd_par3 ?_ | refine rd_v2 ?_ | refine rd_v3 ?_ | refine rd_gnil ?_ | refine rd_for ?_ | refine rd_lc ?_ | refine rd_yes ?_ | refine rd_iT ?_ | refine rd_iL ?_ | refine rd_iR1 ?_ | refine rd_iR2 ?_ | refine rd_iS ?_ | refine rd_dput ?_ | refine rd_din ?_ | refine rd_dnin ?_ | refine rd_dget ?_ | refine rd_dget2 ?_ | refine rd_dnewK ?_ | refine rd_dnewT ?_ | refine rd_augS ?_ | refine rd_gsub ?_ | refine rd_body ?_ | refine rd_valsT ?_ | refine rd_itemsT ?_ | refine rd_frz ?_ | refine rd_keys ?_ | refine rd_rev ?_ | (refine rd_ifT ?_ ?_; (with_unfolding_all rfl)) | (refine rd_ifF ?_ ?_; (with_unfolding_all rfl)))

abbrev s_reached : Stmt := topS 42
abbrev n_reached : List Str := ["told", "start", "found", "rim", "here", "one", "weight", "there"]
theorem sc_reached : FnScope n_reached ["told", "start"] (defScope s_reached) := ⟨rfl, rfl, rfl, by decide +kernel, rfl, by decide +kernel, by decide +kernel⟩

def sp_reached (K : PySem.W.Frag) : Sp := fun vs H Q E => ∃ (r c : Nat) (t : Told) (s : Pic) (v vs0 : V), vs = [v, vs0] ∧ (r, c) ∈ boards ∧ Ft H v (toldD t) ∧ TOk r c t ∧ Dt H vs0 (encP s) ∧ Shp r c s ∧ (∀ p H' l, Same H H' → H p = none → H' p = some (.dT (seenP l)) → l.Nodup → (∀ q, q ∈ l ↔ Cl (sucT t) s q) → Q (.ref p) H')
theorem ok_reached {P : Program} {w : World} {K : PySem.W.Frag} {mg : Str → Option Value} {base : Heap} {f : Addr} {fd : FuncData} (F : Fun K "reached" "reached" s_reached f fd) (Z : Bl mg) (C : Ct mg) (D_laid : Dn P w K mg base "laid" ["picture", "effect"] 2 (sp_laid K)) : FnOk P w K mg base CX0 3 f fd ["told", "start"] (sp_reached K) := by
  refine F.ok (k := 2) sc_reached (fun vs H Q E h => ?_) (fun cdv A outer s H vs Q E hr h => ?_)
  · obtain ⟨r, c, t, s, v, vs0, rfl, hb, ht, ok, hs, hp, q⟩ := h
    rfl
  · refine ⟨_, (pss_cons (ps_par (i := 2) (j := 3) rfl sc_reached.nd rfl rfl (by decide) rfl rfl (pa_cons (pe_disp1 (hu_of hr) (pv 1) pe_bl) (pa_cons (pe_lst (pa_cons (pv 1) pa_nil)) pa_nil)) (by rfl))
    (pss_cons (ps_while PassesOwn.never (pt_cmpR (kNeD (K := K) rfl hr.units) (pv 3) (pe_lst pa_nil) (nomark _))
      (pss_cons (ps_set (i := 4) sc_reached.nd rfl (.inl rfl) (pe_bm0 PySem.F.plainAttrs_list PySem.F.slot_list_pop PySem.F.type_list_pop mt_pop (pv 3)))
      (pss_one (ps_for PassesOwn.never rfl (pi_tup (pv 0)) (pg_tup rfl (pgs_cons (pg_name (i := 5) sc_reached.nd rfl (.inl rfl)) (pgs_cons (pg_name (i := 6) sc_reached.nd rfl (.inl rfl)) pgs_nil)))
        (pss_cons (ps_set (i := 7) sc_reached.nd rfl (.inl rfl) (pe_fn D_laid hr (pa_cons (pv 4) (pa_cons (pv 5) pa_nil))))
        (pss_one (ps_if (pt_cmp (pc_dnotin (hu_of hr) (pv 7) (pv 2)))
          (pss_cons (ps_dput (hu_of hr) (pv 2) (pv 7) pe_bl rfl)
          (pss_one (ps_expr (pe_bm PySem.F.plainAttrs_list PySem.F.slot_list_append PySem.F.type_list_append mt_append (pv 3) (pa_cons (pv 7) pa_nil)))))
          pss_nil)))))))
    (pss_one (ps_ret (pv 2))))), ?_⟩
    clear hr Z C D_laid
    obtain ⟨r, c, t, s, v, vs0, rfl, hb, ht, ok, hs, hp, q⟩ := h
    ((try dsimp only); repeat infer_instance)
    refine rd_disp1 fun F hF => ?_
    obtain ⟨bs, rfl, hbs⟩ := dt_key_inv (H := H) (v := vs0) (k := keyP s) (by rw [keyD_P]; exact hs)
    ((try dsimp only); repeat infer_instance)
    refine ⟨upd_same, keyP s, bs, rfl, same_upd hF _ _ hbs, ?_⟩
    ((try dsimp only); repeat infer_instance)
    refine ⟨by show 1 ≤ _; decide, fun Rm hRm => ?_⟩
    ((try dsimp only); repeat infer_instance)
    have I0 := SInv.start hF hbs hRm rfl
    generalize upd (upd (upd H F (.dT [])) F (.dT [(keyP s, .bl true)])) Rm (.lst [.ref bs]) = H1 at *
    clear hRm hF
    refine ⟨fun m σ H' => ∃ l R x y z w, σ = [some v, some (.ref bs), some (.ref F), some (.ref Rm), x, y, z, w] ∧ SInv H H' F Rm l R ∧ Srch (sucT t) s r c l R ∧ R.length ≤ l.length ∧ m = left l R, ⟨_, [s], [s], none, none, none, none, rfl, I0, Srch.start hp, Nat.le_refl _, rfl⟩, ?_⟩
    rintro m σ H' ⟨l, R, x, y, z, w, rfl, I, S, hRl, rfl⟩
    clear I0
    ((try dsimp only); repeat infer_instance)
    refine ⟨by show 0 ≤ _; decide, fun p0 hp0 => ?_⟩
    have I := I.keep (same_upd (o := .lst []) hp0)
    have e0 : upd H' p0 (.lst []) p0 = some (.lst []) := upd_same
    generalize upd H' p0 (.lst []) = H2 at *
    clear hp0
    refine rd_neNilP I.r e0 ?_
    ((try dsimp only); repeat infer_instance)
    rcases List.eq_nil_or_concat R with rfl | ⟨R0, here, rfl⟩
    · refine rd_ifF rfl ?_
      ((try dsimp only); repeat infer_instance)
      exact q F H2 l I.sm I.f0 I.f S.nd S.done
    · rw [List.concat_eq_append] at *
      refine rd_ifT (by simp) ?_
      ((try dsimp only); repeat infer_instance)
      refine ⟨I.ty, ?_⟩
      refine I.popR fun hv H3 I3 hh => ?_
      have hshp := S.shp here (S.rim here (by simp))
      ((try dsimp only); repeat infer_instance)
      refine ht.for0 (fun i σ' H' => ∃ x y z l' R', σ' = [some v, some (.ref bs), some (.ref F), some (.ref Rm), some hv, x, y, z] ∧ SInv H H' F Rm l' R' ∧ Dt H' hv (encP here) ∧ (sucT (t.take i) here).foldl addQ (l, R0) = (l', R')) ⟨y, z, w, l, R0, rfl, I3, hh, by simp [sucT, sucB, sucG]⟩ (fun i σ' H' p => by obtain ⟨_, _, _, _, _, _, I, _⟩ := p; exact I.sm) (fun i d u σ' H' hd hP hu => ?_) (fun σ' H' hP => ?_)
      · obtain ⟨x1, y1, z1, l', R', rfl, I4, hh4, hlR⟩ := hP
        obtain ⟨x, hx, rfl⟩ := toldD_get hd
        have hm := List.mem_of_getElem? hx
        have hfew := run_few S hb (qs := sucT (t.take i) here) (sucT_shp hshp) (by simpa using hRl)
        rw [hlR] at hfew
        have hfew1 : l'.length ≤ 16 := hfew.1
        have hfew2 : R'.length ≤ 16 := hfew.2
        refine rd_gtup hu rfl fun us hus => ?_
        refine rd_gcons hus fun e re he hre => ?_
        ((try dsimp only); repeat infer_instance)
        refine rd_gcons hre fun wv rw2 hw hrw => ?_
        ((try dsimp only); repeat infer_instance)
        refine rd_gnil' hrw ?_
        ((try dsimp only); repeat infer_instance)
        refine ⟨r, c, here, _, _, x.1, rfl, hh4, hshp, he, ok.lns x hm, fun v4 H4 s4 d4 => ?_⟩
        have I4 := I4.keep s4
        have hh4 := hh4.ups s4
        ((try dsimp only); repeat infer_instance)
        refine ⟨F, _, rfl, I4.dget d4, ?_⟩
        rw [seenP_get]
        ((try dsimp only); repeat infer_instance)
        by_cases hin : act here x.1 ∈ l'
        · refine rd_ifF (by rw [decide_eq_true hin]; rfl) ?_
          ((try dsimp only); repeat infer_instance)
          refine ⟨_, _, _, l', R', rfl, I4, hh4, ?_⟩
          rw [sucT_snoc hx, List.foldl_append, hlR]
          show addQ (l', R') _ = _
          exact if_pos hin
        · refine rd_ifT (by rw [decide_eq_false hin]; rfl) ?_
          ((try dsimp only); repeat infer_instance)
          obtain ⟨H5, hput, I5, d5⟩ := I4.putR d4 hin (by omega)
          have hh5 : Dt H5 hv (encP here) := by
            rcases hput with ⟨kvs, k, e1, _⟩ | ⟨kvs, k, b, e1, _, _, _, e2⟩
            · rw [I4.f] at e1; cases e1
            · rw [e2]; exact hh4.up (.dT e1)
          refine ⟨F, H5, rfl, hput, ?_⟩
          ((try dsimp only); repeat infer_instance)
          refine ⟨I5.ty, ?_⟩
          ((try dsimp only); repeat infer_instance)
          have hh6 : ∀ H6 : Hp, Tk H5 H6 → Dt H6 hv (encP here) := fun H6 k => hh5.up k
          obtain ⟨ys, hr1, hr2⟩ := I5.r
          refine rd_app hr1 (by rw [hr2.len, List.length_map]; omega) ?_
          have I6 : SInv H (upd H5 Rm (.lst (ys ++ [v4]))) F Rm (l' ++ [act here x.1]) (R' ++ [act here x.1]) := ⟨upd_keep I5.sm I5.r0, (upd_ne I5.ne).trans I5.f, ⟨_, upd_same, by rw [List.map_append]; exact (hr2.app (.one d5)).up (.lst hr1)⟩, I5.f0, I5.r0⟩
          ((try dsimp only); repeat infer_instance)
          refine ⟨_, _, _, l' ++ [act here x.1], R' ++ [act here x.1], rfl, I6, hh6 _ (.lst hr1), ?_⟩
          rw [sucT_snoc hx, List.foldl_append, hlR]
          show addQ (l', R') _ = _
          exact if_neg hin
      · obtain ⟨x1, y1, z1, l', R', rfl, I4, hh4, hlR⟩ := hP
        rw [toldD_len, List.take_length] at hlR
        obtain ⟨S', k, hk1, hk2⟩ := S.turn (sucT_shp hshp) hlR
        have f1 := S'.few hb
        refine ⟨_, ?_, l', R', _, _, _, _, rfl, I4, S', by simp at hRl; omega, rfl⟩
        unfold left
        simp
        omega

abbrev s_before : Stmt := topS 47
abbrev n_before : List Str := ["told", "start", "goal", "found", "rim", "here", "one", "weight", "there"]
theorem sc_before : FnScope n_before ["told", "start", "goal"] (defScope s_before) := ⟨rfl, rfl, rfl, by decide +kernel, rfl, by decide +kernel, by decide +kernel⟩

def sp_before (K : PySem.W.Frag) : Sp := fun vs H Q E => ∃ (r c : Nat) (t : Told) (s g : Pic) (v vs0 vg : V), vs = [v, vs0, vg] ∧ (r, c) ∈ boards ∧ Ft H v (toldD t) ∧ TOk r c t ∧ Dt H vs0 (encP s) ∧ Shp r c s ∧ Dt H vg (encP g) ∧ (∀ p H' l, Same H H' → H p = none → H' p = some (.dT (seenP l)) → l.Nodup → (∀ q, q ∈ l ↔ Cl (sucB t g) s q) → Q (.ref p) H')
theorem ok_before {P : Program} {w : World} {K : PySem.W.Frag} {mg : Str → Option Value} {base : Heap} {f : Addr} {fd : FuncData} (F : Fun K "before" "before" s_before f fd) (Z : Bl mg) (C : Ct mg) (D_laid : Dn P w K mg base "laid" ["picture", "effect"] 2 (sp_laid K)) : FnOk P w K mg base CX0 3 f fd ["told", "start", "goal"] (sp_before K) := by
  refine F.ok (k := 2) sc_before (fun vs H Q E h => ?_) (fun cdv A outer s H vs Q E hr h => ?_)
  · obtain ⟨r, c, t, s, g, v, vs0, vg, rfl, hb, ht, ok, hs, hp, hg, q⟩ := h
    rfl
  · refine ⟨_, (pss_cons (ps_par (i := 3) (j := 4) rfl sc_before.nd rfl rfl (by decide) rfl rfl (pa_cons (pe_disp1 (hu_of hr) (pv 1) pe_bl) (pa_cons (pe_lst (pa_cons (pv 1) pa_nil)) pa_nil)) (by rfl))
    (pss_cons (ps_while PassesOwn.never (pt_cmpR (kNeD (K := K) rfl hr.units) (pv 4) (pe_lst pa_nil) (nomark _))
      (pss_cons (ps_set (i := 5) sc_before.nd rfl (.inl rfl) (pe_bm0 PySem.F.plainAttrs_list PySem.F.slot_list_pop PySem.F.type_list_pop mt_pop (pv 4)))
      (pss_one (ps_for PassesOwn.never rfl (pi_tup (pv 0)) (pg_tup rfl (pgs_cons (pg_name (i := 6) sc_before.nd rfl (.inl rfl)) (pgs_cons (pg_name (i := 7) sc_before.nd rfl (.inl rfl)) pgs_nil)))
        (pss_cons (ps_set (i := 8) sc_before.nd rfl (.inl rfl) (pe_fn D_laid hr (pa_cons (pv 5) (pa_cons (pv 6) pa_nil))))
        (pss_one (ps_if (PW.pt (pw_and (pt_cmpR (kNeD (K := K) rfl hr.units) (pv 8) (pv 2) (nomark _)) (pw_and1 (pt_cmp (pc_dnotin (hu_of hr) (pv 8) (pv 3))))))
          (pss_cons (ps_dput (hu_of hr) (pv 3) (pv 8) pe_bl rfl)
          (pss_one (ps_expr (pe_bm PySem.F.plainAttrs_list PySem.F.slot_list_append PySem.F.type_list_append mt_append (pv 4) (pa_cons (pv 8) pa_nil)))))
          pss_nil)))))))
    (pss_one (ps_ret (pv 3))))), ?_⟩
    clear hr Z C D_laid
    obtain ⟨r, c, t, s, g, v, vs0, vg, rfl, hb, ht, ok, hs, hp, hg, q⟩ := h
    ((try dsimp only); repeat infer_instance)
    refine rd_disp1 fun F hF => ?_
    obtain ⟨bs, rfl, hbs⟩ := dt_key_inv (H := H) (v := vs0) (k := keyP s) (by rw [keyD_P]; exact hs)
    ((try dsimp only); repeat infer_instance)
    refine ⟨upd_same, keyP s, bs, rfl, same_upd hF _ _ hbs, ?_⟩
    ((try dsimp only); repeat infer_instance)
    refine ⟨by show 1 ≤ _; decide, fun Rm hRm => ?_⟩
    ((try dsimp only); repeat infer_instance)
    have I0 := SInv.start hF hbs hRm rfl
    generalize upd (upd (upd H F (.dT [])) F (.dT [(keyP s, .bl true)])) Rm (.lst [.ref bs]) = H1 at *
    clear hRm hF
    refine ⟨fun m σ H' => ∃ l R x y z w, σ = [some v, some (.ref bs), some vg, some (.ref F), some (.ref Rm), x, y, z, w] ∧ SInv H H' F Rm l R ∧ Srch (sucB t g) s r c l R ∧ R.length ≤ l.length ∧ m = left l R, ⟨_, [s], [s], none, none, none, none, rfl, I0, Srch.start hp, Nat.le_refl _, rfl⟩, ?_⟩
    rintro m σ H' ⟨l, R, x, y, z, w, rfl, I, S, hRl, rfl⟩
    clear I0
    ((try dsimp only); repeat infer_instance)
    refine ⟨by show 0 ≤ _; decide, fun p0 hp0 => ?_⟩
    have I := I.keep (same_upd (o := .lst []) hp0)
    have e0 : upd H' p0 (.lst []) p0 = some (.lst []) := upd_same
    generalize upd H' p0 (.lst []) = H2 at *
    clear hp0
    refine rd_neNilP I.r e0 ?_
    ((try dsimp only); repeat infer_instance)
    rcases List.eq_nil_or_concat R with rfl | ⟨R0, here, rfl⟩
    · refine rd_ifF rfl ?_
      ((try dsimp only); repeat infer_instance)
      exact q F H2 l I.sm I.f0 I.f S.nd S.done
    · rw [List.concat_eq_append] at *
      refine rd_ifT (by simp) ?_
      ((try dsimp only); repeat infer_instance)
      refine ⟨I.ty, ?_⟩
      refine I.popR fun hv H3 I3 hh => ?_
      have hshp := S.shp here (S.rim here (by simp))
      ((try dsimp only); repeat infer_instance)
      refine ht.for0 (fun i σ' H' => ∃ x y z l' R', σ' = [some v, some (.ref bs), some vg, some (.ref F), some (.ref Rm), some hv, x, y, z] ∧ SInv H H' F Rm l' R' ∧ Dt H' hv (encP here) ∧ (sucB (t.take i) g here).foldl addQ (l, R0) = (l', R')) ⟨y, z, w, l, R0, rfl, I3, hh, by simp [sucT, sucB, sucG]⟩ (fun i σ' H' p => by obtain ⟨_, _, _, _, _, _, I, _⟩ := p; exact I.sm) (fun i d u σ' H' hd hP hu => ?_) (fun σ' H' hP => ?_)
      · obtain ⟨x1, y1, z1, l', R', rfl, I4, hh4, hlR⟩ := hP
        obtain ⟨x, hx, rfl⟩ := toldD_get hd
        have hm := List.mem_of_getElem? hx
        have hfew := run_few S hb (qs := sucB (t.take i) g here) (sucB_shp hshp) (by simpa using hRl)
        rw [hlR] at hfew
        have hfew1 : l'.length ≤ 16 := hfew.1
        have hfew2 : R'.length ≤ 16 := hfew.2
        refine rd_gtup hu rfl fun us hus => ?_
        refine rd_gcons hus fun e re he hre => ?_
        ((try dsimp only); repeat infer_instance)
        refine rd_gcons hre fun wv rw2 hw hrw => ?_
        ((try dsimp only); repeat infer_instance)
        refine rd_gnil' hrw ?_
        ((try dsimp only); repeat infer_instance)
        refine ⟨r, c, here, _, _, x.1, rfl, hh4, hshp, he, ok.lns x hm, fun v4 H4 s4 d4 => ?_⟩
        have I4 := I4.keep s4
        have hh4 := hh4.ups s4
        ((try dsimp only); repeat infer_instance)
        refine rd_neD d4 (hg.ups I4.sm) (sh_pic _) (sh_pic _) ?_
        rw [eq_pic]
        ((try dsimp only); repeat infer_instance)
        by_cases hg0 : act here x.1 = g
        · refine rd_ifF (by rw [decide_eq_true hg0]; rfl) ?_
          ((try dsimp only); repeat infer_instance)
          refine ⟨_, _, _, l', R', rfl, I4, hh4, ?_⟩
          rw [sucB_snoc hx, if_neg (fun z => z hg0), List.append_nil]
          exact hlR
        refine rd_ifT (by rw [decide_eq_false hg0]; rfl) ?_
        ((try dsimp only); repeat infer_instance)
        refine ⟨F, _, rfl, I4.dget d4, ?_⟩
        rw [seenP_get]
        ((try dsimp only); repeat infer_instance)
        by_cases hin : act here x.1 ∈ l'
        · refine rd_ifF (by rw [decide_eq_true hin]; rfl) ?_
          ((try dsimp only); repeat infer_instance)
          refine ⟨_, _, _, l', R', rfl, I4, hh4, ?_⟩
          rw [sucB_snoc hx, if_pos hg0, List.foldl_append, hlR]
          show addQ (l', R') _ = _
          exact if_pos hin
        · refine rd_ifT (by rw [decide_eq_false hin]; rfl) ?_
          ((try dsimp only); repeat infer_instance)
          obtain ⟨H5, hput, I5, d5⟩ := I4.putR d4 hin (by omega)
          have hh5 : Dt H5 hv (encP here) := by
            rcases hput with ⟨kvs, k, e1, _⟩ | ⟨kvs, k, b, e1, _, _, _, e2⟩
            · rw [I4.f] at e1; cases e1
            · rw [e2]; exact hh4.up (.dT e1)
          refine ⟨F, H5, rfl, hput, ?_⟩
          ((try dsimp only); repeat infer_instance)
          refine ⟨I5.ty, ?_⟩
          ((try dsimp only); repeat infer_instance)
          have hh6 : ∀ H6 : Hp, Tk H5 H6 → Dt H6 hv (encP here) := fun H6 k => hh5.up k
          obtain ⟨ys, hr1, hr2⟩ := I5.r
          refine rd_app hr1 (by rw [hr2.len, List.length_map]; omega) ?_
          have I6 : SInv H (upd H5 Rm (.lst (ys ++ [v4]))) F Rm (l' ++ [act here x.1]) (R' ++ [act here x.1]) := ⟨upd_keep I5.sm I5.r0, (upd_ne I5.ne).trans I5.f, ⟨_, upd_same, by rw [List.map_append]; exact (hr2.app (.one d5)).up (.lst hr1)⟩, I5.f0, I5.r0⟩
          ((try dsimp only); repeat infer_instance)
          refine ⟨_, _, _, l' ++ [act here x.1], R' ++ [act here x.1], rfl, I6, hh6 _ (.lst hr1), ?_⟩
          rw [sucB_snoc hx, if_pos hg0, List.foldl_append, hlR]
          show addQ (l', R') _ = _
          exact if_neg hin
      · obtain ⟨x1, y1, z1, l', R', rfl, I4, hh4, hlR⟩ := hP
        rw [toldD_len, List.take_length] at hlR
        obtain ⟨S', k, hk1, hk2⟩ := S.turn (sucB_shp hshp) hlR
        have f1 := S'.few hb
        refine ⟨_, ?_, l', R', _, _, _, _, rfl, I4, S', by simp at hRl; omega, rfl⟩
        unfold left
        simp
        omega

abbrev s_surely : Stmt := topS 44
abbrev n_surely : List Str := ["told", "start", "goal", "seen", "rim", "here", "one", "weight", "there"]
theorem sc_surely : FnScope n_surely ["told", "start", "goal"] (defScope s_surely) := ⟨rfl, rfl, rfl, by decide +kernel, rfl, by decide +kernel, by decide +kernel⟩

def sp_surely (K : PySem.W.Frag) : Sp := fun vs H Q E => ∃ (r c : Nat) (t : Told) (s g : Pic) (v vs0 vg : V), vs = [v, vs0, vg] ∧ (r, c) ∈ boards ∧ Ft H v (toldD t) ∧ TOk r c t ∧ Dt H vs0 (encP s) ∧ Shp r c s ∧ Dt H vg (encP g) ∧ retB H (sure t g s) Q
theorem ok_surely {P : Program} {w : World} {K : PySem.W.Frag} {mg : Str → Option Value} {base : Heap} {f : Addr} {fd : FuncData} (F : Fun K "surely" "surely" s_surely f fd) (Z : Bl mg) (C : Ct mg) (D_laid : Dn P w K mg base "laid" ["picture", "effect"] 2 (sp_laid K)) (D_reached : Dn P w K mg base "reached" ["told", "start"] 3 (sp_reached K)) : FnOk P w K mg base CX0 4 f fd ["told", "start", "goal"] (sp_surely K) := by
  refine F.ok (k := 3) sc_surely (fun vs H Q E h => ?_) (fun cdv A outer s H vs Q E hr h => ?_)
  · obtain ⟨r, c, t, s, g, v, vs0, vg, rfl, hb, ht, ok, hs, hp, hg, q⟩ := h
    rfl
  · refine ⟨_, (pss_cons (ps_par (i := 3) (j := 4) rfl sc_surely.nd rfl rfl (by decide) rfl rfl (pa_cons (pe_disp1 (hu_of hr) (pv 1) pe_bl) (pa_cons (pe_lst (pa_cons (pv 1) pa_nil)) pa_nil)) (by rfl))
    (pss_cons (ps_while PassesOwn.never (pt_cmpR (kNeD (K := K) rfl hr.units) (pv 4) (pe_lst pa_nil) (nomark _))
      (pss_cons (ps_set (i := 5) sc_surely.nd rfl (.inl rfl) (pe_bm0 PySem.F.plainAttrs_list PySem.F.slot_list_pop PySem.F.type_list_pop mt_pop (pv 4)))
      (pss_cons (ps_if (pt_cmpR (kEqD (K := K) rfl hr.units) (pv 5) (pv 2) (nomark _))
        (pss_one ps_continue)
        pss_nil)
      (pss_cons (ps_if (pt_cmp (pc_dnotin (hu_of hr) (pv 2) (pe_fn D_reached hr (pa_cons (pv 0) (pa_cons (pv 5) pa_nil)))))
        (pss_one (ps_ret pe_bl))
        pss_nil)
      (pss_one (ps_for PassesOwn.never rfl (pi_tup (pv 0)) (pg_tup rfl (pgs_cons (pg_name (i := 6) sc_surely.nd rfl (.inl rfl)) (pgs_cons (pg_name (i := 7) sc_surely.nd rfl (.inl rfl)) pgs_nil)))
        (pss_cons (ps_set (i := 8) sc_surely.nd rfl (.inl rfl) (pe_fn D_laid hr (pa_cons (pv 5) (pa_cons (pv 6) pa_nil))))
        (pss_one (ps_if (pt_cmp (pc_dnotin (hu_of hr) (pv 8) (pv 3)))
          (pss_cons (ps_dput (hu_of hr) (pv 3) (pv 8) pe_bl rfl)
          (pss_one (ps_expr (pe_bm PySem.F.plainAttrs_list PySem.F.slot_list_append PySem.F.type_list_append mt_append (pv 4) (pa_cons (pv 8) pa_nil)))))
          pss_nil)))))))))
    (pss_one (ps_ret pe_bl)))), ?_⟩
    clear hr Z C D_laid D_reached
    obtain ⟨r, c, t, s, g, v, vs0, vg, rfl, hb, ht, ok, hs, hp, hg, q⟩ := h
    ((try dsimp only); repeat infer_instance)
    refine rd_disp1 fun F hF => ?_
    obtain ⟨bs, rfl, hbs⟩ := dt_key_inv (H := H) (v := vs0) (k := keyP s) (by rw [keyD_P]; exact hs)
    ((try dsimp only); repeat infer_instance)
    refine ⟨upd_same, keyP s, bs, rfl, same_upd hF _ _ hbs, ?_⟩
    ((try dsimp only); repeat infer_instance)
    refine ⟨by show 1 ≤ _; decide, fun Rm hRm => ?_⟩
    ((try dsimp only); repeat infer_instance)
    have I0 := SInv.start hF hbs hRm rfl
    generalize upd (upd (upd H F (.dT [])) F (.dT [(keyP s, .bl true)])) Rm (.lst [.ref bs]) = H1 at *
    clear hRm hF
    refine ⟨fun m σ H' => ∃ l R x y z w, σ = [some v, some (.ref bs), some vg, some (.ref F), some (.ref Rm), x, y, z, w] ∧ SInv H H' F Rm l R ∧ Srch (sucG t g) s r c l R ∧ R.length ≤ l.length ∧ m = left l R ∧ (∀ p ∈ l, p ∈ R ∨ Cl (sucT t) p g), ⟨_, [s], [s], none, none, none, none, rfl, I0, Srch.start hp, Nat.le_refl _, rfl, fun p hp => .inl hp⟩, ?_⟩
    rintro m σ H' ⟨l, R, x, y, z, w, rfl, I, S, hRl, rfl, hX⟩
    clear I0
    ((try dsimp only); repeat infer_instance)
    refine ⟨by show 0 ≤ _; decide, fun p0 hp0 => ?_⟩
    have I := I.keep (same_upd (o := .lst []) hp0)
    have e0 : upd H' p0 (.lst []) p0 = some (.lst []) := upd_same
    generalize upd H' p0 (.lst []) = H2 at *
    clear hp0
    refine rd_neNilP I.r e0 ?_
    ((try dsimp only); repeat infer_instance)
    rcases List.eq_nil_or_concat R with rfl | ⟨R0, here, rfl⟩
    · refine rd_ifF rfl ?_
      ((try dsimp only); repeat infer_instance)
      have e : sure t g s = true := sure_true.mpr fun p hp => by
        rcases hX p ((S.done p).mpr hp) with z | z
        · simp at z
        · exact z
      rw [e] at q
      exact q _ I.sm
    · rw [List.concat_eq_append] at *
      refine rd_ifT (by simp) ?_
      ((try dsimp only); repeat infer_instance)
      refine ⟨I.ty, ?_⟩
      refine I.popR fun hv H3 I3 hh => ?_
      have hin0 := S.rim here (by simp)
      have hshp := S.shp here hin0
      ((try dsimp only); repeat infer_instance)
      refine rd_eqD hh (hg.ups I3.sm) (sh_pic _) (sh_pic _) ?_
      rw [eq_pic]
      ((try dsimp only); repeat infer_instance)
      by_cases hg0 : here = g
      · refine rd_ifT (decide_eq_true hg0) ?_
        ((try dsimp only); repeat infer_instance)
        obtain ⟨S', k, hk1, hk2⟩ := S.turn (sucG_shp hshp) (l' := l) (R' := R0) (by unfold sucG; rw [if_pos hg0]; rfl)
        have f1 := S'.few hb
        refine ⟨_, ?_, l, R0, _, _, _, _, rfl, I3, S', by simp at hRl; omega, rfl, fun p hp => ?_⟩
        · unfold left
          simp
        · rcases hX p hp with z | z
          · rcases List.mem_append.mp z with z | z
            · exact .inl z
            · simp at z
              subst z
              rw [hg0]
              exact .inr .refl
          · exact .inr z
      refine rd_ifF (decide_eq_false hg0) ?_
      ((try dsimp only); repeat infer_instance)
      refine ⟨r, c, t, here, _, _, rfl, hb, ht.ups I3.sm, ok, hh, hshp, fun dr H4 l4 s4 _ e4 _ hl4 => ?_⟩
      have I3 := I3.keep s4
      have hh := hh.ups s4
      ((try dsimp only); repeat infer_instance)
      refine ⟨dr, _, rfl, DGet.of (k := keyP g) e4 (by rw [keyD_P]; exact hg.ups I3.sm), ?_⟩
      rw [seenP_get]
      ((try dsimp only); repeat infer_instance)
      by_cases hr : g ∈ l4
      case neg =>
        refine rd_ifT (by rw [decide_eq_false hr]; rfl) ?_
        ((try dsimp only); repeat infer_instance)
        have e : sure t g s = false := by
          cases z : sure t g s with
          | false => rfl
          | true => exact absurd ((hl4 g).mpr (sure_true.mp z here (S.snd here hin0))) hr
        rw [e] at q
        exact q _ I3.sm
      refine rd_ifF (by rw [decide_eq_true hr]; rfl) ?_
      have hgood := (hl4 g).mp hr
      ((try dsimp only); repeat infer_instance)
      refine ht.for0 (fun i σ' H' => ∃ x y z l' R', σ' = [some v, some (.ref bs), some vg, some (.ref F), some (.ref Rm), some hv, x, y, z] ∧ SInv H H' F Rm l' R' ∧ Dt H' hv (encP here) ∧ (sucG (t.take i) g here).foldl addQ (l, R0) = (l', R')) ⟨y, z, w, l, R0, rfl, I3, hh, by simp [sucT, sucB, sucG]⟩ (fun i σ' H' p => by obtain ⟨_, _, _, _, _, _, I, _⟩ := p; exact I.sm) (fun i d u σ' H' hd hP hu => ?_) (fun σ' H' hP => ?_)
      · obtain ⟨x1, y1, z1, l', R', rfl, I4, hh4, hlR⟩ := hP
        obtain ⟨x, hx, rfl⟩ := toldD_get hd
        have hm := List.mem_of_getElem? hx
        have hfew := run_few S hb (qs := sucG (t.take i) g here) (sucG_shp hshp) (by simpa using hRl)
        rw [hlR] at hfew
        have hfew1 : l'.length ≤ 16 := hfew.1
        have hfew2 : R'.length ≤ 16 := hfew.2
        refine rd_gtup hu rfl fun us hus => ?_
        refine rd_gcons hus fun e re he hre => ?_
        ((try dsimp only); repeat infer_instance)
        refine rd_gcons hre fun wv rw2 hw hrw => ?_
        ((try dsimp only); repeat infer_instance)
        refine rd_gnil' hrw ?_
        ((try dsimp only); repeat infer_instance)
        refine ⟨r, c, here, _, _, x.1, rfl, hh4, hshp, he, ok.lns x hm, fun v4 H4 s4 d4 => ?_⟩
        have I4 := I4.keep s4
        have hh4 := hh4.ups s4
        ((try dsimp only); repeat infer_instance)
        refine ⟨F, _, rfl, I4.dget d4, ?_⟩
        rw [seenP_get]
        ((try dsimp only); repeat infer_instance)
        by_cases hin : act here x.1 ∈ l'
        · refine rd_ifF (by rw [decide_eq_true hin]; rfl) ?_
          ((try dsimp only); repeat infer_instance)
          refine ⟨_, _, _, l', R', rfl, I4, hh4, ?_⟩
          rw [sucG_snoc hx, if_pos hg0, List.foldl_append, hlR]
          show addQ (l', R') _ = _
          exact if_pos hin
        · refine rd_ifT (by rw [decide_eq_false hin]; rfl) ?_
          ((try dsimp only); repeat infer_instance)
          obtain ⟨H5, hput, I5, d5⟩ := I4.putR d4 hin (by omega)
          have hh5 : Dt H5 hv (encP here) := by
            rcases hput with ⟨kvs, k, e1, _⟩ | ⟨kvs, k, b, e1, _, _, _, e2⟩
            · rw [I4.f] at e1; cases e1
            · rw [e2]; exact hh4.up (.dT e1)
          refine ⟨F, H5, rfl, hput, ?_⟩
          ((try dsimp only); repeat infer_instance)
          refine ⟨I5.ty, ?_⟩
          ((try dsimp only); repeat infer_instance)
          have hh6 : ∀ H6 : Hp, Tk H5 H6 → Dt H6 hv (encP here) := fun H6 k => hh5.up k
          obtain ⟨ys, hr1, hr2⟩ := I5.r
          refine rd_app hr1 (by rw [hr2.len, List.length_map]; omega) ?_
          have I6 : SInv H (upd H5 Rm (.lst (ys ++ [v4]))) F Rm (l' ++ [act here x.1]) (R' ++ [act here x.1]) := ⟨upd_keep I5.sm I5.r0, (upd_ne I5.ne).trans I5.f, ⟨_, upd_same, by rw [List.map_append]; exact (hr2.app (.one d5)).up (.lst hr1)⟩, I5.f0, I5.r0⟩
          ((try dsimp only); repeat infer_instance)
          refine ⟨_, _, _, l' ++ [act here x.1], R' ++ [act here x.1], rfl, I6, hh6 _ (.lst hr1), ?_⟩
          rw [sucG_snoc hx, if_pos hg0, List.foldl_append, hlR]
          show addQ (l', R') _ = _
          exact if_neg hin
      · obtain ⟨x1, y1, z1, l', R', rfl, I4, hh4, hlR⟩ := hP
        rw [toldD_len, List.take_length] at hlR
        obtain ⟨S', k, hk1, hk2⟩ := S.turn (sucG_shp hshp) hlR
        have f1 := S'.few hb
        refine ⟨_, ?_, l', R', _, _, _, _, rfl, I4, S', by simp at hRl; omega, rfl, fun p hp => ?_⟩
        · unfold left
          simp
          omega
        · obtain ⟨nw, e1, h1, h2, h3⟩ := addQ_run (sucG t g here) l R0
          rw [e1] at hlR
          cases hlR
          rcases List.mem_append.mp hp with z | z
          · rcases hX p z with w | w
            · rcases List.mem_append.mp w with w | w
              · exact .inl (by simp [w])
              · simp at w
                subst w
                exact .inr hgood
            · exact .inr w
          · exact .inl (by simp [z])

end Cz

set_option Elab.async false
set_option linter.all false
set_option maxRecDepth 100000
set_option maxHeartbeats 1000000
/-! dicts of pictures, in plain -/
namespace Cz
open PySem L2
section
variable {β : Type} {val : β → V}
def gV (val : β → V) (t : List (Pic × β)) : List (List Key × V) := t.map fun x => (keyP x.1, val x.2)
def gLook (t : List (Pic × β)) (e : Pic) : Option β := (t.find? fun x => decide (x.1 = e)).map (·.2)
def gAdd (t : List (Pic × β)) (e : Pic) (w : β) : List (Pic × β) := if t.any (fun x => decide (x.1 = e)) then t.map (fun x => if x.1 = e then (x.1, w) else x) else t ++ [(e, w)]
def gDrop (t : List (Pic × β)) (e : Pic) : List (Pic × β) := t.filter fun x => decide (x.1 ≠ e)
theorem gV_look (t : List (Pic × β)) (e : Pic) : valV (gV val t) (keyP e) = (gLook t e).map val := by
  induction t with
  | nil => rfl
  | cons x t ih =>
    by_cases h : x.1 = e
    · have : gLook (x :: t) e = some x.2 := by unfold gLook; rw [List.find?_cons, decide_eq_true h]; rfl
      rw [this]
      exact valV_pos (p := (keyP x.1, val x.2)) (by rw [h])
    · have : gLook (x :: t) e = gLook t e := by unfold gLook; rw [List.find?_cons, decide_eq_false h]
      rw [this, ← ih]
      exact valV_neg (p := (keyP x.1, val x.2)) (fun q => h (keyP_inj q))
theorem gV_put (t : List (Pic × β)) (e : Pic) (w : β) : putK (gV val t) (keyP e) (val w) = gV val (gAdd t e w) := by
  have h : ((gV val t).any fun kv => decide (kv.1 = keyP e)) = t.any fun x => decide (x.1 = e) := by
    unfold gV
    rw [List.any_map]
    congr 1
    funext x
    show decide (keyP x.1 = keyP e) = _
    by_cases q : x.1 = e
    · rw [decide_eq_true q, decide_eq_true (by rw [q])]
    · rw [decide_eq_false q, decide_eq_false fun z => q (keyP_inj z)]
  unfold putK gAdd
  rw [h]
  split
  · unfold gV
    rw [List.map_map, List.map_map]
    refine List.map_congr_left fun x _ => ?_
    by_cases q : x.1 = e
    · simp [q]
    · have : ¬ keyP x.1 = keyP e := fun z => q (keyP_inj z)
      simp [q, this]
  · unfold gV
    rw [List.map_append]
    rfl
theorem gV_drop (t : List (Pic × β)) (e : Pic) : dropK (gV val t) (keyP e) = gV val (gDrop t e) := by
  unfold dropK gV gDrop
  rw [List.filter_map]
  congr 1
  refine List.filter_congr fun x _ => ?_
  show decide (keyP x.1 ≠ keyP e) = decide (x.1 ≠ e)
  by_cases q : x.1 = e
  · simp [q]
  · have : ¬ keyP x.1 = keyP e := fun z => q (keyP_inj z)
    simp [q, this]
theorem gV_at {t : List (Pic × β)} {i : Nat} {k : List Key} {v : V} (h : (gV val t)[i]? = some (k, v)) : ∃ x, t[i]? = some x ∧ k = keyP x.1 ∧ v = val x.2 := by
  unfold gV at h
  rw [List.getElem?_map] at h
  cases e : t[i]? with
  | none => rw [e] at h; cases h
  | some x => rw [e] at h; cases h; exact ⟨x, rfl, rfl, rfl⟩
theorem gV_len (t : List (Pic × β)) : (gV val t).length = t.length := by unfold gV; simp
/-- after a store -/
theorem gAdd_look (t : List (Pic × β)) (e : Pic) (w : β) (q : Pic) : gLook (gAdd t e w) q = if q = e then some w else gLook t q := by
  unfold gAdd
  by_cases h : (t.any fun x => decide (x.1 = e)) = true
  · rw [if_pos h]
    induction t with
    | nil => simp at h
    | cons x t ih =>
      rw [List.map_cons]
      by_cases hx : x.1 = e
      · rw [if_pos hx]
        by_cases hq : q = e
        · rw [if_pos hq]
          unfold gLook
          rw [List.find?_cons, decide_eq_true (show x.1 = q by rw [hq, hx])]
          rfl
        · rw [if_neg hq]
          unfold gLook
          rw [List.find?_cons, List.find?_cons, decide_eq_false (show ¬ x.1 = q by rw [hx]; exact fun z => hq z.symm)]
          by_cases ht : (t.any fun x => decide (x.1 = e)) = true
          · have := ih ht
            rw [if_neg hq] at this
            exact this
          · have : (t.map fun x => if x.1 = e then (x.1, w) else x) = t := by
              have : ∀ x ∈ t, (if x.1 = e then (x.1, w) else x) = x := fun x hx => if_neg fun z => ht (List.any_eq_true.mpr ⟨x, hx, decide_eq_true z⟩)
              rw [List.map_congr_left this, List.map_id']
            rw [this]
      · rw [if_neg hx]
        have ht : (t.any fun x => decide (x.1 = e)) = true := by
          rw [List.any_cons, decide_eq_false hx] at h
          exact h
        have := ih ht
        unfold gLook at this ⊢
        rw [List.find?_cons, List.find?_cons]
        by_cases hq : x.1 = q
        · rw [decide_eq_true hq]
          rw [if_neg (fun z => hx (by rw [hq, z]))]
        · rw [decide_eq_false hq]
          exact this
  · rw [if_neg h]
    unfold gLook
    rw [List.find?_append]
    by_cases hq : q = e
    · rw [if_pos hq]
      have : (t.find? fun x => decide (x.1 = q)) = none := List.find?_eq_none.mpr fun x hx z => h (List.any_eq_true.mpr ⟨x, hx, by rw [← hq]; exact z⟩)
      rw [this]
      simp [hq]
    · rw [if_neg hq]
      have : ([(e, w)].find? fun x => decide (x.1 = q)) = none := by
        rw [List.find?_cons, decide_eq_false (fun z => hq z.symm)]; rfl
      rw [this]
      simp
theorem gAdd_keys (t : List (Pic × β)) (e : Pic) (w : β) : (gAdd t e w).map (·.1) = if e ∈ t.map (·.1) then t.map (·.1) else t.map (·.1) ++ [e] := by
  have h : (t.any fun x => decide (x.1 = e)) = decide (e ∈ t.map (·.1)) := by
    by_cases q : e ∈ t.map (·.1)
    · rw [decide_eq_true q, List.any_eq_true]
      obtain ⟨x, hx, rfl⟩ := List.mem_map.mp q
      exact ⟨x, hx, decide_eq_true rfl⟩
    · rw [decide_eq_false q, List.any_eq_false]
      intro x hx z
      exact q (List.mem_map.mpr ⟨x, hx, of_decide_eq_true z⟩)
  unfold gAdd
  rw [h]
  by_cases q : e ∈ t.map (·.1)
  · rw [decide_eq_true q, if_pos rfl, if_pos q, List.map_map]
    refine List.map_congr_left fun x _ => ?_
    simp only [Function.comp]
    split <;> rfl
  · rw [decide_eq_false q, if_neg (by decide), if_neg q, List.map_append]
    rfl
theorem gLook_mem {t : List (Pic × β)} (hn : (t.map (·.1)).Nodup) {x : Pic × β} (hx : x ∈ t) : gLook t x.1 = some x.2 := by
  induction t with
  | nil => simp at hx
  | cons y t ih =>
    rw [List.map_cons, List.nodup_cons] at hn
    unfold gLook
    rw [List.find?_cons]
    rcases List.mem_cons.mp hx with rfl | q
    · rw [decide_eq_true rfl]; rfl
    · have : ¬ y.1 = x.1 := fun e => hn.1 (by rw [e]; exact List.mem_map.mpr ⟨x, q, rfl⟩)
      rw [decide_eq_false this]
      exact ih hn.2 q
theorem gLook_some {t : List (Pic × β)} {e : Pic} {w : β} (h : gLook t e = some w) : (e, w) ∈ t := by
  unfold gLook at h
  cases z : t.find? fun x => decide (x.1 = e) with
  | none => rw [z] at h; cases h
  | some x =>
    rw [z] at h
    cases h
    have h1 := List.mem_of_find?_eq_some z
    have h2 : x.1 = e := by simpa using List.find?_some z
    rw [← h2]
    exact h1
theorem gDrop_look (t : List (Pic × β)) (e q : Pic) : gLook (gDrop t e) q = if q = e then none else gLook t q := by
  unfold gLook gDrop
  rw [List.find?_filter]
  by_cases hq : q = e
  · rw [if_pos hq, List.find?_eq_none.mpr]
    · rfl
    · intro x hx
      simp [hq]
  · rw [if_neg hq]
    congr 2
    funext x
    by_cases hx : x.1 = q
    · have : x.1 ≠ e := fun z => hq (by rw [← hx, z])
      simp [hx, hq]
    · simp [hx]
/-- keys apart, all on the board -/
structure MOk (r c : Nat) (m : List (Pic × β)) : Prop where
  nd : (m.map (·.1)).Nodup
  shp : ∀ x ∈ m, Shp r c x.1
theorem MOk.few {r c : Nat} {m : List (Pic × β)} (h : MOk r c m) (hb : (r, c) ∈ boards) : m.length ≤ 16 := by
  have := few16 hb h.nd fun p hp => by
    obtain ⟨x, hx, rfl⟩ := List.mem_map.mp hp
    exact h.shp x hx
  simpa using this
theorem MOk.add {r c : Nat} {m : List (Pic × β)} (h : MOk r c m) {e : Pic} (he : Shp r c e) (w : β) : MOk r c (gAdd m e w) := by
  have keys := gAdd_keys m e w
  refine ⟨?_, fun x hx => ?_⟩
  · rw [keys]
    split
    · exact h.nd
    · rename_i q
      rw [List.nodup_append]
      exact ⟨h.nd, by simp, fun a ha b hb => by simp at hb; subst hb; exact fun z => q (z ▸ ha)⟩
  · have : x.1 ∈ (gAdd m e w).map (·.1) := List.mem_map.mpr ⟨x, hx, rfl⟩
    rw [keys] at this
    split at this
    · obtain ⟨y, hy, e'⟩ := List.mem_map.mp this
      rw [← e']; exact h.shp y hy
    · rcases List.mem_append.mp this with q | q
      · obtain ⟨y, hy, e'⟩ := List.mem_map.mp q
        rw [← e']; exact h.shp y hy
      · simp at q; rw [q]; exact he
theorem MOk.drop {r c : Nat} {m : List (Pic × β)} (h : MOk r c m) (e : Pic) : MOk r c (gDrop m e) := by
  refine ⟨?_, fun x hx => h.shp x (List.mem_filter.mp hx).1⟩
  exact (List.filter_sublist.map _).nodup h.nd
end
/-- for over the measure while the dict at F grows -/
theorem for_told {K : PySem.W.Frag} {H0 : Hp} {σ : St} {v : V} {ds : List PyData} {g : TG} {tb : TS} {D : Ends} {F : Addr} {kvs : List (List Key × V)} (hx : Ft H0 v ds) (Pv : Nat → St → Hp → Prop) (hF : H0 F = some (.dT kvs)) (h0 : Pv 0 σ H0) (hsm : ∀ i σ' H', Pv i σ' H' → ∀ b o, b ≠ F → H0 b = some o → H' b = some o)
    (hs : ∀ i d u σ' H', ds[i]? = some d → Pv i σ' H' → Dt H' u d → g u σ' H' fun σ2 H2 => tb { D with nx := Pv (i + 1), ct := Pv (i + 1), bk := D.nx } σ2 H2) (hd : ∀ σ' H', Pv ds.length σ' H' → D.nx σ' H') :
    ∃ a, v = .ref a ∧ (∃ xs, SqT K H0 a xs) ∧ FoK g tb D σ (Itt K a) H0 := by
  obtain ⟨a, xs, o, rfl, h1, h2, h3⟩ := hx
  have ha : a ≠ F := fun z => by subst z; rw [h1] at hF; cases hF
  have keep : ∀ i σ' H', Pv i σ' H' → SqT K H' a xs := fun i σ' H' p => .inl (.inr ⟨o, hsm i σ' H' p _ _ ha h1⟩)
  refine ⟨a, rfl, ⟨xs, keep 0 σ H0 h0⟩, for_tup (K := K) (a := a) (xs := xs) Pv h0 (fun i σ' H' _ p => keep i σ' H' p) (fun i x σ' H' hi p => ?_) (by rw [h3.len]; exact hd)⟩
  obtain ⟨d, e, hu⟩ := h3.got hi
  exact hs i d x σ' H' e p (hu.up fun b ys e => hsm i σ' H' p b _ (fun z => by subst z; rw [hF] at e; cases e) e)
/-! ### a turn of the chain, by whole numbers -/
def addM (f : List (Pic × Int)) (q : Pic) (v : Int) : List (Pic × Int) := gAdd f q ((gLook f q).getD 0 + v)
def stepA (t : Told) (p : Pic) (k : Int) (f : List (Pic × Int)) : List (Pic × Int) := t.foldl (fun f e => addM f (act p e.1) (k * e.2)) f
def stepM (t : Told) (m : List (Pic × Int)) : List (Pic × Int) := m.foldl (fun f x => stepA t x.1 x.2 f) []
theorem stepA_snoc {t : Told} {i : Nat} {x : Eff × Int} (h : t[i]? = some x) (p : Pic) (k : Int) (f : List (Pic × Int)) : stepA (t.take (i + 1)) p k f = addM (stepA (t.take i) p k f) (act p x.1) (k * x.2) := by
  unfold stepA
  rw [List.take_add_one, h, List.foldl_append]
  rfl
theorem stepM_snoc {t : Told} {m : List (Pic × Int)} {i : Nat} {x : Pic × Int} (h : m[i]? = some x) : stepM t (m.take (i + 1)) = stepA t x.1 x.2 (stepM t (m.take i)) := by
  unfold stepM
  rw [List.take_add_one, h, List.foldl_append]
  rfl
theorem MOk.stepA {r c : Nat} {p : Pic} (hp : Shp r c p) (k : Int) : ∀ (t : Told) {f : List (Pic × Int)}, MOk r c f → MOk r c (stepA t p k f)
  | [], _, h => h
  | x :: t, f, h => MOk.stepA hp k t (f := addM f (act p x.1) (k * x.2)) (h.add (hp.act _) _)
theorem MOk.stepM {r c : Nat} {t : Told} : ∀ (m : List (Pic × Int)) {f : List (Pic × Int)}, (∀ x ∈ m, Shp r c x.1) → MOk r c f → MOk r c (m.foldl (fun f x => Cz.stepA t x.1 x.2 f) f)
  | [], _, _, h => h
  | x :: m, f, hm, h => MOk.stepM m (fun y hy => hm y (by simp [hy])) (MOk.stepA (hm x (by simp)) x.2 t h)
end Cz

set_option Elab.async false
set_option linter.all false
set_option maxRecDepth 100000
set_option maxHeartbeats 4000000

namespace Cz
open PySem L2
local macro_rules | `(tactic| infer_instance) => `(tactic| with_reducible first
  | refine rd_seq ?_ | refine rd_cons ?_ | refine rd_nil ?_ | refine rd_c ?_ | refine rd_op ?_ | (refine rd_var (v := ?_) ?_ ?_; rotate_left 1; (with_unfolding_all rfl)) | refine rd_un ?_ | refine rd_call ?_ | refine rd_cb ?_ | refine rd_I0 ?_ | refine rd_test ?_ | refine rd_tB ?_ | refine rd_k ?_
  | refine rd_not ?_ | refine rd_and ?_ | refine rd_or ?_ | refine rd_andV ?_ | refine rd_orV ?_ | refine rd_notV ?_ | refine rd_ife ?_ | refine rd_chain ?_ | refine rd_tup ?_ | refine rd_lst ?_ | refine rd_bm0 ?_ | refine rd_bm ?_ | refine rd_sl ?_ | refine rd_nopart ?_ | refine rd_part ?_ | refine rd_i ?_
  | refine rd_next ?_ | refine rd_cont ?_ | refine rd_drop ?_ | refine rd_ret ?_ | refine rd_retN ?_ | refine rd_if ?_ | refine rd_asg ?_ | refine rd_gname ?_ | refine rd_par ?_ | refine rd_par3 ?_ | refine rd_v2 ?_ | refine rd_v3 ?_ | refine rd_gnil ?_ | refine rd_for ?_ | refine rd_lc ?_ | refine rd_yes ?_ | refine rd_iT ?_ | refine rd_iL ?_ | refine rd_iR1 ?_ | refine rd_iR2 ?_ | refine rd_iS ?_ | refine rd_dput ?_ | refine rd_din ?_ | refine rd_dnin ?_ | refine rd_dget ?_ | refine rd_dget2 ?_ | refine rd_dnewK ?_ | refine rd_dnewT ?_ | refine rd_augS ?_ | refine rd_gsub ?_ | refine rd_body ?_ | refine rd_valsT ?_ | refine rd_itemsT ?_ | refine rd_frz ?_ | refine rd_keys ?_ | refine rd_rev ?_ | (refine rd_ifT ?_ ?_; (with_unfolding_all rfl)) | (refine rd_ifF ?_ ?_; (with_unfolding_all rfl)))

structure LI (H0 H' : Hp) (F Rm : Addr) (l R : List Pic) : Prop where
  sm : Same H0 H'
  f : PL H' F l
  r : PL H' Rm R
  ne : F ≠ Rm
  f0 : H0 F = none
  r0 : H0 Rm = none
section
variable {K : PySem.W.Frag} {H0 H' H2 : Hp} {F Rm : Addr} {l R : List Pic} {p : Pic} {v : V} {Q : VK}
theorem LI.keep (I : LI H0 H' F Rm l R) (s : Same H' H2) : LI H0 H2 F Rm l R := ⟨I.sm.trans s, I.f.same s, I.r.same s, I.ne, I.f0, I.r0⟩
theorem LI.popR (I : LI H0 H' F Rm l (R ++ [p])) (q : ∀ y H2, LI H0 H2 F Rm l R → Dt H2 y (encP p) → Q y H2) : rPop (.ref Rm) [] H' Q := by
  obtain ⟨xs, h1, h2⟩ := I.r
  have hl := h2.len
  rw [List.map_append, List.map_cons, List.map_nil] at h2 hl
  have e : ((R.map encP) ++ [encP p])[xs.length - 1]? = some (encP p) := by
    rw [hl]
    simp
  obtain ⟨y, ey, hy⟩ := h2.get e
  have tk : Tk H' (upd H' Rm (.lst xs.dropLast)) := .lst h1
  obtain ⟨zs, g1, g2⟩ := I.f
  refine ⟨Rm, xs, y, rfl, rfl, h1, ey, q _ _ ⟨upd_keep I.sm I.r0, ⟨zs, (upd_ne I.ne).trans g1, g2.up tk⟩, ⟨_, upd_same, ?_⟩, I.ne, I.f0, I.r0⟩ (hy.up tk)⟩
  have := (h2.dropLast).up tk
  rwa [List.dropLast_concat] at this
theorem LI.ty (I : LI H0 H' F Rm l R) : tyV K "list" (.ref Rm) H' := let ⟨_, h1, _⟩ := I.r; ty_lst h1
theorem LI.tyF (I : LI H0 H' F Rm l R) : tyV K "list" (.ref F) H' := let ⟨_, h1, _⟩ := I.f; ty_lst h1
theorem any_pic (l : List Pic) (p : Pic) : ((l.map encP).any fun z => PyData.eqv z (encP p)) = decide (p ∈ l) := by
  rw [List.any_map]
  by_cases h : p ∈ l
  · rw [decide_eq_true h, List.any_eq_true]
    exact ⟨p, h, by show PyData.eqv (encP p) (encP p) = true; rw [eq_pic, decide_eq_true rfl]⟩
  · rw [decide_eq_false h, List.any_eq_false]
    intro m hm
    show ¬ PyData.eqv (encP m) (encP p) = true
    rw [eq_pic]
    simp
    exact fun z => h (z ▸ hm)
theorem rd_notInP (h : PL H' F l) (hv : Dt H' v (encP p)) (q : Q (.bl (!decide (p ∈ l))) H') : rNotInD K v (.ref F) H' Q := ⟨_, _, hv.dp K, h.ls.dp K, sh_pic p, sh_pics l, by rw [any_pic]; exact q⟩
theorem rd_inP (h : PL H' F l) (hv : Dt H' v (encP p)) (q : Q (.bl (decide (p ∈ l))) H') : rInD K v (.ref F) H' Q := ⟨_, _, hv.dp K, h.ls.dp K, sh_pic p, sh_pics l, by rw [any_pic]; exact q⟩
end
abbrev s__law_reach : Stmt := topS 65
abbrev n__law_reach : List Str := ["_law_told", "_law_start", "_law_found", "_law_rim", "_law_here", "_law_one", "_law_weight", "_law_there"]
theorem sc__law_reach : FnScope n__law_reach ["_law_told", "_law_start"] (defScope s__law_reach) := ⟨rfl, rfl, rfl, by decide +kernel, rfl, by decide +kernel, by decide +kernel⟩

def sp__law_reach (K : PySem.W.Frag) : Sp := fun vs H Q E => ∃ (r c : Nat) (t : Told) (s : Pic) (v vs0 : V), vs = [v, vs0] ∧ (r, c) ∈ boards ∧ Ft H v (toldD t) ∧ TOk r c t ∧ Dt H vs0 (encP s) ∧ Shp r c s ∧ (∀ p H' l, Same H H' → H p = none → PL H' p l → l.Nodup → (∀ q, q ∈ l ↔ Cl (sucT t) s q) → Q (.ref p) H')
theorem ok__law_reach {P : Program} {w : World} {K : PySem.W.Frag} {mg : Str → Option Value} {base : Heap} {f : Addr} {fd : FuncData} (F : Fun K "_law_reach" "_law_reach" s__law_reach f fd) (Z : Bl mg) (C : Ct mg) (D_law_strokes : Dn P w K mg base "_law_strokes" ["_law_picture_here", "_law_lines"] 2 (sp__law_strokes K)) : FnOk P w K mg base CX0 3 f fd ["_law_told", "_law_start"] (sp__law_reach K) := by
  refine F.ok (k := 2) sc__law_reach (fun vs H Q E h => ?_) (fun cdv A outer s H vs Q E hr h => ?_)
  · obtain ⟨r, c, t, s, v, vs0, rfl, hb, ht, ok, hs, hp, q⟩ := h
    rfl
  · refine ⟨_, (pss_cons (ps_par (i := 2) (j := 3) rfl sc__law_reach.nd rfl rfl (by decide) rfl rfl (pa_cons (pe_lst (pa_cons (pv 1) pa_nil)) (pa_cons (pe_lst (pa_cons (pv 1) pa_nil)) pa_nil)) (by rfl))
    (pss_cons (ps_while PassesOwn.never (pt_cmpR (kNeD (K := K) rfl hr.units) (pv 3) (pe_lst pa_nil) (nomark _))
      (pss_cons (ps_set (i := 4) sc__law_reach.nd rfl (.inl rfl) (pe_bm0 PySem.F.plainAttrs_list PySem.F.slot_list_pop PySem.F.type_list_pop mt_pop (pv 3)))
      (pss_one (ps_for PassesOwn.never rfl (pi_tup (pv 0)) (pg_tup rfl (pgs_cons (pg_name (i := 5) sc__law_reach.nd rfl (.inl rfl)) (pgs_cons (pg_name (i := 6) sc__law_reach.nd rfl (.inl rfl)) pgs_nil)))
        (pss_cons (ps_set (i := 7) sc__law_reach.nd rfl (.inl rfl) (pe_fn D_law_strokes hr (pa_cons (pv 4) (pa_cons (pv 5) pa_nil))))
        (pss_one (ps_if (pt_cmpR (kNotInD (K := K) rfl (hu65 hr)) (pv 7) (pv 2) rfl)
          (pss_cons (ps_expr (pe_bm PySem.F.plainAttrs_list PySem.F.slot_list_append PySem.F.type_list_append mt_append (pv 2) (pa_cons (pv 7) pa_nil)))
          (pss_one (ps_expr (pe_bm PySem.F.plainAttrs_list PySem.F.slot_list_append PySem.F.type_list_append mt_append (pv 3) (pa_cons (pv 7) pa_nil)))))
          pss_nil)))))))
    (pss_one (ps_ret (pv 2))))), ?_⟩
    clear hr Z C D_law_strokes
    obtain ⟨r, c, t, s, v, vs0, rfl, hb, ht, ok, hs, hp, q⟩ := h
    ((try dsimp only); repeat infer_instance)
    refine ⟨by show 1 ≤ _; decide, fun F hF => ?_⟩
    ((try dsimp only); repeat infer_instance)
    refine ⟨by show 1 ≤ _; decide, fun Rm hRm => ?_⟩
    ((try dsimp only); repeat infer_instance)
    have hRF : Rm ≠ F := fun q => by subst q; rw [upd_same] at hRm; cases hRm
    have I0 : LI H (upd (upd H F (.lst [vs0])) Rm (.lst [vs0])) F Rm [s] [s] := by
      have k1 := same_upd (o := .lst [vs0]) hF
      have k2 := same_upd (o := .lst [vs0]) hRm
      exact ⟨k1.trans k2, ⟨_, k2 _ _ upd_same, .one ((hs.ups k1).ups k2)⟩, ⟨_, upd_same, .one ((hs.ups k1).ups k2)⟩, Ne.symm hRF, hF, by rw [upd_ne hRF] at hRm; exact hRm⟩
    generalize upd (upd H F (.lst [vs0])) Rm (.lst [vs0]) = H1 at *
    clear hRm hF hRF
    refine ⟨fun m σ H' => ∃ l R x y z w, σ = [some v, some vs0, some (.ref F), some (.ref Rm), x, y, z, w] ∧ LI H H' F Rm l R ∧ Srch (sucT t) s r c l R ∧ R.length ≤ l.length ∧ m = left l R, ⟨_, [s], [s], none, none, none, none, rfl, I0, Srch.start hp, Nat.le_refl _, rfl⟩, ?_⟩
    rintro m σ H' ⟨l, R, x, y, z, w, rfl, I, S, hRl, rfl⟩
    clear I0
    ((try dsimp only); repeat infer_instance)
    refine ⟨by show 0 ≤ _; decide, fun p0 hp0 => ?_⟩
    have I := I.keep (same_upd (o := .lst []) hp0)
    have e0 : upd H' p0 (.lst []) p0 = some (.lst []) := upd_same
    generalize upd H' p0 (.lst []) = H2 at *
    clear hp0
    refine rd_neNilP I.r e0 ?_
    ((try dsimp only); repeat infer_instance)
    rcases List.eq_nil_or_concat R with rfl | ⟨R0, here, rfl⟩
    · refine rd_ifF rfl ?_
      ((try dsimp only); repeat infer_instance)
      exact q F H2 l I.sm I.f0 I.f S.nd S.done
    · rw [List.concat_eq_append] at *
      refine rd_ifT (by simp) ?_
      ((try dsimp only); repeat infer_instance)
      refine ⟨I.ty, ?_⟩
      refine I.popR fun hv H3 I3 hh => ?_
      have hshp := S.shp here (S.rim here (by simp))
      ((try dsimp only); repeat infer_instance)
      refine ht.for0 (fun i σ' H' => ∃ x y z l' R', σ' = [some v, some vs0, some (.ref F), some (.ref Rm), some hv, x, y, z] ∧ LI H H' F Rm l' R' ∧ Dt H' hv (encP here) ∧ (sucT (t.take i) here).foldl addQ (l, R0) = (l', R')) ⟨y, z, w, l, R0, rfl, I3, hh, by simp [sucT]⟩ (fun i σ' H' p => by obtain ⟨_, _, _, _, _, _, I, _⟩ := p; exact I.sm) (fun i d u σ' H' hd hP hu => ?_) (fun σ' H' hP => ?_)
      · obtain ⟨x1, y1, z1, l', R', rfl, I4, hh4, hlR⟩ := hP
        obtain ⟨x, hx, rfl⟩ := toldD_get hd
        have hm := List.mem_of_getElem? hx
        have hfew := run_few S hb (qs := sucT (t.take i) here) (sucT_shp hshp) (by simpa using hRl)
        rw [hlR] at hfew
        have hfew1 : l'.length ≤ 16 := hfew.1
        have hfew2 : R'.length ≤ 16 := hfew.2
        refine rd_gtup hu rfl fun us hus => ?_
        refine rd_gcons hus fun e re he hre => ?_
        ((try dsimp only); repeat infer_instance)
        refine rd_gcons hre fun wv rw2 hw hrw => ?_
        ((try dsimp only); repeat infer_instance)
        refine rd_gnil' hrw ?_
        ((try dsimp only); repeat infer_instance)
        refine ⟨r, c, here, _, _, x.1, rfl, hh4, hshp, .inl he, ok.lns x hm, fun v4 H4 s4 d4 => ?_⟩
        have I4 := I4.keep s4
        have hh4 := hh4.ups s4
        ((try dsimp only); repeat infer_instance)
        refine rd_notInP I4.f d4 ?_
        ((try dsimp only); repeat infer_instance)
        by_cases hin : act here x.1 ∈ l'
        · refine rd_ifF (by rw [decide_eq_true hin]; rfl) ?_
          ((try dsimp only); repeat infer_instance)
          refine ⟨_, _, _, l', R', rfl, I4, hh4, ?_⟩
          rw [sucT_snoc hx, List.foldl_append, hlR]
          show addQ (l', R') _ = _
          exact if_pos hin
        · refine rd_ifT (by rw [decide_eq_false hin]; rfl) ?_
          ((try dsimp only); repeat infer_instance)
          refine ⟨I4.tyF, ?_⟩
          ((try dsimp only); repeat infer_instance)
          obtain ⟨ys, hr1, hr2⟩ := I4.r
          obtain ⟨zs, hf1, hf2⟩ := I4.f
          refine rd_app hf1 (by rw [hf2.len, List.length_map]; omega) ?_
          have tk5 : Tk H4 (upd H4 F (.lst (zs ++ [v4]))) := .lst hf1
          have hr1' : upd H4 F (.lst (zs ++ [v4])) Rm = some (.lst ys) := (upd_ne (Ne.symm I4.ne)).trans hr1
          ((try dsimp only); repeat infer_instance)
          refine ⟨ty_lst hr1', ?_⟩
          ((try dsimp only); repeat infer_instance)
          refine rd_app hr1' (by rw [hr2.len, List.length_map]; omega) ?_
          have tk6 : Tk (upd H4 F (.lst (zs ++ [v4]))) (upd (upd H4 F (.lst (zs ++ [v4]))) Rm (.lst (ys ++ [v4]))) := .lst hr1'
          have tk := tk5.trans tk6
          have I6 : LI H (upd (upd H4 F (.lst (zs ++ [v4]))) Rm (.lst (ys ++ [v4]))) F Rm (l' ++ [act here x.1]) (R' ++ [act here x.1]) :=
            ⟨upd_keep (upd_keep I4.sm I4.f0) I4.r0, ⟨_, (upd_ne I4.ne).trans upd_same, by rw [List.map_append]; exact (hf2.app (.one d4)).up tk⟩, ⟨_, upd_same, by rw [List.map_append]; exact (hr2.app (.one d4)).up tk⟩, I4.ne, I4.f0, I4.r0⟩
          ((try dsimp only); repeat infer_instance)
          refine ⟨_, _, _, l' ++ [act here x.1], R' ++ [act here x.1], rfl, I6, hh4.up tk, ?_⟩
          rw [sucT_snoc hx, List.foldl_append, hlR]
          show addQ (l', R') _ = _
          exact if_neg hin
      · obtain ⟨x1, y1, z1, l', R', rfl, I4, hh4, hlR⟩ := hP
        rw [toldD_len, List.take_length] at hlR
        obtain ⟨S', k, hk1, hk2⟩ := S.turn (sucT_shp hshp) hlR
        have f1 := S'.few hb
        refine ⟨_, ?_, l', R', _, _, _, _, rfl, I4, S', by simp at hRl; omega, rfl⟩
        unfold left
        simp
        omega

theorem board_le {r c : Nat} (h : (r, c) ∈ boards) : 1 ≤ r ∧ r ≤ 3 ∧ 1 ≤ c ∧ c ≤ 3 ∧ r * c ≤ 6 := by
  have : boards.all (fun b => decide (1 ≤ b.1) && decide (b.1 ≤ 3) && decide (1 ≤ b.2) && decide (b.2 ≤ 3) && decide (b.1 * b.2 ≤ 6)) = true := by decide
  have := List.all_eq_true.mp this (r, c) h
  simp at this
  omega
abbrev s_can_come : Stmt := topS 43
abbrev n_can_come : List Str := ["rows", "columns", "told", "start", "goal"]
theorem sc_can_come : FnScope n_can_come ["rows", "columns", "told", "start", "goal"] (defScope s_can_come) := ⟨rfl, rfl, rfl, by decide +kernel, rfl, by decide +kernel, by decide +kernel⟩

def sp_can_come (K : PySem.W.Frag) : Sp := fun vs H Q E => ∃ (r c : Nat) (t : Told) (s g : Pic) (v vs0 vg : V), vs = [.int r, .int c, v, vs0, vg] ∧ (r, c) ∈ boards ∧ Ft H v (toldD t) ∧ TOk r c t ∧ Dt H vs0 (encP s) ∧ Shp r c s ∧ Dt H vg (encP g) ∧ Shp r c g ∧ retB H (rch t s g) Q
theorem ok_can_come {P : Program} {w : World} {K : PySem.W.Frag} {mg : Str → Option Value} {base : Heap} {f : Addr} {fd : FuncData} (F : Fun K "can_come" "can_come" s_can_come f fd) (Z : Bl mg) (C : Ct mg) (D_need_chain : Dn P w K mg base "need_chain" ["rows", "columns", "told"] 7 (sp_need_chain K)) (D_need_picture : Dn P w K mg base "need_picture" ["rows", "columns", "value"] 2 (sp_need_picture K)) (D_reached : Dn P w K mg base "reached" ["told", "start"] 3 (sp_reached K)) : FnOk P w K mg base CX0 8 f fd ["rows", "columns", "told", "start", "goal"] (sp_can_come K) := by
  refine F.ok (k := 7) sc_can_come (fun vs H Q E h => ?_) (fun cdv A outer s H vs Q E hr h => ?_)
  · obtain ⟨r, c, t, s, g, v, vs0, vg, rfl, hb, ht, ok, hs, hp, hg, hpg, q⟩ := h
    rfl
  · refine ⟨_, (pss_cons (ps_expr (pe_fn D_need_chain hr (pa_cons (pv 0) (pa_cons (pv 1) (pa_cons (pv 2) pa_nil)))))
    (pss_cons (ps_expr (pe_fn D_need_picture hr (pa_cons (pv 0) (pa_cons (pv 1) (pa_cons (pv 3) pa_nil)))))
    (pss_cons (ps_expr (pe_fn D_need_picture hr (pa_cons (pv 0) (pa_cons (pv 1) (pa_cons (pv 4) pa_nil)))))
    (pss_one (ps_ret (pe_cmp (pc_din (hu_of hr) (pv 4) (pe_fn D_reached hr (pa_cons (pv 2) (pa_cons (pv 3) pa_nil)))))))))), ?_⟩
    clear hr Z C D_need_chain D_need_picture D_reached
    obtain ⟨r, c, t, s, g, v, vs0, vg, rfl, hb, ht, ok, hs, hp, hg, hpg, q⟩ := h
    obtain ⟨b1, b2, b3, b4, b5⟩ := board_le hb
    ((try dsimp only); repeat infer_instance)
    refine ⟨r, c, t, v, rfl, b1, by omega, b3, by omega, b5, ht, ok, fun H1 s1 => ?_⟩
    ((try dsimp only); repeat infer_instance)
    refine ⟨r, c, s, vs0, rfl, hs.ups s1, hp, fun H2 s2 => ?_⟩
    ((try dsimp only); repeat infer_instance)
    refine ⟨r, c, g, vg, rfl, (hg.ups s1).ups s2, hpg, fun H3 s3 => ?_⟩
    ((try dsimp only); repeat infer_instance)
    have s13 := (s1.trans s2).trans s3
    refine ⟨r, c, t, s, v, vs0, rfl, hb, ht.ups s13, ok, hs.ups s13, hp, fun d H4 l4 s4 _ e4 _ hl4 => ?_⟩
    ((try dsimp only); repeat infer_instance)
    refine ⟨d, _, rfl, DGet.of (k := keyP g) e4 (by rw [keyD_P]; exact (hg.ups s13).ups s4), ?_⟩
    rw [seenP_get, rch_of hl4]
    exact q _ (s13.trans s4)

abbrev s_must_come : Stmt := topS 45
abbrev n_must_come : List Str := ["rows", "columns", "told", "start", "goal"]
theorem sc_must_come : FnScope n_must_come ["rows", "columns", "told", "start", "goal"] (defScope s_must_come) := ⟨rfl, rfl, rfl, by decide +kernel, rfl, by decide +kernel, by decide +kernel⟩

def sp_must_come (K : PySem.W.Frag) : Sp := fun vs H Q E => ∃ (r c : Nat) (t : Told) (s g : Pic) (v vs0 vg : V), vs = [.int r, .int c, v, vs0, vg] ∧ (r, c) ∈ boards ∧ Ft H v (toldD t) ∧ TOk r c t ∧ Dt H vs0 (encP s) ∧ Shp r c s ∧ Dt H vg (encP g) ∧ Shp r c g ∧ retB H (sure t g s) Q
theorem ok_must_come {P : Program} {w : World} {K : PySem.W.Frag} {mg : Str → Option Value} {base : Heap} {f : Addr} {fd : FuncData} (F : Fun K "must_come" "must_come" s_must_come f fd) (Z : Bl mg) (C : Ct mg) (D_need_chain : Dn P w K mg base "need_chain" ["rows", "columns", "told"] 7 (sp_need_chain K)) (D_need_picture : Dn P w K mg base "need_picture" ["rows", "columns", "value"] 2 (sp_need_picture K)) (D_surely : Dn P w K mg base "surely" ["told", "start", "goal"] 4 (sp_surely K)) : FnOk P w K mg base CX0 8 f fd ["rows", "columns", "told", "start", "goal"] (sp_must_come K) := by
  refine F.ok (k := 7) sc_must_come (fun vs H Q E h => ?_) (fun cdv A outer s H vs Q E hr h => ?_)
  · obtain ⟨r, c, t, s, g, v, vs0, vg, rfl, hb, ht, ok, hs, hp, hg, hpg, q⟩ := h
    rfl
  · refine ⟨_, (pss_cons (ps_expr (pe_fn D_need_chain hr (pa_cons (pv 0) (pa_cons (pv 1) (pa_cons (pv 2) pa_nil)))))
    (pss_cons (ps_expr (pe_fn D_need_picture hr (pa_cons (pv 0) (pa_cons (pv 1) (pa_cons (pv 3) pa_nil)))))
    (pss_cons (ps_expr (pe_fn D_need_picture hr (pa_cons (pv 0) (pa_cons (pv 1) (pa_cons (pv 4) pa_nil)))))
    (pss_one (ps_ret (pe_fn D_surely hr (pa_cons (pv 2) (pa_cons (pv 3) (pa_cons (pv 4) pa_nil))))))))), ?_⟩
    clear hr Z C D_need_chain D_need_picture D_surely
    obtain ⟨r, c, t, s, g, v, vs0, vg, rfl, hb, ht, ok, hs, hp, hg, hpg, q⟩ := h
    obtain ⟨b1, b2, b3, b4, b5⟩ := board_le hb
    ((try dsimp only); repeat infer_instance)
    refine ⟨r, c, t, v, rfl, b1, by omega, b3, by omega, b5, ht, ok, fun H1 s1 => ?_⟩
    ((try dsimp only); repeat infer_instance)
    refine ⟨r, c, s, vs0, rfl, hs.ups s1, hp, fun H2 s2 => ?_⟩
    ((try dsimp only); repeat infer_instance)
    refine ⟨r, c, g, vg, rfl, (hg.ups s1).ups s2, hpg, fun H3 s3 => ?_⟩
    ((try dsimp only); repeat infer_instance)
    have s13 := (s1.trans s2).trans s3
    refine ⟨r, c, t, s, g, v, vs0, vg, rfl, hb, ht.ups s13, ok, hs.ups s13, hp, hg.ups s13, fun H4 s4 => ?_⟩
    exact q _ (s13.trans s4)

abbrev s_stepped : Stmt := topS 40
abbrev n_stepped : List Str := ["told", "now", "found", "picture", "many", "one", "weight", "there"]
theorem sc_stepped : FnScope n_stepped ["told", "now"] (defScope s_stepped) := ⟨rfl, rfl, rfl, by decide +kernel, rfl, by decide +kernel, by decide +kernel⟩

def sp_stepped (K : PySem.W.Frag) : Sp := fun vs H Q E => ∃ (r c : Nat) (t : Told) (m : List (Pic × Int)) (v : V) (d : Addr), vs = [v, .ref d] ∧ (r, c) ∈ boards ∧ Ft H v (toldD t) ∧ TOk r c t ∧ H d = some (.dT (gV V.int m)) ∧ (∀ x ∈ m, Shp r c x.1) ∧ (∀ x ∈ m, x.2.natAbs < 2 ^ 2000) ∧ (∀ p H', Same H H' → H p = none → H' p = some (.dT (gV V.int (stepM t m))) → Q (.ref p) H')
theorem ok_stepped {P : Program} {w : World} {K : PySem.W.Frag} {mg : Str → Option Value} {base : Heap} {f : Addr} {fd : FuncData} (F : Fun K "stepped" "stepped" s_stepped f fd) (Z : Bl mg) (C : Ct mg) (D_laid : Dn P w K mg base "laid" ["picture", "effect"] 2 (sp_laid K)) : FnOk P w K mg base CX0 3 f fd ["told", "now"] (sp_stepped K) := by
  refine F.ok (k := 2) sc_stepped (fun vs H Q E h => ?_) (fun cdv A outer s H vs Q E hr h => ?_)
  · obtain ⟨r, c, t, m, v, d, rfl, hb, ht, ok, hd, hm, hbig, q⟩ := h
    rfl
  · refine ⟨_, (pss_cons (ps_set (i := 2) sc_stepped.nd rfl (.inl rfl) pe_dnewT)
    (pss_cons (ps_lock (ps_for PassesOwn.never rfl (pi_itemsT (pv 1)) (pg_tup rfl (pgs_cons (pg_name (i := 3) sc_stepped.nd rfl (.inl rfl)) (pgs_cons (pg_name (i := 4) sc_stepped.nd rfl (.inl rfl)) pgs_nil)))
      (pss_one (ps_for PassesOwn.never rfl (pi_tup (pv 0)) (pg_tup rfl (pgs_cons (pg_name (i := 5) sc_stepped.nd rfl (.inl rfl)) (pgs_cons (pg_name (i := 6) sc_stepped.nd rfl (.inl rfl)) pgs_nil)))
        (pss_cons (ps_set (i := 7) sc_stepped.nd rfl (.inl rfl) (pe_fn D_laid hr (pa_cons (pv 3) (pa_cons (pv 5) pa_nil))))
        (pss_one (ps_dput (hu_of hr) (pv 2) (pv 7) (pe_op op_add (pe_dget2 (hu_of hr) (pv 2) (pv 7) pe_int ⟨rfl, rfl, rfl, rfl⟩) (pe_op op_mulW (pv 4) (pv 6))) rfl)))))))
    (pss_one (ps_ret (pv 2))))), ?_⟩
    clear hr Z C D_laid
    obtain ⟨r, c, t, m, v, d, rfl, hb, ht, ok, hd, hm, hbig, q⟩ := h
    ((try dsimp only); repeat infer_instance)
    intro F hF
    ((try dsimp only); repeat infer_instance)
    have hFd : d ≠ F := ne_of_none hd hF
    have eF : upd H F (.dT []) F = some (.dT (gV V.int [])) := upd_same
    have eD : upd H F (.dT []) d = some (.dT (gV V.int m)) := (upd_ne hFd).trans hd
    have S1 := same_upd (o := .dT []) hF
    generalize upd H F (.dT []) = H1 at *
    refine rd_lock eD True.intro fun od => ?_
    ((try dsimp only); repeat infer_instance)
    have wle : ∀ x ∈ t, x.2.natAbs < 2 ^ 5 := fun x hx => by
      have h1 := wt_mem ok.pos hx
      have h2 := ok.sum
      have h3 := ok.pos x hx
      omega
    refine ⟨d, od, _, rfl, upd_same, ?_⟩
    refine for_it walk_itemsT (fun i σ' H' => ∃ x y z w u, σ' = [some v, some (.ref d), some (.ref F), x, y, z, w, u] ∧ H' d = some (.frz od (.dT (gV V.int m))) ∧ (∀ b o, b ≠ d → H b = some o → H' b = some o) ∧ H' F = some (.dT (gV V.int (stepM t (m.take i))))) ⟨none, none, none, none, none, rfl, upd_same, fun b o nb e => by rw [upd_ne nb]; exact S1 _ _ e, by rw [upd_ne (Ne.symm hFd)]; exact eF⟩ (fun i σ' H' _ hP => by obtain ⟨_, _, _, _, _, _, e, _⟩ := hP; exact e) (fun i x σ' H' H9 hi hP hY => ?_) (fun σ' H' hP => ?_)
    · obtain ⟨x1, x2, x3, x4, x5, rfl, e1, e2, e3⟩ := hP
      obtain ⟨T, k, vv, b, hk, hbk, rfl, hT, rfl⟩ := hY
      obtain ⟨x, hx, rfl, rfl⟩ := gV_at hk
      have hmx := List.mem_of_getElem? hx
      have sT := same_upd (o := .tup [.ref b, .int x.2]) hT
      refine ⟨T, _, rfl, SqT.of upd_same, rfl, _, _, rfl, ?_⟩
      have e1 := sT _ _ e1
      have e2 : ∀ b' o, b' ≠ d → H b' = some o → upd H' T (.tup [.ref b, .int x.2]) b' = some o := fun b' o nb e => sT _ _ (e2 b' o nb e)
      have e3 := sT _ _ e3
      have hb0 : Dt (upd H' T (.tup [.ref b, .int x.2])) (.ref b) (encP x.1) := by
        have := dt_key (sT _ _ hbk)
        rwa [keyD_P] at this
      generalize upd H' T (.tup [.ref b, .int x.2]) = H2 at *
      ((try dsimp only); repeat infer_instance)
      refine ⟨_, _, rfl, ?_⟩
      ((try dsimp only); repeat infer_instance)
      have ht2 : Ft H2 v (toldD t) := by
        obtain ⟨a, xs, o, rfl, g1, g2, g3⟩ := ht
        have tk : Tk H H2 := fun b' ys e => e2 b' _ (fun z => by subst z; rw [hd] at e; cases e) e
        exact ⟨a, xs, o, rfl, e2 _ _ (fun z => by subst z; rw [hd] at g1; cases g1) g1, g2, g3.up tk⟩
      have M0 : MOk r c (stepM t (m.take i)) := MOk.stepM _ (fun y hy => hm y (List.mem_of_mem_take hy)) ⟨by simp, by simp⟩
      have kd : F ≠ d := Ne.symm hFd
      refine for_told ht2 (F := F) (fun i' σ2 H3 => ∃ z w u, σ2 = [some v, some (.ref d), some (.ref F), some (.ref b), some (.int x.2), z, w, u] ∧ (∀ b' o, b' ≠ F → H2 b' = some o → H3 b' = some o) ∧ H3 F = some (.dT (gV V.int (stepA (t.take i') x.1 x.2 (stepM t (m.take i)))))) e3 ⟨_, _, _, rfl, fun _ _ _ h => h, e3⟩ (fun i' σ2 H3 p => by obtain ⟨_, _, _, _, h, _⟩ := p; exact h) (fun i' d' u' σ2 H3 hd' hP hu => ?_) (fun σ2 H3 hP => ?_)
      · obtain ⟨y1, y2, y3, rfl, g1, g2⟩ := hP
        obtain ⟨y, hy, rfl⟩ := toldD_get hd'
        have hmy := List.mem_of_getElem? hy
        have hb3 : Dt H3 (.ref b) (encP x.1) := hb0.up fun b' ys e => g1 b' _ (fun z => by subst z; rw [e3] at e; cases e) e
        have M1 : MOk r c (stepA (t.take i') x.1 x.2 (stepM t (m.take i))) := MOk.stepA (hm x hmx) _ _ M0
        have few := M1.few hb
        rw [stepA_snoc hy]
        generalize stepA (t.take i') x.1 x.2 (stepM t (m.take i)) = f0 at *
        refine rd_gtup hu rfl fun us hus => ?_
        refine rd_gcons hus fun e re he hre => ?_
        ((try dsimp only); repeat infer_instance)
        refine rd_gcons hre fun wv rw2 hw hrw => ?_
        rw [hw.int_eq]
        ((try dsimp only); repeat infer_instance)
        refine rd_gnil' hrw ?_
        ((try dsimp only); repeat infer_instance)
        refine ⟨r, c, x.1, _, _, y.1, rfl, hb3, hm x hmx, he, ok.lns y hmy, fun v4 H4 s4 d4 => ?_⟩
        have g2' := s4 _ _ g2
        have hk4 : Dt H4 v4 (keyD (keyP (act x.1 y.1))) := by rw [keyD_P]; exact d4
        ((try dsimp only); repeat infer_instance)
        refine ⟨F, rfl, isD_T g2', ?_⟩
        ((try dsimp only); repeat infer_instance)
        have g := DGet.of g2' hk4
        rw [gV_look] at g
        refine ⟨_, g, ?_⟩
        have ev : ((gLook f0 (act x.1 y.1)).map V.int).getD (.int 0) = .int ((gLook f0 (act x.1 y.1)).getD 0) := by cases gLook f0 (act x.1 y.1) <;> rfl
        rw [ev]
        ((try dsimp only); repeat infer_instance)
        refine rd_I (wide_mul (a := 2000) (b := 5) (hbig x hmx) (wle y hmy) (by decide) (by decide) (by decide)) ?_
        ((try dsimp only); repeat infer_instance)
        refine ⟨F, _, rfl, DPut.of g2' hk4 (by rw [gV_len]; exact Nat.lt_of_le_of_lt few (by decide)), ?_⟩
        rw [gV_put]
        exact ⟨_, _, _, rfl, fun b' o nb e => by rw [upd_ne nb]; exact s4 _ _ (g1 b' o nb e), upd_same⟩
      · obtain ⟨y1, y2, y3, rfl, g1, g2⟩ := hP
        rw [toldD_len, List.take_length, ← stepM_snoc hx] at g2
        exact ⟨_, _, _, _, _, rfl, g1 _ _ (Ne.symm kd) e1, fun b' o nb e => g1 b' o (ne_of_none e hF) (e2 b' o nb e), g2⟩
    · obtain ⟨x1, x2, x3, x4, x5, rfl, e1, e2, e3⟩ := hP
      rw [gV_len, List.take_length] at e3
      refine ⟨e1, ?_⟩
      ((try dsimp only); repeat infer_instance)
      refine q F _ (fun b o e => ?_) hF (by rw [upd_ne (Ne.symm hFd)]; exact e3)
      by_cases z : b = d
      · subst z; rw [upd_same, ← hd]; exact e
      · rw [upd_ne z]; exact e2 b o z e

end Cz

set_option Elab.async false
set_option linter.all false
set_option maxRecDepth 100000
set_option maxHeartbeats 1000000
/-! what has come by k turns, in whole numbers -/
namespace Cz
open PySem L2
def tot (m : List (Pic × Int)) : Int := (m.map (·.2)).sum
theorem tot_cons (x : Pic × Int) (m : List (Pic × Int)) : tot (x :: m) = x.2 + tot m := by simp [tot]
theorem tot_app (a b : List (Pic × Int)) : tot (a ++ b) = tot a + tot b := by unfold tot; rw [List.map_append, List.sum_append]
theorem gLook_none {β : Type} {t : List (Pic × β)} {e : Pic} (h : e ∉ t.map (·.1)) : gLook t e = none := by
  unfold gLook
  rw [List.find?_eq_none.mpr fun x hx z => h (List.mem_map.mpr ⟨x, hx, of_decide_eq_true z⟩)]
  rfl
theorem tot_put {m : List (Pic × Int)} (hn : (m.map (·.1)).Nodup) {e : Pic} {w : Int} (h : e ∈ m.map (·.1)) : tot (m.map fun x => if x.1 = e then (x.1, w) else x) = tot m + w - (gLook m e).getD 0 := by
  induction m with
  | nil => simp at h
  | cons y t ih =>
    rw [List.map_cons, List.nodup_cons] at hn
    rw [List.map_cons, tot_cons, tot_cons]
    by_cases q : y.1 = e
    · have e1 : gLook (y :: t) e = some y.2 := by unfold gLook; rw [List.find?_cons, decide_eq_true q]; rfl
      have rest : (t.map fun x => if x.1 = e then (x.1, w) else x) = t := by
        have : ∀ x ∈ t, (if x.1 = e then (x.1, w) else x) = x := fun x hx => if_neg fun z => hn.1 (by rw [q, ← z]; exact List.mem_map.mpr ⟨x, hx, rfl⟩)
        rw [List.map_congr_left this, List.map_id']
      rw [rest, if_pos q, e1]
      simp
      omega
    · have e1 : gLook (y :: t) e = gLook t e := by unfold gLook; rw [List.find?_cons, decide_eq_false q]
      have h' : e ∈ t.map (·.1) := by
        rw [List.map_cons] at h
        rcases List.mem_cons.mp h with z | z
        · exact absurd z.symm q
        · exact z
      rw [if_neg q, ih hn.2 h', e1]
      omega
theorem tot_addM {r c : Nat} {m : List (Pic × Int)} (M : MOk r c m) (q : Pic) (v : Int) : tot (addM m q v) = tot m + v := by
  unfold addM gAdd
  by_cases h : q ∈ m.map (·.1)
  · rw [if_pos (by obtain ⟨x, hx, e⟩ := List.mem_map.mp h; exact List.any_eq_true.mpr ⟨x, hx, decide_eq_true e⟩), tot_put M.nd h]
    omega
  · rw [if_neg (by intro z; obtain ⟨x, hx, e⟩ := List.any_eq_true.mp z; exact h (List.mem_map.mpr ⟨x, hx, of_decide_eq_true e⟩)), tot_app, gLook_none h]
    simp [tot]
theorem tot_stepA {r c : Nat} {p : Pic} (hp : Shp r c p) (k : Int) : ∀ (t : Told) {f : List (Pic × Int)}, MOk r c f → tot (stepA t p k f) = tot f + k * Cs.wt t
  | [], f, _ => by show tot f = tot f + k * 0; omega
  | x :: t, f, h => by
    have h' : MOk r c (addM f (act p x.1) (k * x.2)) := h.add (hp.act _) _
    have := tot_stepA hp k t h'
    rw [tot_addM h] at this
    show tot (stepA t p k (addM f (act p x.1) (k * x.2))) = _
    rw [this, wt_cons, Int.mul_add]
    omega
theorem tot_stepM' {r c : Nat} {t : Told} : ∀ (m : List (Pic × Int)) {f : List (Pic × Int)}, (∀ x ∈ m, Shp r c x.1) → MOk r c f → tot (m.foldl (fun f x => stepA t x.1 x.2 f) f) = tot f + tot m * Cs.wt t
  | [], f, _, _ => by show tot f = tot f + 0 * _; omega
  | x :: m, f, hm, h => by
    have h' : MOk r c (stepA t x.1 x.2 f) := MOk.stepA (hm x (by simp)) x.2 t h
    have := tot_stepM' (t := t) m (fun y hy => hm y (by simp [hy])) h'
    rw [tot_stepA (hm x (by simp)) x.2 t h] at this
    rw [List.foldl_cons, this, tot_cons, Int.add_mul]
    omega
/-- all values at least 0 -/
def NN (m : List (Pic × Int)) : Prop := ∀ x ∈ m, 0 ≤ x.2
theorem NN.look {m : List (Pic × Int)} (h : NN m) (q : Pic) : 0 ≤ (gLook m q).getD 0 := by
  cases e : gLook m q with
  | none => simp
  | some w => have := h _ (gLook_some e); simpa using this
theorem NN.addM {m : List (Pic × Int)} (h : NN m) (q : Pic) {v : Int} (hv : 0 ≤ v) : NN (addM m q v) := by
  have hl := h.look q
  intro x hx
  unfold Cz.addM gAdd at hx
  split at hx
  · obtain ⟨y, hy, rfl⟩ := List.mem_map.mp hx
    split
    · show 0 ≤ (gLook m q).getD 0 + v; omega
    · exact h y hy
  · rcases List.mem_append.mp hx with z | z
    · exact h x z
    · simp at z; subst z; show 0 ≤ (gLook m q).getD 0 + v; omega
theorem NN.stepA {p : Pic} {k : Int} (hk : 0 ≤ k) : ∀ {t : Told} {f : List (Pic × Int)}, (∀ x ∈ t, 0 < x.2) → NN f → NN (stepA t p k f)
  | [], _, _, h => h
  | x :: t, f, ht, h => NN.stepA hk (t := t) (fun y hy => ht y (by simp [hy])) (h.addM _ (Int.mul_nonneg hk (Int.le_of_lt (ht x (by simp)))))
theorem NN.stepM {t : Told} (ht : ∀ x ∈ t, 0 < x.2) : ∀ {m f : List (Pic × Int)}, NN m → NN f → NN (m.foldl (fun f x => Cz.stepA t x.1 x.2 f) f)
  | [], _, _, h => h
  | x :: m, f, hm, h => NN.stepM ht (m := m) (fun y hy => hm y (by simp [hy])) (NN.stepA (hm x (by simp)) ht h)
theorem NN.le : ∀ {m : List (Pic × Int)}, NN m → ∀ x ∈ m, x.2 ≤ tot m
  | [], _, x, hx => by simp at hx
  | y :: m, h, x, hx => by
    have hy := h y (by simp)
    have hm : NN m := fun z hz => h z (by simp [hz])
    rw [tot_cons]
    have nn : 0 ≤ tot m := by
      cases m with
      | nil => simp [tot]
      | cons z l => have := NN.le hm z (by simp); have := hm z (by simp); omega
    rcases List.mem_cons.mp hx with rfl | q
    · omega
    · have := NN.le hm x q; omega
theorem NN.tot {m : List (Pic × Int)} (h : NN m) : 0 ≤ tot m := by
  cases m with
  | nil => simp [Cz.tot]
  | cons z l => have := h.le z (by simp); have := h z (by simp); omega
theorem NN.drop {m : List (Pic × Int)} (h : NN m) (g : Pic) : NN (gDrop m g) := fun x hx => h x (List.mem_filter.mp hx).1
theorem drop_none {m : List (Pic × Int)} {g : Pic} (h : gLook m g = none) : gDrop m g = m := by
  refine List.filter_eq_self.mpr fun x hx => ?_
  have : ¬ x.1 = g := fun e => by
    unfold gLook at h
    have h := Option.map_eq_none_iff.mp h
    have := List.find?_eq_none.mp h x hx
    simp [e] at this
  simp [this]
theorem tot_drop {m : List (Pic × Int)} (hn : (m.map (·.1)).Nodup) (g : Pic) : tot (gDrop m g) = tot m - (gLook m g).getD 0 := by
  induction m with
  | nil => simp [gDrop, tot, gLook]
  | cons y t ih =>
    rw [List.map_cons, List.nodup_cons] at hn
    by_cases q : y.1 = g
    · have e1 : gLook (y :: t) g = some y.2 := by unfold gLook; rw [List.find?_cons, decide_eq_true q]; rfl
      have e2 : gDrop (y :: t) g = t := by
        have h0 : gLook t g = none := gLook_none (by rw [← q]; exact hn.1)
        have := drop_none h0
        unfold gDrop at this ⊢
        rw [List.filter_cons, if_neg (by simp [q]), this]
      rw [e1, e2, tot_cons]
      simp
      omega
    · have e1 : gLook (y :: t) g = gLook t g := by unfold gLook; rw [List.find?_cons, decide_eq_false q]
      have e2 : gDrop (y :: t) g = y :: gDrop t g := by unfold gDrop; rw [List.filter_cons, if_pos (by simp [q])]
      rw [e1, e2, tot_cons, tot_cons, ih hn.2]
      omega
/-- done, now after k turns; the power is wt t ^ k -/
def cb (t : Told) (s g : Pic) : Nat → Int × List (Pic × Int)
  | 0 => (0, [(s, 1)])
  | k + 1 => (((cb t s g k).1 + (gLook (cb t s g k).2 g).getD 0) * Cs.wt t, stepM t (gDrop (cb t s g k).2 g))
def cbAll (t : Told) (s g : Pic) (k : Nat) : Int := (cb t s g k).1 + (gLook (cb t s g k).2 g).getD 0
structure CbOk (r c : Nat) (t : Told) (s g : Pic) (k : Nat) : Prop where
  m : MOk r c (cb t s g k).2
  nn : NN (cb t s g k).2
  d : 0 ≤ (cb t s g k).1
  tot : (cb t s g k).1 + Cz.tot (cb t s g k).2 = Cs.wt t ^ k
theorem cb_ok {r c : Nat} {t : Told} {s : Pic} (g : Pic) (hs : Shp r c s) (ht : ∀ x ∈ t, 0 < x.2) (hw : 0 ≤ Cs.wt t) : ∀ k, CbOk r c t s g k
  | 0 => ⟨⟨by simp [cb], fun x hx => by simp [cb] at hx; subst hx; exact hs⟩, fun x hx => by simp [cb] at hx; subst hx; simp, by simp [cb], by simp [cb, tot]⟩
  | k + 1 => by
    have ih := cb_ok g hs ht hw k
    have hl := ih.nn.look g
    have dm := ih.m.drop g
    refine ⟨MOk.stepM _ dm.shp ⟨by simp, by simp⟩, NN.stepM ht (ih.nn.drop g) (fun x hx => by simp at hx), Int.mul_nonneg (by have := ih.d; omega) hw, ?_⟩
    show ((cb t s g k).1 + (gLook (cb t s g k).2 g).getD 0) * Cs.wt t + tot (stepM t (gDrop (cb t s g k).2 g)) = _
    unfold stepM
    rw [tot_stepM' (r := r) (c := c) _ dm.shp ⟨by simp, by simp⟩, tot_drop ih.m.nd, Int.pow_succ, ← ih.tot]
    have : tot ([] : List (Pic × Int)) = 0 := by simp [tot]
    rw [this, ← Int.zero_add (tot (cb t s g k).2), Int.zero_add]
    generalize (gLook (cb t s g k).2 g).getD 0 = v
    generalize (cb t s g k).1 = d
    generalize tot (cb t s g k).2 = n
    rw [Int.zero_add, ← Int.add_mul]
    congr 1
    omega
theorem cb_le {r c : Nat} {t : Told} {s g : Pic} {k : Nat} (h : CbOk r c t s g k) : 0 ≤ cbAll t s g k ∧ cbAll t s g k ≤ Cs.wt t ^ k := by
  have hl := h.nn.look g
  have hd := h.d
  have ht := h.tot
  have : (gLook (cb t s g k).2 g).getD 0 ≤ tot (cb t s g k).2 := by
    cases e : gLook (cb t s g k).2 g with
    | none => have := h.nn.tot; simpa using this
    | some w => have := h.nn.le _ (gLook_some e); simpa using this
  unfold cbAll
  omega
theorem pow_small {W : Int} {k : Nat} (h0 : 0 ≤ W) (h16 : W ≤ 16) (hk : k ≤ 5) : W ^ k ≤ 2 ^ 20 := by
  have : W ∈ [0, 1, 2, 3, 4, 5, 6, 7, 8, 9, 10, 11, 12, 13, 14, 15, (16 : Int)] := by simp; omega
  have hk' : k ∈ [0, 1, 2, 3, 4, (5 : Nat)] := by simp; omega
  have all : ∀ w ∈ [0, 1, 2, 3, 4, 5, 6, 7, 8, 9, 10, 11, 12, 13, 14, 15, (16 : Int)], ∀ j ∈ [0, 1, 2, 3, 4, (5 : Nat)], w ^ j ≤ 2 ^ 20 := by decide
  exact all W this k hk'
end Cz

set_option Elab.async false
set_option linter.all false
set_option maxRecDepth 100000
set_option maxHeartbeats 4000000

namespace Cz
open PySem L2
local macro_rules | `(tactic| infer_instance) => `(tactic| with_reducible first
  | refine rd_seq ?_ | refine rd_cons ?_ | refine rd_nil ?_ | refine rd_c ?_ | refine rd_op ?_ | (refine rd_var (v := ?_) ?_ ?_; rotate_left 1; (with_unfolding_all rfl)) | refine rd_un ?_ | refine rd_call ?_ | refine rd_cb ?_ | refine rd_I0 ?_ | refine rd_test ?_ | refine rd_tB ?_ | refine rd_k ?_
  | refine rd_not ?_ | refine rd_and ?_ | refine rd_or ?_ | refine rd_andV ?_ | refine rd_orV ?_ | refine rd_notV ?_ | refine rd_ife ?_ | refine rd_chain ?_ | refine rd_tup ?_ | refine rd_lst ?_ | refine rd_bm0 ?_ | refine rd_bm ?_ | refine rd_sl ?_ | refine rd_nopart ?_ | refine rd_part ?_ | refine rd_i ?_
  | refine rd_next ?_ | refine rd_cont ?_ | refine rd_drop ?_ | refine rd_ret ?_ | refine rd_retN ?_ | refine rd_if ?_ | refine rd_asg ?_ | refine rd_gname ?_ | refine rd_par ?_ | refine rd_par3 ?_ | refine rd_v2 ?_ | refine rd_v3 ?_ | refine rd_gnil ?_ | refine rd_for ?_ | refine rd_lc ?_ | refine rd_yes ?_ | refine rd_iT ?_ | refine rd_iL ?_ | refine rd_iR1 ?_ | refine rd_iR2 ?_ | refine rd_iS ?_ | refine rd_dput ?_ | refine rd_din ?_ | refine rd_dnin ?_ | refine rd_dget ?_ | refine rd_dget2 ?_ | refine rd_dnewK ?_ | refine rd_dnewT ?_ | refine rd_augS ?_ | refine rd_gsub ?_ | refine rd_body ?_ | refine rd_valsT ?_ | refine rd_itemsT ?_ | refine rd_frz ?_ | refine rd_keys ?_ | refine rd_rev ?_ | (refine rd_ifT ?_ ?_; (with_unfolding_all rfl)) | (refine rd_ifF ?_ ?_; (with_unfolding_all rfl)))

abbrev s_come_by : Stmt := topS 48
abbrev n_come_by : List Str := ["rows", "columns", "told", "start", "goal", "many", "now", "whole", "done", "power", "turn"]
theorem sc_come_by : FnScope n_come_by ["rows", "columns", "told", "start", "goal", "many"] (defScope s_come_by) := ⟨rfl, rfl, rfl, by decide +kernel, rfl, by decide +kernel, by decide +kernel⟩

def sp_come_by (K : PySem.W.Frag) : Sp := fun vs H Q E => ∃ (r c : Nat) (t : Told) (s g : Pic) (v vs0 vg : V) (k : Nat), vs = [.int r, .int c, v, vs0, vg, .int k] ∧ (r, c) ∈ boards ∧ Ft H v (toldD t) ∧ TOk r c t ∧ Dt H vs0 (encP s) ∧ Shp r c s ∧ Dt H vg (encP g) ∧ Shp r c g ∧ k ≤ 5 ∧ retD H (frD (((cbAll t s g k : Int) : Rat) / ((Cs.wt t ^ k : Int) : Rat))) Q
theorem ok_come_by {P : Program} {w : World} {K : PySem.W.Frag} {mg : Str → Option Value} {base : Heap} {f : Addr} {fd : FuncData} (F : Fun K "come_by" "come_by" s_come_by f fd) (Z : Bl mg) (C : Ct mg) (D_lowered : Dn P w K mg base "lowered" ["above", "low"] 2 (sp_lowered K)) (D_need_chain : Dn P w K mg base "need_chain" ["rows", "columns", "told"] 7 (sp_need_chain K)) (D_need_number : Dn P w K mg base "need_number" ["value", "least", "most"] 3 (sp_need_number K)) (D_need_picture : Dn P w K mg base "need_picture" ["rows", "columns", "value"] 2 (sp_need_picture K)) (D_stepped : Dn P w K mg base "stepped" ["told", "now"] 3 (sp_stepped K)) (D_weight_of : Dn P w K mg base "weight_of" ["told"] 1 (sp_weight_of K)) : FnOk P w K mg base CX0 8 f fd ["rows", "columns", "told", "start", "goal", "many"] (sp_come_by K) := by
  refine F.ok (k := 7) sc_come_by (fun vs H Q E h => ?_) (fun cdv A outer s H vs Q E hr h => ?_)
  · obtain ⟨r, c, t, s, g, v, vs0, vg, k, rfl, hb, ht, ok, hs, hp, hg, hpg, hk, q⟩ := h
    rfl
  · refine ⟨_, (pss_cons (ps_expr (pe_fn D_need_chain hr (pa_cons (pv 0) (pa_cons (pv 1) (pa_cons (pv 2) pa_nil)))))
    (pss_cons (ps_expr (pe_fn D_need_picture hr (pa_cons (pv 0) (pa_cons (pv 1) (pa_cons (pv 3) pa_nil)))))
    (pss_cons (ps_expr (pe_fn D_need_picture hr (pa_cons (pv 0) (pa_cons (pv 1) (pa_cons (pv 4) pa_nil)))))
    (pss_cons (ps_expr (pe_fn D_need_number hr (pa_cons (pv 5) (pa_cons pe_int (pa_cons (pe_k C.power) pa_nil)))))
    (pss_cons (ps_par3 (i := 6) (j := 7) (l := 8) rfl sc_come_by.nd rfl rfl rfl (by decide) (by decide) (by decide) rfl rfl rfl (pa_cons (pe_disp1 (hu_of hr) (pv 3) pe_int) (pa_cons (pe_fn D_weight_of hr (pa_cons (pv 2) pa_nil)) (pa_cons pe_int pa_nil))) (by rfl))
    (pss_cons (ps_set (i := 9) sc_come_by.nd rfl (.inl rfl) pe_int)
    (pss_cons (ps_for PassesOwn.never rfl (pi_range1 (by rfl) Z.range (pa_cons (pv 5) pa_nil)) (pg_name (i := 10) sc_come_by.nd rfl (.inl rfl))
      (pss_cons (ps_set (i := 8) sc_come_by.nd rfl (.inl rfl) (pe_op op_mulW (pe_op op_add (pv 8) (pe_bm PySem.F.plainAttrs_dict PySem.F.slot_dict_pop PySem.F.type_dict_pop (DX.mt_popT (hu_of hr)) (pv 6) (pa_cons (pv 4) (pa_cons pe_int pa_nil)))) (pv 7)))
      (pss_cons (ps_set (i := 6) sc_come_by.nd rfl (.inl rfl) (pe_fn D_stepped hr (pa_cons (pv 2) (pa_cons (pv 6) pa_nil))))
      (pss_one (ps_set (i := 9) sc_come_by.nd rfl (.inl rfl) (pe_op op_mulW (pv 9) (pv 7)))))))
    (pss_one (ps_ret (pe_fn D_lowered hr (pa_cons (pe_op op_add (pv 8) (pe_dget2 (hu_of hr) (pv 6) (pv 4) pe_int ⟨rfl, rfl, rfl, rfl⟩)) (pa_cons (pv 9) pa_nil)))))))))))), ?_⟩
    clear hr Z C D_lowered D_need_chain D_need_number D_need_picture D_stepped D_weight_of
    obtain ⟨r, c, t, s, g, v, vs0, vg, k, rfl, hb, ht, ok, hs, hp, hg, hpg, hk, q⟩ := h
    obtain ⟨b1, b2, b3, b4, b5⟩ := board_le hb
    have W0 : 0 < Cs.wt t := by
      obtain ⟨x, hx⟩ := List.exists_mem_of_ne_nil t ok.ne
      have := wt_mem ok.pos hx
      have := ok.pos x hx
      omega
    have W16 := ok.sum
    have big : ∀ z : Int, 0 ≤ z → z ≤ 2 ^ 20 → z.natAbs < 2 ^ 21 := fun z h1 h2 => by omega
    ((try dsimp only); repeat infer_instance)
    refine ⟨r, c, t, v, rfl, b1, by omega, b3, by omega, b5, ht, ok, fun H1 s1 => ?_⟩
    ((try dsimp only); repeat infer_instance)
    refine ⟨r, c, s, vs0, rfl, hs.ups s1, hp, fun H2 s2 => ?_⟩
    ((try dsimp only); repeat infer_instance)
    refine ⟨r, c, g, vg, rfl, (hg.ups s1).ups s2, hpg, fun H3 s3 => ?_⟩
    have s13 := (s1.trans s2).trans s3
    ((try dsimp only); repeat infer_instance)
    refine ⟨_, _, _, rfl, by omega, by omega, ?_⟩
    ((try dsimp only); repeat infer_instance)
    refine rd_disp1 fun F hF => ?_
    obtain ⟨bs, rfl, hbs⟩ := dt_key_inv (H := H) (v := vs0) (k := keyP s) (by rw [keyD_P]; exact hs)
    have hbs := s13 _ _ hbs
    ((try dsimp only); repeat infer_instance)
    refine ⟨upd_same, keyP s, bs, rfl, same_upd hF _ _ hbs, ?_⟩
    ((try dsimp only); repeat infer_instance)
    have eF : upd (upd H3 F (.dT [])) F (.dT [(keyP s, .int 1)]) F = some (.dT (gV V.int (cb t s g 0).2)) := upd_same
    have hF0 := none_of s13 hF
    have S4 : Same H (upd (upd H3 F (.dT [])) F (.dT [(keyP s, .int 1)])) := upd_keep (upd_keep s13 hF0) hF0
    generalize upd (upd H3 F (.dT [])) F (.dT [(keyP s, .int 1)]) = H4 at *
    clear hF hbs
    refine ⟨t, v, rfl, ht.ups S4, by have := ok.few; omega, fun H5 s5 => ?_⟩
    ((try dsimp only); repeat infer_instance)
    have S5 := S4.trans s5
    have eF := s5 _ _ eF
    clear S4 s5
    refine ⟨(k : Int), rfl, by omega, by omega, ?_⟩
    rw [show ((k : Int)).toNat = k by omega]
    refine forR (fun i σ' H' => ∃ F x, σ' = [some (.int r), some (.int c), some v, some (.ref bs), some vg, some (.int k), some (.ref F), some (.int (Cs.wt t)), some (.int (cb t s g i).1), some (.int (Cs.wt t ^ i)), x] ∧ Same H H' ∧ H F = none ∧ H' F = some (.dT (gV V.int (cb t s g i).2))) ⟨F, none, by simp [cb]; rfl, S5, hF0, eF⟩ (fun i σ' H' hi hP => ?_) (fun σ' H' hP => ?_)
    · obtain ⟨F, x, rfl, s6, hF0, e6⟩ := hP
      have O := cb_ok g hp ok.pos (Int.le_of_lt W0) i
      have O1 := cb_ok g hp ok.pos (Int.le_of_lt W0) (i + 1)
      have Pi := pow_small (Int.le_of_lt W0) W16 (k := i) (by omega)
      have le := cb_le O
      have all := Int.le_trans le.2 Pi
      ((try dsimp only); repeat infer_instance)
      refine ⟨.inr (.inr (.inl ⟨rfl, .inr ⟨_, e6⟩⟩)), ?_⟩
      ((try dsimp only); repeat infer_instance)
      obtain ⟨bg, rfl, hbg⟩ := dt_key_inv (H := H') (v := vg) (k := keyP g) (by rw [keyD_P]; exact hg.ups s6)
      have popd : ∀ (R : V → Hp → Prop), (∀ H7, Same H H7 → H7 F = some (.dT (gV V.int (gDrop (cb t s g i).2 g))) → R (.int ((gLook (cb t s g i).2 g).getD 0)) H7) → DX.rPopT (.ref F) [.ref bg, .int 0] H' R := fun R hR => by
        refine ⟨F, _, keyP g, bg, .int 0, rfl, rfl, e6, hbg, fun w hw => ?_, fun hw => ?_⟩
        · rw [gV_look] at hw
          cases hl : gLook (cb t s g i).2 g with
          | none => rw [hl] at hw; cases hw
          | some z =>
            rw [hl] at hw
            cases hw
            rw [gV_drop]
            have := hR (upd H' F (.dT (gV V.int (gDrop (cb t s g i).2 g)))) (upd_keep s6 hF0) upd_same
            rw [hl] at this
            exact this
        · rw [gV_look] at hw
          cases hl : gLook (cb t s g i).2 g with
          | some z => rw [hl] at hw; cases hw
          | none =>
            have := hR H' s6 (by rw [drop_none hl]; exact e6)
            rw [hl] at this
            exact this
      refine popd _ fun H7 s7 e7 => ?_
      ((try dsimp only); repeat infer_instance)
      refine rd_I (wide_mul (big _ le.1 all) (big (Cs.wt t) (by omega) (by omega)) (by decide) (by decide) (by decide)) ?_
      ((try dsimp only); repeat infer_instance)
      refine ⟨r, c, t, gDrop (cb t s g i).2 g, v, F, rfl, hb, ht.ups s7, ok, e7, (O.m.drop g).shp, fun x hx => ?_, fun F2 H8 s8 n8 e8 => ?_⟩
      · have h1 := O.nn.drop g x hx
        have h2 := (O.nn).le x (List.mem_filter.mp hx).1
        have h3 := O.tot
        have h4 := O.d
        exact Nat.lt_of_lt_of_le (big _ h1 (by omega)) (Nat.pow_le_pow_right (by decide) (by decide))
      ((try dsimp only); repeat infer_instance)
      refine rd_I (wide_mul (big (Cs.wt t ^ i) (by have := O.tot; have := O.d; have := O.nn.tot; omega) Pi) (big (Cs.wt t) (by omega) (by omega)) (by decide) (by decide) (by decide)) ?_
      ((try dsimp only); repeat infer_instance)
      rw [Int.pow_succ]
      exact ⟨F2, _, rfl, s7.trans s8, none_of s7 n8, e8⟩
    · obtain ⟨F, x, rfl, s6, hF0, e6⟩ := hP
      have O := cb_ok g hp ok.pos (Int.le_of_lt W0) k
      have Pk := pow_small (Int.le_of_lt W0) W16 hk
      have le := cb_le O
      have all := Int.le_trans le.2 Pk
      have P0 : 0 < Cs.wt t ^ k := Int.pow_pos W0
      ((try dsimp only); repeat infer_instance)
      refine ⟨F, rfl, isD_T e6, ?_⟩
      ((try dsimp only); repeat infer_instance)
      have gt := DGet.of (k := keyP g) e6 (by rw [keyD_P]; exact hg.ups s6)
      rw [gV_look] at gt
      refine ⟨_, gt, ?_⟩
      have ev : ((gLook (cb t s g k).2 g).map V.int).getD (.int 0) = .int ((gLook (cb t s g k).2 g).getD 0) := by cases gLook (cb t s g k).2 g <;> rfl
      rw [ev]
      ((try dsimp only); repeat infer_instance)
      have b1 : ∀ z : Int, 0 ≤ z → z ≤ 2 ^ 20 → z.natAbs < 2 ^ 4400 := fun z h1 h2 => Nat.lt_of_lt_of_le (big z h1 h2) (Nat.pow_le_pow_right (by decide) (by decide))
      exact ⟨_, _, rfl, P0, b1 _ le.1 all, b1 _ (Int.le_of_lt P0) Pk, fun v9 H9 s9 d9 => q _ _ (s6.trans s9) d9⟩

abbrev s__law_alike : Stmt := topS 52
abbrev n__law_alike : List Str := ["_law_found", "_law_due", "_law_k"]
theorem sc__law_alike : FnScope n__law_alike ["_law_found", "_law_due"] (defScope s__law_alike) := ⟨rfl, rfl, rfl, by decide +kernel, rfl, by decide +kernel, by decide +kernel⟩
def sp__law_alike (deep : Bool) (K : PySem.W.Frag) : Sp := fun vs H Q E => (∃ b : Bool, vs = [.bl b, .bl b] ∧ retB H true Q) ∨ (∃ i : Int, vs = [.int i, .int i] ∧ retB H true Q) ∨ (∃ (x : Rat) (u v : V), vs = [u, v] ∧ deep = true ∧ Dt H u (frD x) ∧ Dt H v (frD x) ∧ retB H true Q)
theorem ok__law_alike {P : Program} {w : World} {K : PySem.W.Frag} {mg : Str → Option Value} {base : Heap} {f : Addr} {fd : FuncData} (F : Fun K "_law_alike" "_law_alike" s__law_alike f fd) (Z : Bl mg) (C : Ct mg) (deep : Bool) (k : Nat) (spD : Sp) (hD : deep = true → ∀ (i : Int) H Q E, retB H true Q → spD [.int i, .int i] H Q E) (D_law_alike : Dn P w K mg base "_law_alike" ["_law_found", "_law_due"] k spD) : FnOk P w K mg base CX0 (k + 1) f fd ["_law_found", "_law_due"] (sp__law_alike deep K) := by
  refine F.ok (k := k) sc__law_alike (fun vs H Q E h => ?_) (fun cdv A outer s H vs Q E hr h => ?_)
  · rcases h with ⟨_, rfl, _⟩ | ⟨_, rfl, _⟩ | ⟨_, _, _, rfl, _⟩ <;> rfl
  · refine ⟨_, (pss_cons (ps_if (pt_val (pe_callB call_isiT (by rfl) Z.isi bt_isinstance (pa_cons (pv 1) (pa_cons (pe_tup (pa_cons (pe_ty Z.tup bt_tuple) (pa_cons (pe_ty Z.lst bt_list) pa_nil))) pa_nil))))
      (pss_cons (ps_if (PW.pt (pw_or (pt_not (pt_val (pe_callB call_isiT (by rfl) Z.isi bt_isinstance (pa_cons (pv 0) (pa_cons (pe_tup (pa_cons (pe_ty Z.tup bt_tuple) (pa_cons (pe_ty Z.lst bt_list) pa_nil))) pa_nil))))) (pw_or1 (pt_cmpR op_ne (pe_callB (kIsi (K := K) rfl) (by rfl) Z.isi bt_isinstance (pa_cons (pv 0) (pa_cons (pe_ty Z.lst bt_list) pa_nil))) (pe_callB (kIsi (K := K) rfl) (by rfl) Z.isi bt_isinstance (pa_cons (pv 1) (pa_cons (pe_ty Z.lst bt_list) pa_nil))) (nomark _)))))
        (pss_one (ps_ret pe_bl))
        pss_nil)
      (pss_cons (ps_if (pt_cmpR op_ne (pe_callB call_len (by rfl) Z.len bt_len (pa_cons (pv 0) pa_nil)) (pe_callB call_len (by rfl) Z.len bt_len (pa_cons (pv 1) pa_nil)) (nomark _))
        (pss_one (ps_ret pe_bl))
        pss_nil)
      (pss_one (ps_ret (pe_cmpR (kEqD (K := K) rfl hr.units) (pe_lc (own := [("_law_k", 2)]) rfl sc__law_alike.nd (pi_range1 (by rfl) Z.range (pa_cons (pe_callB call_len (by rfl) Z.len bt_len (pa_cons (pv 1) pa_nil)) pa_nil)) (blkOk_by (N := n__law_alike) (sc := (defScope s__law_alike)) (by decide +kernel)) (fun _ _ _ _ _ => (pg_name (i := 2) sc__law_alike.nd rfl (.inl rfl) (.inr rfl))) (fun _ _ _ _ _ => (pts_one (pt_not (pt_val (pe_fn D_law_alike hr (pa_cons (pe_ix (kIx (K := K) rfl) (pv 0) (pv 2) (fun _ _ => rfl)) (pa_cons (pe_ix (kIx (K := K) rfl) (pv 1) (pv 2) (fun _ _ => rfl)) pa_nil)) (Nat.le_refl _)))))) (fun _ _ _ _ _ => (pv 2))) (pe_lst pa_nil) (nomark _))))))
      pss_nil)
    (pss_cons (ps_if (PW.pt (pw_or (pt_cmpR op_isN (pv 1) pe_non (nomark _)) (pw_or1 (pt_val (pe_callB (kIsi (K := K) rfl) (by rfl) Z.isi bt_isinstance (pa_cons (pv 1) (pa_cons (pe_ty Z.str bt_str) pa_nil)))))))
      (pss_one (ps_ret (pe_and (pe_cmpR (kEqD (K := K) rfl hr.units) (pv 0) (pv 1) (nomark _)) (pe_one (pe_cmpR op_eq (pe_callB (kIsi (K := K) rfl) (by rfl) Z.isi bt_isinstance (pa_cons (pv 0) (pa_cons (pe_ty Z.str bt_str) pa_nil))) (pe_callB (kIsi (K := K) rfl) (by rfl) Z.isi bt_isinstance (pa_cons (pv 1) (pa_cons (pe_ty Z.str bt_str) pa_nil))) (nomark _))))))
      pss_nil)
    (pss_one (ps_ret (pe_and (pe_callB (kIsi (K := K) rfl) (by rfl) Z.isi bt_isinstance (pa_cons (pv 0) (pa_cons (pe_ty Z.int bt_int) pa_nil))) (pe_and (pe_cmpR op_eq (pe_callB (kIsi (K := K) rfl) (by rfl) Z.isi bt_isinstance (pa_cons (pv 0) (pa_cons (pe_ty Z.bool bt_bool) pa_nil))) (pe_callB (kIsi (K := K) rfl) (by rfl) Z.isi bt_isinstance (pa_cons (pv 1) (pa_cons (pe_ty Z.bool bt_bool) pa_nil))) (nomark _)) (pe_one (pe_cmpR (kEqD (K := K) rfl hr.units) (pv 0) (pv 1) (nomark _))))))))), ?_⟩
    clear hr Z C D_law_alike
    rcases h with ⟨b, rfl, q⟩ | ⟨i, rfl, q⟩ | ⟨x, u, v, rfl, hdeep, hu, hv, q⟩
    · ((try dsimp only); repeat infer_instance)
      refine ⟨by show 2 ≤ _; decide, fun p hp => ?_⟩
      ((try dsimp only); repeat infer_instance)
      refine ⟨_, p, _, _, _, false, rfl, upd_same, .cons (.ty "tuple") (.cons (.ty "list") .nil), ty_bl b, kitAny_cons (kit_ty k_bt) (fun _ => kitAny_cons (kit_ty k_bl) (fun _ => kitAny_nil) (fun z => nomatch z)) (fun z => nomatch z), ?_⟩
      ((try dsimp only); repeat infer_instance)
      refine ⟨rfl, ?_⟩
      ((try dsimp only); repeat infer_instance)
      refine rd_isi (ty_bl b) k_bs ?_
      ((try dsimp only); repeat infer_instance)
      refine rd_isi (ty_bl b) k_bi ?_
      ((try dsimp only); repeat infer_instance)
      refine rd_isi (ty_bl b) k_bb ?_
      ((try dsimp only); repeat infer_instance)
      refine rd_isi (ty_bl b) k_bb ?_
      refine rd_eq rfl ?_
      ((try dsimp only); repeat infer_instance)
      refine ⟨.bool b, .bool b, .bl b, .bl b, by cases b <;> decide, by cases b <;> decide, ?_⟩
      have e : PyData.eqv (.bool b) (.bool b) = true := by cases b <;> decide
      rw [e]
      exact q _ (same_upd hp)
    · ((try dsimp only); repeat infer_instance)
      refine ⟨by show 2 ≤ _; decide, fun p hp => ?_⟩
      ((try dsimp only); repeat infer_instance)
      refine ⟨_, p, _, _, _, false, rfl, upd_same, .cons (.ty "tuple") (.cons (.ty "list") .nil), ty_int i, kitAny_cons (kit_ty k_it) (fun _ => kitAny_cons (kit_ty k_il) (fun _ => kitAny_nil) (fun z => nomatch z)) (fun z => nomatch z), ?_⟩
      ((try dsimp only); repeat infer_instance)
      refine ⟨rfl, ?_⟩
      ((try dsimp only); repeat infer_instance)
      refine rd_isi (ty_int i) k_is ?_
      ((try dsimp only); repeat infer_instance)
      refine rd_isi (ty_int i) k_ii ?_
      ((try dsimp only); repeat infer_instance)
      refine rd_isi (ty_int i) k_ib ?_
      ((try dsimp only); repeat infer_instance)
      refine rd_isi (ty_int i) k_ib ?_
      refine rd_eq rfl ?_
      ((try dsimp only); repeat infer_instance)
      refine rd_eqD (.int i) (.int i) rfl rfl ?_
      have e : PyData.eqv (.int i) (.int i) = true := (eqv_iff _ _ rfl rfl).mpr rfl
      rw [e]
      exact q _ (same_upd hp)
    · ((try dsimp only); repeat infer_instance)
      refine ⟨by show 2 ≤ _; decide, fun p hp => ?_⟩
      ((try dsimp only); repeat infer_instance)
      have s1 := same_upd (o := .tup [.ty "tuple", .ty "list"]) hp
      refine ⟨_, p, _, _, _, true, rfl, upd_same, .cons (.ty "tuple") (.cons (.ty "list") .nil), ty_tup (hv.ups s1), kitAny_cons (kit_ty k_tt) (fun z => nomatch z) (fun _ => rfl), ?_⟩
      generalize upd H p (.tup [.ty "tuple", .ty "list"]) = H1 at *
      ((try dsimp only); repeat infer_instance)
      refine ⟨by show 2 ≤ _; decide, fun p2 hp2 => ?_⟩
      ((try dsimp only); repeat infer_instance)
      have s2 := s1.trans (same_upd (o := .tup [.ty "tuple", .ty "list"]) hp2)
      refine ⟨_, p2, _, _, _, true, rfl, upd_same, .cons (.ty "tuple") (.cons (.ty "list") .nil), ty_tup (hu.ups s2), kitAny_cons (kit_ty k_tt) (fun z => nomatch z) (fun _ => rfl), ?_⟩
      generalize upd H1 p2 (.tup [.ty "tuple", .ty "list"]) = H2 at *
      have hu2 := hu.ups s2
      have hv2 := hv.ups s2
      ((try dsimp only); repeat infer_instance)
      refine rd_isi (ty_tup hu2) k_tl ?_
      ((try dsimp only); repeat infer_instance)
      refine rd_isi (ty_tup hv2) k_tl ?_
      refine rd_ne rfl ?_
      ((try dsimp only); repeat infer_instance)
      have len2 : ∀ {K' : PySem.W.Frag} {w : V} {R : Nat → Prop}, Dt H2 w (frD x) → R 2 → ∃ y n, [w] = [y] ∧ LenV K' y H2 n ∧ R n := fun {K' w R} hw hr => by
        obtain ⟨a, xs, rfl, g1, g2⟩ := hw.tup_at
        exact ⟨_, 2, rfl, .inr ⟨xs, SqT.of g1, g2.len.symm⟩, hr⟩
      refine len2 hu2 ?_
      ((try dsimp only); repeat infer_instance)
      refine len2 hv2 ?_
      refine rd_ne rfl ?_
      ((try dsimp only); repeat infer_instance)
      refine len2 hv2 ?_
      ((try dsimp only); repeat infer_instance)
      refine ⟨_, rfl, by omega, by omega, ?_⟩
      refine lcR (fun _ => none) (fun i H3 hi s3 R Y hR hY => ?_) (by omega) (fun Dd H3 hn s3 hL => ?_)
      · have hi2 : i = 0 ∨ i = 1 := by omega
        have it : ∀ {K' : PySem.W.Frag} {w : V} {H4 : Hp} {R : VK}, Dt H4 w (frD x) → R (.int (if i = 0 then x.num else (x.den : Int))) H4 → rIx K' w (.int ((0 : Int) + (i : Nat))) H4 R := fun {K' w H4 R} hw hr => by
          refine .inr (.inl ?_)
          rw [Int.zero_add]
          rcases hi2 with rfl | rfl
          · exact rd_ixTI (j := 0) hw rfl hr
          · exact rd_ixTI (j := 1) hw rfl hr
        ((try dsimp only); repeat infer_instance)
        refine ⟨rfl, ?_⟩
        ((try dsimp only); repeat infer_instance)
        refine it (hu2.ups s3) ?_
        ((try dsimp only); repeat infer_instance)
        refine it (hv2.ups s3) ?_
        ((try dsimp only); repeat infer_instance)
        refine hD hdeep _ _ _ _ fun H4 s4 => ?_
        ((try dsimp only); repeat infer_instance)
        exact hR rfl _ s4
      · obtain ⟨D', xs, e, g1, g2⟩ := hL
        cases e
        have e0 : (List.range ((2 : Nat) : Int).toNat).filterMap (fun _ => (none : Option PyData)) = [] := by rfl
        rw [e0] at g2
        cases g2
        ((try dsimp only); repeat infer_instance)
        refine ⟨by show 0 ≤ _; decide, fun p3 hp3 => ?_⟩
        refine ⟨.list [], .list [], .lst (SqL.of (same_upd hp3 _ _ g1)) .nil, .lst (SqL.of upd_same) .nil, by decide, by decide, ?_⟩
        exact q _ ((s2.trans s3).trans (same_upd hp3))

end Cz

set_option Elab.async false
set_option linter.all false
set_option maxRecDepth 100000
set_option maxHeartbeats 1000000
/-! rows of fractions -/
namespace Cz
open PySem L2
def rowD (m : Nat) (f : Nat → Rat) : List PyData := (List.range m).map fun j => frD (f j)
theorem rowD_len (m : Nat) (f : Nat → Rat) : (rowD m f).length = m := by unfold rowD; simp
theorem rowD_at {m j : Nat} (f : Nat → Rat) (h : j < m) : (rowD m f)[j]? = some (frD (f j)) := by unfold rowD; rw [List.getElem?_map, List.getElem?_range h]; rfl
theorem rowD_got {m j : Nat} {f : Nat → Rat} {d : PyData} (h : (rowD m f)[j]? = some d) : j < m ∧ d = frD (f j) := by
  have hj := (List.getElem?_eq_some_iff.mp h).1
  rw [rowD_len] at hj
  rw [rowD_at f hj] at h
  exact ⟨hj, (Option.some.inj h).symm⟩
theorem rowD_congr {m : Nat} {f g : Nat → Rat} (h : ∀ j, j < m → f j = g j) : rowD m f = rowD m g := List.map_congr_left fun j hj => by rw [h j (List.mem_range.mp hj)]
def MR (H : Hp) (A : Addr) (n m : Nat) (M : Cs.Mat) : Prop := ∃ bs : List Addr, H A = some (.lst (bs.map V.ref)) ∧ bs.length = n ∧ ∀ i b, bs[i]? = some b → b ≠ A ∧ Ls H (.ref b) (rowD m (M i))
section
variable {K : PySem.W.Frag} {H H' : Hp} {A : Addr} {n m : Nat} {M M' : Cs.Mat} {Q : VK}
theorem MR.same (h : MR H A n m M) (s : Same H H') : MR H' A n m M := by
  obtain ⟨bs, h1, h2, h3⟩ := h
  exact ⟨bs, s _ _ h1, h2, fun i b e => ⟨(h3 i b e).1, (h3 i b e).2.ups s⟩⟩
theorem MR.congr (h : MR H A n m M) (e : ∀ i, i < n → ∀ j, j < m → M i j = M' i j) : MR H A n m M' := by
  obtain ⟨bs, h1, h2, h3⟩ := h
  refine ⟨bs, h1, h2, fun i b hb => ⟨(h3 i b hb).1, ?_⟩⟩
  have hi := (List.getElem?_eq_some_iff.mp hb).1
  rw [← rowD_congr (e i (by omega))]
  exact (h3 i b hb).2
theorem MR.row (h : MR H A n m M) {i : Nat} (hi : i < n) (q : ∀ b, b ≠ A → Ls H (.ref b) (rowD m (M i)) → Q (.ref b) H) : rIxL K (.ref A) (.int i) H Q := by
  obtain ⟨bs, h1, h2, h3⟩ := h
  have e : bs[i]? = some bs[i] := List.getElem?_eq_getElem (by omega)
  obtain ⟨g1, g2⟩ := h3 i _ e
  exact rd_ixLa h1 (by rw [List.getElem?_map, e]; rfl) (q _ g1 g2)
theorem rd_cellR {b : V} {f : Nat → Rat} {j : Nat} (h : Ls H b (rowD m f)) (hj : j < m) (q : ∀ u, Dt H u (frD (f j)) → Q u H) : rIxL K b (.int j) H Q := rd_ixL h (rowD_at f hj) q
theorem Ls.tk {v : V} {ds : List PyData} (h : Ls H v ds) {A : Addr} {xs ys : List V} (hA : H A = some (.lst xs)) (hv : v ≠ .ref A) : Ls (upd H A (.lst ys)) v ds := by
  obtain ⟨a, zs, rfl, h1, h2⟩ := h
  have : a ≠ A := fun z => hv (by rw [z])
  exact ⟨a, zs, rfl, (upd_ne this).trans h1, h2.up (.lst hA)⟩
theorem MR.put (h : MR H A n m M) {i : Nat} (hi : i < n) {q : Addr} (hq : q ≠ A) {f : Nat → Rat} (hf : Ls H (.ref q) (rowD m f)) {R : Hp → Prop}
    (r : ∀ H', (∀ b o, b ≠ A → H b = some o → H' b = some o) → Tk H H' → MR H' A n m (fun k => if k = i then f else M k) → R H') : rSetL (.ref A) (.int i) (.ref q) H R := by
  obtain ⟨bs, h1, h2, h3⟩ := h
  refine rd_set0 (j := i) h1 (by rw [List.length_map]; omega) (r _ (fun b o nb e => by rw [upd_ne nb]; exact e) (.lst h1) ⟨bs.set i q, by rw [List.map_set]; exact upd_same, by rw [List.length_set, h2], fun k b e => ?_⟩)
  rw [List.getElem?_set] at e
  by_cases hk : i = k
  · subst hk
    rw [if_pos rfl, if_pos (by omega)] at e
    cases e
    show q ≠ A ∧ Ls _ (.ref q) (rowD m (if i = i then f else M i))
    rw [if_pos rfl]
    exact ⟨hq, hf.tk h1 (by simpa using hq)⟩
  · rw [if_neg hk] at e
    show b ≠ A ∧ Ls _ (.ref b) (rowD m (if k = i then f else M k))
    rw [if_neg (Ne.symm hk)]
    obtain ⟨g1, g2⟩ := h3 k b e
    exact ⟨g1, g2.tk h1 (by simpa using g1)⟩
end
theorem Bd.mul {a b : Rat} {x y : Nat} (h1 : Bd x a) (h2 : Bd y b) : Bd (x + y) (a * b) := by
  rw [mul_eq]
  refine Bd.quot (Int.mul_pos (den_pos a) (den_pos b)) (wide_lt h1.1 h2.1) (wide_lt ?_ ?_)
  · rw [Int.natAbs_natCast]; exact h1.2
  · rw [Int.natAbs_natCast]; exact h2.2
/-- within the k-th turn, the rows before p done -/
def part (k p : Nat) (M : Cs.Mat) : Cs.Mat := fun i j => if i = k ∨ i < p then Cs.step k M i j else M i j
theorem part_row {k p : Nat} {M : Cs.Mat} {j : Nat} : part k p M k j = M k j / M k k := by
  unfold part
  rw [if_pos (.inl rfl)]
  show (if k = k then _ else _) = _
  rw [if_pos rfl]
theorem part_zero {k : Nat} {M : Cs.Mat} : part k 0 M = fun i => if i = k then fun j => M k j / M k k else M i := by
  funext i j
  unfold part
  by_cases h : i = k
  · subst h
    rw [if_pos (.inl rfl), if_pos rfl]
    show (if i = i then _ else _) = _
    rw [if_pos rfl]
  · rw [if_neg (by omega), if_neg h]
theorem part_all {k n : Nat} {M : Cs.Mat} {i : Nat} (h : i < n) (j : Nat) : part k n M i j = Cs.step k M i j := by unfold part; rw [if_pos (.inr h)]
theorem part_skip {k p : Nat} {M : Cs.Mat} (h : p = k ∨ M p k = 0) : part k (p + 1) M = part k p M := by
  funext i j
  unfold part
  by_cases hi : i = k ∨ i < p
  · rw [if_pos hi, if_pos (by omega)]
  · rw [if_neg hi]
    by_cases hp : i = p
    · subst hp
      rcases h with h | h
      · exact absurd (.inl h) hi
      · rw [if_pos (.inr (Nat.lt_succ_self _))]
        show (if i = k then _ else _) = _
        rw [if_neg (fun z => hi (.inl z)), h]
        grind
    · rw [if_neg (by omega)]
theorem part_do {k p : Nat} {M : Cs.Mat} (h : p ≠ k) : part k (p + 1) M = fun i => if i = p then fun j => M p j - M p k * (M k j / M k k) else part k p M i := by
  funext i j
  unfold part
  by_cases hp : i = p
  · subst hp
    rw [if_pos rfl, if_pos (.inr (Nat.lt_succ_self _))]
    show (if i = k then _ else _) = _
    rw [if_neg h]
  · rw [if_neg hp]
    by_cases hi : i = k ∨ i < p
    · rw [if_pos hi, if_pos (by omega)]
    · rw [if_neg hi, if_neg (by omega)]
theorem part_self {k p : Nat} {M : Cs.Mat} (h : p ≠ k) (j : Nat) : part k p M p j = M p j := by unfold part; rw [if_neg (by omega)]
end Cz

set_option Elab.async false
set_option linter.all false
set_option maxRecDepth 100000
set_option maxHeartbeats 4000000

namespace Cz
open PySem L2
local macro_rules | `(tactic| infer_instance) => `(tactic| with_reducible first
  | refine rd_seq ?_ | refine rd_cons ?_ | refine rd_nil ?_ | refine rd_c ?_ | refine rd_op ?_ | (refine rd_var (v := ?_) ?_ ?_; rotate_left 1; (with_unfolding_all rfl)) | refine rd_un ?_ | refine rd_call ?_ | refine rd_cb ?_ | refine rd_I0 ?_ | refine rd_test ?_ | refine rd_tB ?_ | refine rd_k ?_
  | refine rd_not ?_ | refine rd_and ?_ | refine rd_or ?_ | refine rd_andV ?_ | refine rd_orV ?_ | refine rd_notV ?_ | refine rd_ife ?_ | refine rd_chain ?_ | refine rd_tup ?_ | refine rd_lst ?_ | refine rd_bm0 ?_ | refine rd_bm ?_ | refine rd_sl ?_ | refine rd_nopart ?_ | refine rd_part ?_ | refine rd_i ?_
  | refine rd_next ?_ | refine rd_cont ?_ | refine rd_drop ?_ | refine rd_ret ?_ | refine rd_retN ?_ | refine rd_if ?_ | refine rd_asg ?_ | refine rd_gname ?_ | refine rd_par ?_ | refine rd_par3 ?_ | refine rd_v2 ?_ | refine rd_v3 ?_ | refine rd_gnil ?_ | refine rd_for ?_ | refine rd_lc ?_ | refine rd_yes ?_ | refine rd_iT ?_ | refine rd_iL ?_ | refine rd_iR1 ?_ | refine rd_iR2 ?_ | refine rd_iS ?_ | refine rd_dput ?_ | refine rd_din ?_ | refine rd_dnin ?_ | refine rd_dget ?_ | refine rd_dget2 ?_ | refine rd_dnewK ?_ | refine rd_dnewT ?_ | refine rd_augS ?_ | refine rd_gsub ?_ | refine rd_body ?_ | refine rd_valsT ?_ | refine rd_itemsT ?_ | refine rd_frz ?_ | refine rd_keys ?_ | refine rd_rev ?_ | (refine rd_ifT ?_ ?_; (with_unfolding_all rfl)) | (refine rd_ifF ?_ ?_; (with_unfolding_all rfl)))

theorem rd_star {K : PySem.W.Frag} {te : TE} {t : TA} {σ : St} {H : Hp} {Q : List V → Hp → Prop} (q : te σ H fun x H1 => ∃ p xs, x = V.ref p ∧ (SqT K H1 p xs ∨ SqL K H1 p xs) ∧ t σ H1 fun ys H2 => Q (xs ++ ys) H2) : StX.tStar K te t σ H Q := q
theorem rd_tupP {K : PySem.W.Frag} {n : Nat} {ts : TGs} {T : Addr} {x y : V} {σ : St} {H : Hp} {R : St → Hp → Prop} (h : H T = some (.tup [x, y])) (hn : n = 2) (q : ts [x, y] σ H R) : gTup K n ts (.ref T) σ H R := ⟨T, _, rfl, SqT.of h, by rw [hn]; rfl, q⟩
theorem rd_gc {g : TG} {ts : TGs} {x : V} {xs : List V} {σ : St} {H : Hp} {R : St → Hp → Prop} (q : g x σ H fun σ' H' => ts xs σ' H' R) : gCons g ts (x :: xs) σ H R := ⟨_, _, rfl, q⟩
theorem range_head {n : Nat} (hn : 0 < n) (f : Nat → Option PyData) {d : PyData} (h : f 0 = some d) : ∃ r, (List.range n).filterMap f = d :: r := by
  obtain ⟨m, rfl⟩ : ∃ m, n = m + 1 := ⟨n - 1, by omega⟩
  rw [List.range_succ_eq_map, List.filterMap_cons, h]
  exact ⟨_, rfl⟩
theorem range_map (n : Nat) (g : Nat → PyData) : (List.range n).filterMap (fun i => some (g i)) = (List.range n).map g := List.filterMap_eq_map ▸ rfl
theorem rd_ixL0 {K : PySem.W.Frag} {H : Hp} {v : V} {d : PyData} {r : List PyData} {Q : VK} (h : Ls H v (d :: r)) (q : ∀ u, Dt H u d → Q u H) : rIxL K v (.int 0) H Q := rd_ixL (j := 0) h rfl q
abbrev s_solved : Stmt := topS 29
abbrev n_solved : List Str := ["rows", "sides", "size", "at", "spot", "head", "place", "factor", "row", "side", "one", "two"]
theorem sc_solved : FnScope n_solved ["rows", "sides"] (defScope s_solved) := ⟨rfl, rfl, rfl, by decide +kernel, rfl, by decide +kernel, by decide +kernel⟩

def sp_solved (K : PySem.W.Frag) : Sp := fun vs H Q E => ∃ (n : Nat) (A : Addr) (v : V) (M : Cs.Mat), vs = [.ref A, v] ∧ MR H A n n M ∧ Ls H v (List.replicate n (frD 1)) ∧ (∀ i, i < n → M i n = 1) ∧ 0 < n ∧ n ≤ 15 ∧ (∀ k, k < n → Cs.steps k M k k ≠ 0) ∧ (∀ k, k ≤ n → ∀ i j, i < n → j ≤ n → Bd 200 (Cs.steps k M i j)) ∧ retL H ((List.range n).map fun i => frD (Cs.steps n M i n)) Q
theorem ok_solved {P : Program} {w : World} {K : PySem.W.Frag} {mg : Str → Option Value} {base : Heap} {f : Addr} {fd : FuncData} (F : Fun K "solved" "solved" s_solved f fd) (Z : Bl mg) (C : Ct mg) (D_minus : Dn P w K mg base "minus" ["one", "other"] 3 (sp_minus K)) (D_over : Dn P w K mg base "over" ["one", "other"] 3 (sp_over K)) (D_times : Dn P w K mg base "times" ["one", "other"] 3 (sp_times K)) : FnOk P w K mg base CX0 4 f fd ["rows", "sides"] (sp_solved K) := by
  refine F.ok (k := 3) sc_solved (fun vs H Q E h => ?_) (fun cdv A outer s H vs Q E hr h => ?_)
  · obtain ⟨n, A, v, M, rfl, hM, hv, h1, n0, n15, piv, bd, q⟩ := h
    rfl
  · refine ⟨_, (pss_cons (ps_set (i := 0) sc_solved.nd rfl (.inr rfl) (pe_lc (own := [("row", 8), ("side", 9)]) rfl sc_solved.nd (RZ.pi_zipA (by rfl) Z.zip (pa_cons (pv 0) (pa_cons (pv 1) pa_nil))) (blkOk_by (N := n_solved) (sc := (defScope s_solved)) (by decide +kernel)) (fun _ _ _ _ _ => (kTup (K := K) 2 rfl rfl (pgs_cons (pg_name (i := 8) sc_solved.nd rfl (.inl rfl) (.inr rfl)) (pgs_cons (pg_name (i := 9) sc_solved.nd rfl (.inl rfl) (.inr rfl)) pgs_nil)))) (fun _ _ _ _ _ => pts_nil) (fun _ _ _ _ _ => (pe_lst (kStar (K := K) rfl (pv 8) (pa_cons (pv 9) pa_nil))))))
    (pss_cons (ps_set (i := 2) sc_solved.nd rfl (.inr rfl) (pe_callB (kLen (K := K) rfl) (by rfl) Z.len bt_len (pa_cons (pv 0) pa_nil)))
    (pss_cons (ps_for PassesOwn.never rfl (pi_range1 (by rfl) Z.range (pa_cons (pv 2) pa_nil)) (pg_name (i := 3) sc_solved.nd rfl (.inr rfl))
      (pss_cons (ps_set (i := 4) sc_solved.nd rfl (.inl rfl) (pe_ix (kIxL (K := K) rfl) (pe_lc (own := [("place", 6)]) rfl sc_solved.nd (pi_range2 (by rfl) Z.range (pa_cons (pv 3) (pa_cons (pv 2) pa_nil))) (blkOk_by (N := n_solved) (sc := (defScope s_solved)) (by decide +kernel)) (fun _ _ _ _ _ => (pg_name (i := 6) sc_solved.nd rfl (.inl rfl) (.inr rfl))) (fun _ _ _ _ _ => (pts_one (pt_cmpR op_ne (pe_ix (kIxT (K := K) rfl) (pe_ix (kIxL (K := K) rfl) (pe_ix (kIxL (K := K) rfl) (pv 0) (pv 6) (fun _ _ => rfl)) (pv 3) (fun _ _ => rfl)) pe_int (fun _ _ => rfl)) pe_int (nomark _)))) (fun _ _ _ _ _ => (pv 6))) pe_int (fun _ _ => rfl)))
      (pss_cons (ps_asg (pe_tup (pa_cons (pe_ix (kIxL (K := K) rfl) (pv 0) (pv 4) (fun _ _ => rfl)) (pa_cons (pe_ix (kIxL (K := K) rfl) (pv 0) (pv 3) (fun _ _ => rfl)) pa_nil))) (pg_tup rfl (pgs_cons (pg_sub (pv 0) (pv 3) set_list) (pgs_cons (pg_sub (pv 0) (pv 4) set_list) pgs_nil))))
      (pss_cons (ps_set (i := 5) sc_solved.nd rfl (.inr rfl) (pe_ix (kIxL (K := K) rfl) (pe_ix (kIxL (K := K) rfl) (pv 0) (pv 3) (fun _ _ => rfl)) (pv 3) (fun _ _ => rfl)))
      (pss_cons (ps_asg (pe_lc (own := [("one", 10)]) rfl sc_solved.nd (pi_list (pe_ix (kIxL (K := K) rfl) (pv 0) (pv 3) (fun _ _ => rfl))) (blkOk_by (N := n_solved) (sc := (defScope s_solved)) (by decide +kernel)) (fun _ _ _ _ _ => (pg_name (i := 10) sc_solved.nd rfl (.inl rfl) (.inr rfl))) (fun _ _ _ _ _ => pts_nil) (fun _ _ _ _ _ => (pe_fn D_over hr (pa_cons (pv 10) (pa_cons (pv 5) pa_nil))))) (pg_sub (pv 0) (pv 3) set_list))
      (pss_one (ps_for PassesOwn.never rfl (pi_range1 (by rfl) Z.range (pa_cons (pv 2) pa_nil)) (pg_name (i := 6) sc_solved.nd rfl (.inl rfl))
        (pss_cons (ps_set (i := 7) sc_solved.nd rfl (.inr rfl) (pe_ix (kIxL (K := K) rfl) (pe_ix (kIxL (K := K) rfl) (pv 0) (pv 6) (fun _ _ => rfl)) (pv 3) (fun _ _ => rfl)))
        (pss_one (ps_if (PW.pt (pw_and (pt_cmpR op_ne (pv 6) (pv 3) (nomark _)) (pw_and1 (pt_cmpR op_ne (pe_ix (kIxT (K := K) rfl) (pv 7) pe_int (fun _ _ => rfl)) pe_int (nomark _)))))
          (pss_one (ps_asg (pe_lc (own := [("one", 10), ("two", 11)]) rfl sc_solved.nd (RZ.pi_zipA (by rfl) Z.zip (pa_cons (pe_ix (kIxL (K := K) rfl) (pv 0) (pv 6) (fun _ _ => rfl)) (pa_cons (pe_ix (kIxL (K := K) rfl) (pv 0) (pv 3) (fun _ _ => rfl)) pa_nil))) (blkOk_by (N := n_solved) (sc := (defScope s_solved)) (by decide +kernel)) (fun _ _ _ _ _ => (kTup (K := K) 2 rfl rfl (pgs_cons (pg_name (i := 10) sc_solved.nd rfl (.inl rfl) (.inr rfl)) (pgs_cons (pg_name (i := 11) sc_solved.nd rfl (.inl rfl) (.inr rfl)) pgs_nil)))) (fun _ _ _ _ _ => pts_nil) (fun _ _ _ _ _ => (pe_fn D_minus hr (pa_cons (pv 10) (pa_cons (pe_fn D_times hr (pa_cons (pv 7) (pa_cons (pv 11) pa_nil))) pa_nil))))) (pg_sub (pv 0) (pv 6) set_list)))
          pss_nil))))))))))
    (pss_one (ps_ret (pe_lc (own := [("row", 8)]) rfl sc_solved.nd (pi_list (pv 0)) (blkOk_by (N := n_solved) (sc := (defScope s_solved)) (by decide +kernel)) (fun _ _ _ _ _ => (pg_name (i := 8) sc_solved.nd rfl (.inl rfl) (.inr rfl))) (fun _ _ _ _ _ => pts_nil) (fun _ _ _ _ _ => (pe_ix (kIxL (K := K) rfl) (pv 8) (pv 2) (fun _ _ => rfl))))))))), ?_⟩
    clear hr Z C D_minus D_over D_times
    obtain ⟨n, A, v, M, rfl, hM, hv, h1, n0, n15, piv, bd, q⟩ := h
    -- the rows, each with its side
    ((try dsimp only); repeat infer_instance)
    refine rd_zip ?_
    ((try dsimp only); repeat infer_instance)
    obtain ⟨bs, hA, hbl, hbs⟩ := hM
    obtain ⟨a2, ys, rfl, ha2, hys⟩ := hv
    have hyl : ys.length = n := by rw [hys.len, List.length_replicate]
    refine ⟨A, a2, _, ys, rfl, .inl ⟨SqL.of hA, SqL.of ha2, ?_⟩⟩
    intro D hD
    refine lc_it (Qd := _) (walk_zip (n := n) (xs := bs.map V.ref) (ys := ys) (by rw [List.length_map]; omega)) (fun i H' => Same H H' ∧ ∃ cs : List Addr, H' D = some (.lst (cs.map V.ref)) ∧ cs.length = i ∧ ∀ k b, cs[k]? = some b → b ≠ D ∧ Ls H' (.ref b) (rowD (n + 1) (M k))) ⟨same_upd hD, [], upd_same, rfl, fun k b e => by simp at e⟩ (fun i H' _ hP => ⟨SqL.of (hP.1 _ _ hA), SqL.of (hP.1 _ _ ha2)⟩) (fun i x H1 H2 hi hP hY => ?_) (fun H1 hP => ?_)
    · obtain ⟨s1, cs, c1, c2, c3⟩ := hP
      obtain ⟨T, x1, y1, rfl, hT, rfl, ex, ey⟩ := hY
      dsimp only at ex ey
      rw [List.getElem?_map] at ex
      cases eb : bs[i]? with
      | none => rw [eb] at ex; cases ex
      | some b =>
        rw [eb] at ex
        cases ex
        obtain ⟨dy, edy, hdy⟩ := hys.got ey
        rw [List.getElem?_replicate, if_pos hi] at edy
        cases edy
        obtain ⟨_, hrow⟩ := hbs i b eb
        have sT := same_upd (o := .tup [.ref b, y1]) hT
        have eT : upd H1 T (.tup [.ref b, y1]) T = some (.tup [.ref b, y1]) := upd_same
        have s2 := s1.trans sT
        have c1 := sT _ _ c1
        have c3 := fun k b' (e : cs[k]? = some b') => (⟨(c3 k b' e).1, (c3 k b' e).2.ups sT⟩ : b' ≠ D ∧ Ls (upd H1 T (.tup [.ref b, y1])) (.ref b') (rowD (n + 1) (M k)))
        have hrow2 := hrow.ups s2
        have hdy2 := (hdy.ups s1).ups sT
        generalize upd H1 T (.tup [.ref b, y1]) = H2 at *
        refine rd_tupP eT rfl ?_
        refine rd_gc ?_
        ((try dsimp only); repeat infer_instance)
        refine rd_gc ?_
        ((try dsimp only); repeat infer_instance)
        refine ⟨rfl, ?_⟩
        ((try dsimp only); repeat infer_instance)
        refine rd_star ?_
        ((try dsimp only); repeat infer_instance)
        obtain ⟨pb, zs, e, g1, g2⟩ := hrow2
        cases e
        refine ⟨b, zs, rfl, .inr (SqL.of g1), ?_⟩
        ((try dsimp only); repeat infer_instance)
        refine ⟨by rw [List.length_append, g2.len, rowD_len]; exact Nat.le_trans (show n + 1 ≤ 100 by omega) (by decide), fun p hp => ?_⟩
        have sp := same_upd (o := .lst (zs ++ [y1])) hp
        have hpD : p ≠ D := fun z => by subst z; rw [c1] at hp; cases hp
        have newrow : Ls (upd H2 p (.lst (zs ++ [y1]))) (.ref p) (rowD (n + 1) (M i)) := by
          have e : rowD (n + 1) (M i) = rowD n (M i) ++ [frD 1] := by unfold rowD; rw [List.range_succ, List.map_append]; simp [h1 i hi]
          rw [e]
          exact ⟨p, _, rfl, upd_same, (g2.app (.one hdy2)).ups sp⟩
        refine ⟨_, sp _ _ c1, by rw [List.length_map, c2]; exact Nat.lt_of_lt_of_le (show i < 100 by omega) (by decide), fun b' o e => ?_, cs ++ [p], by rw [List.map_append]; exact upd_same, by simp [c2], fun k b' e => ?_⟩
        · rw [upd_ne (ne_of_none e hD)]; exact sp _ _ (s2 _ _ e)
        · rw [List.getElem?_append] at e
          split at e
          · obtain ⟨k1, k2⟩ := c3 k b' e
            exact ⟨k1, (k2.ups sp).tk (sp _ _ c1) (by simpa using k1)⟩
          · rename_i hk
            cases hz : k - cs.length with
            | zero =>
              rw [hz] at e
              cases e
              have : k = i := by omega
              rw [this]
              exact ⟨hpD, newrow.tk (sp _ _ c1) (by simpa using hpD)⟩
            | succ z => rw [hz] at e; simp at e
    · obtain ⟨s1, cs, c1, c2, c3⟩ := hP
      have hR : MR H1 D n (n + 1) M := ⟨cs, c1, c2, c3⟩
      have hD0 := hD
      clear c1 c2 c3 hA hbs ha2 hys hD hbl
      ((try dsimp only); repeat infer_instance)
      have hR' := hR
      obtain ⟨cs, c1, c2, _⟩ := hR'
      refine rd_lenLn (SqL.of c1) ?_
      rw [List.length_map, c2]
      clear c1 c2
      ((try dsimp only); repeat infer_instance)
      refine ⟨_, rfl, by omega, by omega, ?_⟩
      rw [show ((n : Int)).toNat = n by omega]
      have same' : ∀ {H5 H6 : Hp}, Same H H5 → (∀ b o, b ≠ D → H5 b = some o → H6 b = some o) → Same H H6 := fun a b x o e => b x o (ne_of_none e hD0) (a x o e)
      have bdd : ∀ k, k ≤ n → ∀ i j, i < n → j ≤ n → Bd 2000 (Cs.steps k M i j) := fun k hk i j hi hj => (bd k hk i j hi hj).mono (by decide)
      refine forR (fun k σ' H' => ∃ x3 x4 x5 x6 x7, σ' = [some (.ref D), some (.ref a2), some (.int n), x3, x4, x5, x6, x7, none, none, none, none] ∧ Same H H' ∧ MR H' D n (n + 1) (Cs.steps k M)) ⟨none, none, none, none, none, rfl, s1, hR⟩ (fun k σ' H' hk hP => ?_) (fun σ' H' hP => ?_)
      · obtain ⟨x3, x4, x5, x6, x7, rfl, s2, R2⟩ := hP
        have pk := piv k hk
        have bdk := bdd k (by omega)
        have bdk1 := bdd (k + 1) (by omega)
        have bdS := bd k (by omega)
        have est : Cs.steps (k + 1) M = Cs.step k (Cs.steps k M) := rfl
        rw [est] at bdk1 ⊢
        generalize Cs.steps k M = S at *
        clear hR
        rw [Int.zero_add]
        ((try dsimp only); repeat infer_instance)
        refine ⟨_, _, rfl, ⟨by omega, by omega, by omega, by omega⟩, ?_⟩
        refine lcR (fun i => if S (k + i) k = 0 then none else some (.int ((k + i : Nat) : Int))) (fun i H3 hi s3 R Y hR hY => ?_) (by omega) (fun Dd H3 hn s3 hL => ?_)
        · rw [show (k : Int) + (i : Nat) = ((k + i : Nat) : Int) by omega]
          ((try dsimp only); repeat infer_instance)
          refine ⟨rfl, ?_⟩
          ((try dsimp only); repeat infer_instance)
          refine (R2.same s3).row (by omega) fun b _ hb => ?_
          ((try dsimp only); repeat infer_instance)
          refine rd_cellR hb (by omega) fun u hu => ?_
          ((try dsimp only); repeat infer_instance)
          refine rd_ixTI (j := 0) hu rfl ?_
          ((try dsimp only); repeat infer_instance)
          refine rd_ne rfl ?_
          refine rd_k ?_
          by_cases h0 : S (k + i) k = 0
          · rw [if_neg (by simp [Rat.num_eq_zero, h0])]
            exact hR (if_pos h0) _ (sameR _)
          · rw [if_pos (by simp [Rat.num_eq_zero, h0])]
            ((try dsimp only); repeat infer_instance)
            exact hY _ (if_neg h0) _ _ (sameR _) (.int _)
        · obtain ⟨rest, er⟩ := range_head (n := ((n : Int) - (k : Int)).toNat) (by omega) (fun i => if S (k + i) k = 0 then none else some (PyData.int ((k + i : Nat) : Int))) (d := .int (k : Int)) (if_neg pk)
          rw [er] at hL
          ((try dsimp only); repeat infer_instance)
          refine rd_ixL0 hL fun u hu => ?_
          rw [hu.int_eq]
          have R3 := R2.same s3
          have s3' := s2.trans s3
          clear R2 hL hu er
          ((try dsimp only); repeat infer_instance)
          refine R3.row hk fun b b1 b2 => ?_
          ((try dsimp only); repeat infer_instance)
          refine R3.row hk fun b' b1' b2' => ?_
          ((try dsimp only); repeat infer_instance)
          refine ⟨by show 2 ≤ _; decide, fun T hT => ?_⟩
          have sT := same_upd (o := .tup [.ref b, .ref b']) hT
          have eT : upd H3 T (.tup [.ref b, .ref b']) T = some (.tup [.ref b, .ref b']) := upd_same
          have R4 := R3.same sT
          have b2 := b2.ups sT
          have b2' := b2'.ups sT
          have s4 := s3'.trans sT
          generalize upd H3 T (.tup [.ref b, .ref b']) = H4 at *
          clear R3 s3'
          refine rd_tupP eT rfl ?_
          refine rd_gc ?_
          ((try dsimp only); repeat infer_instance)
          refine R4.put hk b1 b2 fun H5 k5 t5 R5 => ?_
          have s5 := same' s4 k5
          have b3' : Ls H5 (.ref b') (rowD (n + 1) (S k)) := by
            obtain ⟨a', zs, e, g1, g2⟩ := b2'
            cases e
            exact ⟨b', zs, rfl, k5 _ _ b1' g1, g2.up t5⟩
          refine rd_gc ?_
          ((try dsimp only); repeat infer_instance)
          refine R5.put hk b1' b3' fun H6 k6 t6 R6 => ?_
          have s6 := same' s5 k6
          have R7 : MR H6 D n (n + 1) S := R6.congr fun i hi j hj => by
            by_cases z : i = k
            · subst z; simp
            · simp [z]
          clear R6 R5 R4 b2 b2' b3' b1 b1' eT sT hT k5 t5 k6 t6 s4 s5
          ((try dsimp only); repeat infer_instance)
          refine R7.row hk fun b b1 b2 => ?_
          ((try dsimp only); repeat infer_instance)
          refine rd_cellR b2 (by omega) fun hd hhd => ?_
          ((try dsimp only); repeat infer_instance)
          refine R7.row hk fun b b1 b2 => ?_
          refine lcL b2 (fun j _ => some (frD (S k j / S k k))) (fun j d u H7 hd7 s7 hu R Y hR hY => ?_) (by rw [rowD_len]; omega) (fun Dd H7 hn7 s7 hL => ?_)
          · obtain ⟨hj, rfl⟩ := rowD_got hd7
            ((try dsimp only); repeat infer_instance)
            refine ⟨rfl, ?_⟩
            ((try dsimp only); repeat infer_instance)
            refine ⟨_, _, _, _, rfl, hu, hhd.ups s7, bdk k j hk (by omega), bdk k k hk (by omega), pk, fun v8 H8 s8 d8 => ?_⟩
            exact hY _ rfl _ _ s8 d8
          · have ek : keepsOf (fun j _ => some (frD (S k j / S k k))) (rowD (n + 1) (S k)) = rowD (n + 1) (fun j => S k j / S k k) := by
              unfold rowD
              refine keeps_all _ _ (fun j => frD (S k j / S k k)) (List.range (n + 1)) fun i a e => ?_
              rw [List.getElem?_eq_some_iff] at e
              obtain ⟨h, e⟩ := e
              rw [List.getElem_range] at e
              rw [e]
            rw [ek] at hL
            have R8 := R7.same s7
            have s8 := s6.trans s7
            have hDd : Dd ≠ D := fun z => by
              obtain ⟨cs, c1, _⟩ := R7
              subst z
              rw [c1] at hn7; cases hn7
            have hhd := hhd.ups s7
            ((try dsimp only); repeat infer_instance)
            refine R8.put hk hDd hL fun H9 k9 t9 R9 => ?_
            have s9 := same' s8 k9
            have hhd := hhd.up t9
            rw [← part_zero] at R9
            clear R8 R7 hL hDd k9 t9 s8 s7 s6 b2 b1 hn7
            ((try dsimp only); repeat infer_instance)
            refine ⟨_, rfl, by omega, by omega, ?_⟩
            rw [show ((n : Int)).toNat = n by omega]
            refine forR (fun p σ' H' => ∃ x6 x7, σ' = [some (.ref D), some (.ref a2), some (.int n), some (.int k), some (.int k), some hd, x6, x7, none, none, none, none] ∧ Same H H' ∧ MR H' D n (n + 1) (part k p S)) ⟨_, _, rfl, s9, R9⟩ (fun p σ' H' hp hP => ?_) (fun σ' H' hP => ?_)
            · obtain ⟨y6, y7, rfl, s10, R10⟩ := hP
              rw [Int.zero_add]
              ((try dsimp only); repeat infer_instance)
              refine R10.row hp fun b b1 b2 => ?_
              ((try dsimp only); repeat infer_instance)
              refine rd_cellR b2 (by omega) fun fv hfv => ?_
              ((try dsimp only); repeat infer_instance)
              refine rd_ne rfl ?_
              refine rd_k ?_
              by_cases hpk : p = k
              · subst hpk
                refine rd_ifF (by simp) ?_
                ((try dsimp only); repeat infer_instance)
                rw [part_skip (.inl rfl)]
                exact ⟨_, _, rfl, s10, R10⟩
              refine rd_ifT (by simp; omega) ?_
              ((try dsimp only); repeat infer_instance)
              refine rd_ixTI (j := 0) hfv rfl ?_
              ((try dsimp only); repeat infer_instance)
              refine rd_ne rfl ?_
              refine rd_k ?_
              rw [part_self hpk] at hfv ⊢
              by_cases h0 : S p k = 0
              · refine rd_ifF (by simp [Rat.num_eq_zero, h0]) ?_
                ((try dsimp only); repeat infer_instance)
                rw [part_skip (.inr h0)]
                exact ⟨_, _, rfl, s10, R10⟩
              refine rd_ifT (by simp [Rat.num_eq_zero, h0]) ?_
              clear b1 b2
              ((try dsimp only); repeat infer_instance)
              refine rd_zip ?_
              ((try dsimp only); repeat infer_instance)
              refine R10.row hp fun b b1 b2 => ?_
              ((try dsimp only); repeat infer_instance)
              refine R10.row hk fun b' b1' b2' => ?_
              ((try dsimp only); repeat infer_instance)
              obtain ⟨pb, zs, e, g1, g2⟩ := b2
              cases e
              obtain ⟨pb', zs', e, g1', g2'⟩ := b2'
              cases e
              refine ⟨b, b', zs, zs', rfl, .inl ⟨SqL.of g1, SqL.of g1', ?_⟩⟩
              have l1 : zs.length = n + 1 := by rw [g2.len, rowD_len]
              have l2 : zs'.length = n + 1 := by rw [g2'.len, rowD_len]
              refine lcW (walk_zip (n := n + 1) (by omega)) (fun H9 s => ⟨SqL.of (s _ _ g1), SqL.of (s _ _ g1')⟩) (fun j => some (frD (S p j - S p k * (S k j / S k k)))) (fun j x H11 H12 hj s hY => ?_) (by omega) (fun De H11 hn11 s11 hL => ?_)
              · obtain ⟨T, x1, y1, rfl, hT, rfl, ex, ey⟩ := hY
                dsimp only at ex ey
                obtain ⟨dx, edx, hdx⟩ := g2.got ex
                obtain ⟨dy, edy, hdy⟩ := g2'.got ey
                obtain ⟨_, rfl⟩ := rowD_got edx
                obtain ⟨_, rfl⟩ := rowD_got edy
                rw [part_self hpk] at hdx
                rw [part_row] at hdy
                have sT := same_upd (o := .tup [x1, y1]) hT
                have eT : upd H11 T (.tup [x1, y1]) T = some (.tup [x1, y1]) := upd_same
                have hdx := (hdx.ups s).ups sT
                have hdy := (hdy.ups s).ups sT
                have hfv2 := (hfv.ups s).ups sT
                refine ⟨sT, fun R Y hR hY2 => ?_⟩
                refine rd_tupP eT rfl ?_
                refine rd_gc ?_
                ((try dsimp only); repeat infer_instance)
                refine rd_gc ?_
                ((try dsimp only); repeat infer_instance)
                refine ⟨rfl, ?_⟩
                ((try dsimp only); repeat infer_instance)
                have bq : Bd 2000 (S k j / S k k) := by
                  have := bdk1 k j hk (by omega)
                  unfold Cs.step at this
                  rw [if_pos rfl] at this
                  exact this
                have bq2 : Bd 200 (S k j / S k k) := by
                  have := bd (k + 1) (by omega) k j hk (by omega)
                  rw [est] at this
                  unfold Cs.step at this
                  rw [if_pos rfl] at this
                  exact this
                have bf : Bd 200 (S p k) := bdS p k hp (by omega)
                refine ⟨_, _, _, _, rfl, hfv2, hdy, bdk p k hp (by omega), bq, fun v13 H13 s13 d13 => ?_⟩
                ((try dsimp only); repeat infer_instance)
                refine ⟨_, _, _, _, rfl, hdx.ups s13, d13, bdk p j hp (by omega), (bf.mul bq2).mono (by decide), fun v14 H14 s14 d14 => ?_⟩
                exact hY2 _ rfl _ _ (s13.trans s14) d14
              · rw [range_map] at hL
                have hDe : De ≠ D := fun z => by
                  obtain ⟨cs, c1, _⟩ := R10
                  subst z
                  rw [c1] at hn11; cases hn11
                ((try dsimp only); repeat infer_instance)
                refine (R10.same s11).put hp hDe (f := fun j => S p j - S p k * (S k j / S k k)) hL fun H12 k12 t12 R12 => ?_
                ((try dsimp only); repeat infer_instance)
                rw [part_do hpk]
                exact ⟨_, _, rfl, same' (s10.trans s11) k12, R12⟩
            · obtain ⟨y6, y7, rfl, s10, R10⟩ := hP
              ((try dsimp only); repeat infer_instance)
              exact ⟨_, _, _, _, _, rfl, s10, R10.congr fun i hi j _ => part_all hi j⟩
      · obtain ⟨x3, x4, x5, x6, x7, rfl, s2, R2⟩ := hP
        obtain ⟨cs, c1, c2, c3⟩ := R2
        ((try dsimp only); repeat infer_instance)
        refine ⟨D, rfl, ⟨_, SqL.of c1⟩, ?_⟩
        refine lcW walk_list (fun H9 s => SqL.of (s _ _ c1)) (fun i => some (frD (Cs.steps n M i n))) (fun i x H3 H4 hi s hY => ?_) (by rw [List.length_map]; omega) (fun De H3 hn3 s3 hL => ?_)
        · obtain ⟨rfl, hx⟩ := hY
          rw [List.length_map] at hi
          rw [List.getElem?_map, List.getElem?_eq_getElem hi] at hx
          cases hx
          refine ⟨sameR _, fun R Y hR hY2 => ?_⟩
          ((try dsimp only); repeat infer_instance)
          refine ⟨rfl, ?_⟩
          ((try dsimp only); repeat infer_instance)
          refine rd_cellR ((c3 i _ (List.getElem?_eq_getElem hi)).2.ups s) (by omega) fun u hu => ?_
          exact hY2 _ rfl _ _ (sameR _) hu
        · rw [range_map, List.length_map, c2] at hL
          exact q _ _ (s2.trans s3) hL

end Cz

set_option Elab.async false
set_option linter.all false
set_option maxRecDepth 100000
set_option maxHeartbeats 1000000
/-! the states and their matrix, in plain -/
namespace Cz
open PySem L2
open PySem.W (dataLe alike alikeAll AllAlike)
theorem alike_strs : ∀ a b : List Str, alikeAll (a.map PyData.str) (b.map PyData.str) = true
  | [], _ => by simp [alikeAll]
  | _ :: _, [] => by simp [alikeAll]
  | x :: xs, y :: ys => by simp [alikeAll, alike, alike_strs xs ys]
theorem srtb_pics (l : List Pic) (h : l.length ≤ 1000) : Srtb encP l := by
  refine ⟨fun d hd d' hd' => ?_, fun b _ => ⟨_, rfl⟩, fun b _ => Nat.le_trans (dp_pic b) (by decide), h⟩
  obtain ⟨p, _, rfl⟩ := List.mem_map.mp hd
  obtain ⟨q, _, rfl⟩ := List.mem_map.mp hd'
  have := alike_strs (p.map rowS) (q.map rowS)
  rw [List.map_map, List.map_map] at this
  exact this
/-- the states in their order -/
structure Sl (t : Told) (g s : Pic) (r c : Nat) (L : List Pic) : Prop where
  nd : L.Nodup
  mem : ∀ q, q ∈ L ↔ Cl (sucB t g) s q
  hd : L[0]? = some s
theorem Sl.of {t : Told} {g s : Pic} {r c : Nat} {l l' : List Pic} (hn : l.Nodup) (hl : ∀ q, q ∈ l ↔ Cl (sucB t g) s q) (hp : l'.Perm (l.filter fun p => decide (p ≠ s))) : Sl t g s r c (s :: l') := by
  have hs : s ∈ l := (hl s).mpr .refl
  refine ⟨?_, fun q => ?_, rfl⟩
  · rw [List.nodup_cons]
    refine ⟨fun z => ?_, hp.nodup_iff.mpr (List.filter_sublist.nodup hn)⟩
    have := List.mem_filter.mp (hp.mem_iff.mp z)
    simp at this
  · rw [← hl q]
    constructor
    · intro z
      rcases List.mem_cons.mp z with rfl | z
      · exact hs
      · exact (List.mem_filter.mp (hp.mem_iff.mp z)).1
    · intro z
      by_cases e : q = s
      · simp [e]
      · exact List.mem_cons_of_mem _ (hp.mem_iff.mpr (List.mem_filter.mpr ⟨z, by simpa using e⟩))
theorem clB_ne {t : Told} {g s q : Pic} (hsg : s ≠ g) (h : Cl (sucB t g) s q) : q ≠ g := by
  cases h with
  | refl => exact hsg
  | step _ hq => have := (List.mem_filter.mp hq).2; simpa using this
theorem clB_G {t : Told} {g s q : Pic} (hsg : s ≠ g) (h : Cl (sucB t g) s q) : Cl (sucG t g) s q := by
  induction h with
  | refl => exact .refl
  | @step p q hp hq ih =>
    refine .step ih ?_
    unfold sucG
    rw [if_neg (clB_ne hsg hp)]
    exact (List.mem_filter.mp hq).1
theorem rch_cl {t : Told} {p q : Pic} (h : Cl (sucT t) p q) : Cs.Rch t act p q := by
  induction h with
  | refl => exact .refl
  | step _ hq ih =>
    obtain ⟨x, hx, rfl⟩ := List.mem_map.mp hq
    exact .step ih hx
theorem cl_shp {suc : Pic → List Pic} {r c : Nat} {s q : Pic} (hs : Shp r c s) (h : ∀ p, Shp r c p → ∀ q ∈ suc p, Shp r c q) (k : Cl suc s q) : Shp r c q := by
  induction k with
  | refl => exact hs
  | step _ hq ih => exact h _ ih _ hq
section
variable {t : Told} {g s : Pic} {r c : Nat} {L : List Pic}
theorem Sl.sts (S : Sl t g s r c L) (ok : TOk r c t) (hsg : s ≠ g) (hsure : sure t g s = true) : Cs.Sts t act g L where
  pos := ok.pos
  ne := ok.ne
  nd := S.nd
  out := fun z => clB_ne hsg ((S.mem g).mp z) rfl
  clo := fun p hp x hx => by
    by_cases e : act p x.1 = g
    · exact .inl e
    · exact .inr ((S.mem _).mpr (.step ((S.mem p).mp hp) (List.mem_filter.mpr ⟨List.mem_map.mpr ⟨x, hx, rfl⟩, by simpa using e⟩)))
  can := fun p hp => rch_cl (sure_true.mp hsure p (clB_G hsg ((S.mem p).mp hp)))
theorem Sl.shp (S : Sl t g s r c L) (hs : Shp r c s) : ∀ p ∈ L, Shp r c p := fun p hp => cl_shp hs (fun p h q hq => sucB_shp h q hq) ((S.mem p).mp hp)
theorem Sl.few (S : Sl t g s r c L) (hb : (r, c) ∈ boards) (hs : Shp r c s) (hg : Shp r c g) (hsg : s ≠ g) : L.length ≤ 15 := by
  have : (g :: L).length ≤ 16 := few16 hb (List.nodup_cons.mpr ⟨fun z => clB_ne hsg ((S.mem g).mp z) rfl, S.nd⟩) fun p hp => by
    rcases List.mem_cons.mp hp with rfl | z
    · exact hg
    · exact S.shp hs p z
  simp at this
  omega
theorem Sl.pos (S : Sl t g s r c L) : 0 < L.length := (List.getElem?_eq_some_iff.mp S.hd).1
end
/-- the places of the states -/
def spotsOf (L : List Pic) : List (Pic × Int) := L.zipIdx.map fun x => (x.1, (x.2 : Int))
theorem spots_look {L : List Pic} (hn : L.Nodup) {j : Nat} {p : Pic} (h : L[j]? = some p) : gLook (spotsOf L) p = some (j : Int) := by
  have hk : (spotsOf L).map (·.1) = L := by unfold spotsOf; rw [List.map_map]; exact List.zipIdx_map_fst 0 L
  refine gLook_mem (t := spotsOf L) (by rw [hk]; exact hn) (x := (p, (j : Int))) ?_
  unfold spotsOf
  exact List.mem_map.mpr ⟨(p, j), List.mk_mem_zipIdx_iff_getElem?.mpr h, rfl⟩
theorem spots_take {L : List Pic} {i : Nat} {p : Pic} (h : L[i]? = some p) : spotsOf (L.take (i + 1)) = spotsOf (L.take i) ++ [(p, (i : Int))] := by
  unfold spotsOf
  have hi := (List.getElem?_eq_some_iff.mp h).1
  rw [List.take_add_one, h, List.zipIdx_append, List.map_append]
  have hl : (L.take i).length = i := by rw [List.length_take]; omega
  simp [hl]
theorem spots_keys (L : List Pic) : (spotsOf L).map (·.1) = L := by unfold spotsOf; rw [List.map_map]; exact List.zipIdx_map_fst 0 L
theorem gAdd_new {β : Type} {m : List (Pic × β)} {q : Pic} {w : β} (h : q ∉ m.map (·.1)) : gAdd m q w = m ++ [(q, w)] := by
  unfold gAdd
  rw [if_neg]
  intro z
  obtain ⟨x, hx, e⟩ := List.any_eq_true.mp z
  exact h (List.mem_map.mpr ⟨x, hx, of_decide_eq_true e⟩)
/-- how much of the weight goes from p to q -/
def toq (t : Told) (p q : Pic) : Int := (gLook (stepA t p 1 []) q).getD 0
theorem look_addM (f : List (Pic × Int)) (q q' : Pic) (v : Int) : (gLook (addM f q v) q').getD 0 = (gLook f q').getD 0 + if q' = q then v else 0 := by
  unfold addM
  rw [gAdd_look]
  by_cases h : q' = q
  · rw [if_pos h, if_pos h, h]; rfl
  · rw [if_neg h, if_neg h]; omega
theorem toq_ws (t : Told) (p q : Pic) : ((toq t p q : Int) : Rat) = Cs.ws t fun e => if act p e = q then 1 else 0 := by
  unfold toq
  have : ∀ (t : Told) (f : List (Pic × Int)), (((gLook (stepA t p 1 f) q).getD 0 : Int) : Rat) = (((gLook f q).getD 0 : Int) : Rat) + Cs.ws t fun e => if act p e = q then 1 else 0 := fun t => by
    induction t with
    | nil => intro f; show (((gLook f q).getD 0 : Int) : Rat) = _ + 0; grind
    | cons x t ih =>
      intro f
      have := ih (addM f (act p x.1) (1 * x.2))
      show (((gLook (stepA t p 1 (addM f (act p x.1) (1 * x.2))) q).getD 0 : Int) : Rat) = _
      rw [this, look_addM]
      show _ = _ + ((x.2 : Rat) * (if act p x.1 = q then 1 else 0) + _)
      by_cases h : q = act p x.1
      · rw [if_pos h, if_pos h.symm, Rat.intCast_add, Int.one_mul]
        grind
      · rw [if_neg h, if_neg (fun z => h z.symm), Int.add_zero]
        grind
  have h0 := this t []
  rw [h0]
  have : (gLook ([] : List (Pic × Int)) q).getD 0 = 0 := rfl
  rw [this]
  show ((0 : Int) : Rat) + _ = _
  rw [Rat.intCast_zero]
  grind
theorem mw_row {t : Told} {L : List Pic} {i j : Nat} {p q : Pic} (hi : L[i]? = some p) (hj : L[j]? = some q) : Cs.mw t act L i j = (if i = j then 1 else 0) - ((toq t p q : Int) : Rat) / ((Cs.wt t : Int) : Rat) := by
  have hjl := (List.getElem?_eq_some_iff.mp hj).1
  unfold Cs.mw
  rw [if_pos hjl, hi, Cs.wt_ws, toq_ws]
  congr 2
  refine Cs.ws_congr _ fun x _ => ?_
  unfold Cs.isAt
  rw [hj]
  by_cases h : act p x.1 = q
  · rw [if_pos h, if_pos (by rw [h])]
  · rw [if_neg h, if_neg (fun z => h (Option.some.inj z).symm)]
theorem mw_last {t : Told} {L : List Pic} (i : Nat) : Cs.mw t act L i L.length = 1 := by unfold Cs.mw; rw [if_neg (Nat.lt_irrefl _)]
theorem mean_head {t : Told} {L : List Pic} {s : Pic} (hn : L.Nodup) (h : L[0]? = some s) : Cs.mean t act L s = Cs.steps L.length (Cs.mw t act L) 0 L.length := Cs.hat_at hn _ h
/-- where the keys of a turn come from -/
theorem stepA_key {p : Pic} {k : Int} : ∀ {t : Told} {f : List (Pic × Int)} {x : Pic × Int}, x ∈ stepA t p k f → x.1 ∈ f.map (·.1) ∨ ∃ y ∈ t, x.1 = act p y.1
  | [], f, x, h => .inl (List.mem_map.mpr ⟨x, h, rfl⟩)
  | y :: t, f, x, h => by
    rcases stepA_key (t := t) (f := addM f (act p y.1) (k * y.2)) h with z | ⟨w, hw, e⟩
    · unfold addM at z
      rw [gAdd_keys] at z
      split at z
      · exact .inl z
      · rcases List.mem_append.mp z with z | z
        · exact .inl z
        · simp at z; exact .inr ⟨y, by simp, z⟩
    · exact .inr ⟨w, by simp [hw], e⟩
/-- the row of the i-th state when the turns mm have been taken off -/
def rowP (t : Told) (L : List Pic) (i : Nat) (mm : List (Pic × Int)) (j : Nat) : Rat := match L[j]? with
  | some q => (if i = j then 1 else 0) - (((gLook mm q).getD 0 : Int) : Rat) / ((Cs.wt t : Int) : Rat)
  | none => 0
theorem rowP_nil {t : Told} {L : List Pic} {i : Nat} : rowD L.length (rowP t L i []) = rowD L.length fun j => if j = i then 1 else 0 := by
  refine rowD_congr fun j hj => ?_
  unfold rowP
  rw [List.getElem?_eq_getElem hj]
  have : (gLook ([] : List (Pic × Int)) L[j]).getD 0 = 0 := rfl
  dsimp only
  rw [this]
  by_cases h : i = j
  · subst h; simp only [if_pos]; rw [Rat.intCast_zero]; grind
  · have h' : ¬ j = i := fun z => h z.symm
    simp only [if_neg h, if_neg h']; rw [Rat.intCast_zero]; grind
theorem look_snoc {mm : List (Pic × Int)} {q q' : Pic} {k : Int} (hn : gLook mm q = none) : (gLook (mm ++ [(q, k)]) q').getD 0 = if q' = q then k else (gLook mm q').getD 0 := by
  unfold gLook at hn ⊢
  rw [List.find?_append]
  by_cases h : q' = q
  · subst h
    rw [if_pos rfl, Option.map_eq_none_iff.mp hn]
    simp
  · rw [if_neg h]
    have : ([(q, k)].find? fun x => decide (x.1 = q')) = none := by rw [List.find?_cons, decide_eq_false (fun z => h z.symm)]; rfl
    rw [this]
    simp
theorem rowP_skip {t : Told} {L : List Pic} {i : Nat} {mm : List (Pic × Int)} {g : Pic} {k : Int} (hg : g ∉ L) (hn : gLook mm g = none) : rowD L.length (rowP t L i (mm ++ [(g, k)])) = rowD L.length (rowP t L i mm) := by
  refine rowD_congr fun j hj => ?_
  unfold rowP
  rw [List.getElem?_eq_getElem hj]
  dsimp only
  have hne : ¬ L[j] = g := fun z => hg (by rw [← z]; exact List.getElem_mem hj)
  rw [look_snoc hn]
  simp only [if_neg hne]
theorem rowP_do {t : Told} {L : List Pic} {i j0 : Nat} {mm : List (Pic × Int)} {q : Pic} {k : Int} (hL : L.Nodup) (hj : L[j0]? = some q) (hn : gLook mm q = none) :
    rowD L.length (rowP t L i (mm ++ [(q, k)])) = rowD L.length (fun j => if j = j0 then rowP t L i mm j0 - (k : Rat) / ((Cs.wt t : Int) : Rat) else rowP t L i mm j) := by
  refine rowD_congr fun j hjl => ?_
  unfold rowP
  rw [List.getElem?_eq_getElem hjl, hj]
  dsimp only
  rw [look_snoc hn]
  by_cases h : j = j0
  · subst h
    rw [List.getElem?_eq_getElem hjl] at hj
    cases hj
    rw [if_pos rfl, if_pos rfl, hn]
    show _ = _ - ((0 : Int) : Rat) / _ - _
    rw [Rat.intCast_zero]
    grind
  · have hne : ¬ L[j] = q := by
      intro z
      obtain ⟨h3, h4⟩ := List.getElem?_eq_some_iff.mp hj
      rw [← h4] at z
      exact h ((List.getElem_inj hL).mp z)
    simp only [if_neg h, if_neg hne]
theorem rowP_at {t : Told} {L : List Pic} {i j0 : Nat} {mm : List (Pic × Int)} {q : Pic} (hj : L[j0]? = some q) (hn : gLook mm q = none) : rowP t L i mm j0 = if i = j0 then 1 else 0 := by
  unfold rowP
  rw [hj]
  dsimp only
  rw [hn]
  show _ - ((0 : Int) : Rat) / _ = _
  rw [Rat.intCast_zero]
  grind
theorem rowP_all {t : Told} {L : List Pic} {i : Nat} {p : Pic} (hi : L[i]? = some p) : rowD L.length (rowP t L i (stepA t p 1 [])) = rowD L.length (Cs.mw t act L i) := by
  refine rowD_congr fun j hj => ?_
  have e := List.getElem?_eq_getElem hj
  rw [mw_row hi e]
  unfold rowP
  rw [e]
  rfl
theorem bd01 (i j : Nat) : Bd 2000 (if i = j then 1 else 0) := by
  have h : 1 < 2 ^ 2000 := Nat.one_lt_two_pow (by decide)
  split
  · exact ⟨h, h⟩
  · exact ⟨Nat.lt_trans Nat.zero_lt_one h, h⟩
theorem rowD_set {m j0 : Nat} {f : Nat → Rat} {y : Rat} : (rowD m f).set j0 (frD y) = rowD m (fun j => if j = j0 then y else f j) := by
  refine List.ext_getElem? fun j => ?_
  rw [List.getElem?_set]
  by_cases hj : j < m
  · rw [rowD_at _ hj, rowD_at _ hj]
    by_cases h : j0 = j
    · subst h; rw [if_pos rfl, rowD_len, if_pos hj, if_pos rfl]
    · rw [if_neg h, if_neg (Ne.symm h)]
  · have h1 : (rowD m (fun j => if j = j0 then y else f j))[j]? = none := List.getElem?_eq_none (by rw [rowD_len]; omega)
    have h2 : (rowD m f)[j]? = none := List.getElem?_eq_none (by rw [rowD_len]; omega)
    rw [h1, h2]
    by_cases h : j0 = j
    · subst h; rw [if_pos rfl, rowD_len, if_neg hj]
    · rw [if_neg h]
theorem rowD_rep (m : Nat) (y : Rat) : rowD m (fun _ => y) = List.replicate m (frD y) := by unfold rowD; rw [List.map_const']; simp
/-- what the values of a turn are -/
theorem stepA_val {t : Told} {r c : Nat} {p : Pic} (ok : TOk r c t) (hp : Shp r c p) {x : Pic × Int} (hx : x ∈ stepA t p 1 []) : 0 ≤ x.2 ∧ x.2 ≤ 16 := by
  have nn : NN (stepA t p 1 []) := NN.stepA (by decide) ok.pos (fun x hx => by simp at hx)
  have h1 := nn.le x hx
  have h2 := tot_stepA (r := r) (c := c) hp 1 t (f := []) ⟨by simp, by simp⟩
  have h3 : tot ([] : List (Pic × Int)) = 0 := by simp [tot]
  have := ok.sum
  exact ⟨nn x hx, by omega⟩
end Cz

set_option Elab.async false
set_option linter.all false
set_option maxRecDepth 100000
set_option maxHeartbeats 4000000

namespace Cz
open PySem L2
local macro_rules | `(tactic| infer_instance) => `(tactic| with_reducible first
  | refine rd_seq ?_ | refine rd_cons ?_ | refine rd_nil ?_ | refine rd_c ?_ | refine rd_op ?_ | (refine rd_var (v := ?_) ?_ ?_; rotate_left 1; (with_unfolding_all rfl)) | refine rd_un ?_ | refine rd_call ?_ | refine rd_cb ?_ | refine rd_I0 ?_ | refine rd_test ?_ | refine rd_tB ?_ | refine rd_k ?_
  | refine rd_not ?_ | refine rd_and ?_ | refine rd_or ?_ | refine rd_andV ?_ | refine rd_orV ?_ | refine rd_notV ?_ | refine rd_ife ?_ | refine rd_chain ?_ | refine rd_tup ?_ | refine rd_lst ?_ | refine rd_bm0 ?_ | refine rd_bm ?_ | refine rd_sl ?_ | refine rd_nopart ?_ | refine rd_part ?_ | refine rd_i ?_
  | refine rd_next ?_ | refine rd_cont ?_ | refine rd_drop ?_ | refine rd_ret ?_ | refine rd_retN ?_ | refine rd_if ?_ | refine rd_asg ?_ | refine rd_gname ?_ | refine rd_par ?_ | refine rd_par3 ?_ | refine rd_v2 ?_ | refine rd_v3 ?_ | refine rd_gnil ?_ | refine rd_for ?_ | refine rd_lc ?_ | refine rd_yes ?_ | refine rd_iT ?_ | refine rd_iL ?_ | refine rd_iR1 ?_ | refine rd_iR2 ?_ | refine rd_iS ?_ | refine rd_dput ?_ | refine rd_din ?_ | refine rd_dnin ?_ | refine rd_dget ?_ | refine rd_dget2 ?_ | refine rd_dnewK ?_ | refine rd_dnewT ?_ | refine rd_augS ?_ | refine rd_gsub ?_ | refine rd_body ?_ | refine rd_valsT ?_ | refine rd_itemsT ?_ | refine rd_frz ?_ | refine rd_keys ?_ | refine rd_rev ?_ | (refine rd_ifT ?_ ?_; (with_unfolding_all rfl)) | (refine rd_ifF ?_ ?_; (with_unfolding_all rfl)))

theorem dc_it {J : It} {n : Nat} {G : Hp → Prop} {Y : Nat → Hp → V → Hp → Prop} (w : Walk J n G Y) {g : TG} {tt : TT} {tk tv : TE} {vs : List Nat} {σ : St} {H1 : Hp} {D : Addr} {Qd : Hp → Prop} (Pv : Nat → Hp → Prop) (h0 : Pv 0 (upd H1 D (.dT []))) (hG : ∀ i H, i ≤ n → Pv i H → G H)
    (hs : ∀ i x H H', i < n → Pv i H → Y i H x H' → g x (wipe σ vs) H' fun σ2 H2 => wipe σ2 vs = wipe σ vs ∧ tt σ2 H2 fun b H3 =>
      if b = true then tk σ2 H3 fun y H4 => tv σ2 H4 fun z H5 => ∃ kvs k b, y = .ref b ∧ H5 b = some (.tup (k.map kV)) ∧ H5 D = some (.dT kvs) ∧ kvs.length < sizeLine ∧ Pv (i + 1) (upd H5 D (.dT (putK kvs k z))) else Pv (i + 1) H3) (hd : ∀ H, Pv n H → Qd H) :
    ∃ W : Nat → Nat → Hp → Prop, (∃ m, W 0 m (upd H1 D (.dT []))) ∧ ∀ i m H, W i m H →
      (J.stop i H ∧ Qd H) ∨ (J.go i H ∧ ∃ Nx : Hp → Prop, (∀ H', Nx H' → ∃ m', m' < m ∧ W (i + 1) m' H') ∧ ∀ x H', J.yld i H x H' → g x (wipe σ vs) H' fun σ2 H2 => wipe σ2 vs = wipe σ vs ∧ tt σ2 H2 fun b H3 =>
        if b = true then tk σ2 H3 fun y H4 => tv σ2 H4 fun z H5 => ∃ kvs k b, y = .ref b ∧ H5 b = some (.tup (k.map kV)) ∧ H5 D = some (.dT kvs) ∧ kvs.length < sizeLine ∧ Nx (upd H5 D (.dT (putK kvs k z))) else Nx H3) := by
  refine ⟨fun i m H => m = n - i ∧ i ≤ n ∧ Pv i H, ⟨n, by simp, Nat.zero_le _, h0⟩, ?_⟩
  rintro i m H ⟨rfl, hi, p⟩
  have q := hG i H hi p
  by_cases hlt : i < n
  · refine .inr ⟨w.goes i H hlt q, Pv (i + 1), fun H' p' => ⟨n - (i + 1), by omega, rfl, hlt, p'⟩, fun x H' y => hs i x H H' hlt p (w.yields i H x H' hlt q y)⟩
  · have e : i = n := by omega
    subst e
    exact .inl ⟨w.stops H q, hd H p⟩
theorem rd_enum {K : PySem.W.Frag} {ta : TA} {σ : St} {H : Hp} {R : It → Hp → Prop} (q : ta σ H fun vs H1 => ∃ a xs, vs = [.ref a] ∧ SqL K H1 a xs ∧ R (Ite K a) H1) : iEnum K ta σ H R := q
theorem seenP_at {l : List Pic} {i : Nat} {k : List Key} {v : V} (h : (seenP l)[i]? = some (k, v)) : ∃ p, l[i]? = some p ∧ k = keyP p := by
  unfold seenP at h
  rw [List.getElem?_map] at h
  cases e : l[i]? with
  | none => rw [e] at h; cases h
  | some x => rw [e] at h; cases h; exact ⟨x, rfl, rfl⟩
theorem keep_pics (l : List Pic) (f : Pic → Bool) : ((List.range l.length).filterMap fun i => match l[i]? with | some p => if f p = true then some (encP p) else none | none => none) = (l.filter f).map encP := by
  have e : (List.range l.length).filterMap (fun i => match l[i]? with | some n => if f n = true then some (encP n) else none | none => none) = l.filterMap fun n => if f n = true then some (encP n) else none := by
    induction l with
    | nil => rfl
    | cons n us ih =>
      rw [List.length_cons, List.range_succ_eq_map, List.filterMap_cons, List.filterMap_map, List.filterMap_cons]
      simp only [List.getElem?_cons_zero]
      have : ((fun i => match (n :: us)[i]? with | some n => if f n = true then some (encP n) else none | none => none) ∘ Nat.succ) = fun i => match us[i]? with | some n => if f n = true then some (encP n) else none | none => none := by
        funext i
        simp
      rw [this, ih]
  rw [e]
  clear e
  induction l with
  | nil => rfl
  | cons n us ih =>
    rw [List.filterMap_cons, List.filter_cons]
    cases f n <;> simp [ih]
theorem fr01 : frD 0 = .tuple [.int 0, .int 1] := by unfold frD; rfl
theorem fr11 : frD 1 = .tuple [.int 1, .int 1] := by unfold frD; rfl
theorem rd_repR {H : Hp} {l : Addr} {x : V} {n : Nat} {Q : VK} (h : H l = some (.lst [x])) (hn : n ≤ 100) (q : ∀ p, H p = none → Q (.ref p) (upd H p (.lst (List.replicate n x)))) : rRep (.ref l) (.int n) H Q := by
  refine ⟨l, n, [x], rfl, rfl, h, by omega, by omega, Nat.le_trans (show [x].length * ((n : Int)).toNat ≤ 100 by simp; omega) (by decide), fun p hp => ?_⟩
  have e : (List.replicate ((n : Int)).toNat [x]).flatten = List.replicate n x := by
    rw [show ((n : Int)).toNat = n by omega]
    exact List.flatten_replicate_singleton
  rw [e]
  exact q p hp
theorem ls_rep {H : Hp} {p : Addr} {x : V} {y : Rat} {n : Nat} (hp : H p = none) (hx : Dt H x (frD y)) : Ls (upd H p (.lst (List.replicate n x))) (.ref p) (rowD n fun _ => y) := by
  rw [rowD_rep]
  exact ⟨p, _, rfl, upd_same, (Da.rep n hx).ups (same_upd hp)⟩
/-- a store into a list of fractions -/
theorem rd_setF {H : Hp} {p : Addr} {m j : Nat} {f : Nat → Rat} {v : V} {y : Rat} {R : Hp → Prop} (h : Ls H (.ref p) (rowD m f)) (hv : Dt H v (frD y)) (hj : j < m) (q : ∀ H', (∀ b o, b ≠ p → H b = some o → H' b = some o) → Tk H H' → Ls H' (.ref p) (rowD m fun k => if k = j then y else f k) → R H') : rSetL (.ref p) (.int j) v H R := by
  obtain ⟨p', zs, e, h1, h2⟩ := h
  cases e
  refine rd_set0 (j := j) h1 (by rw [h2.len, rowD_len]; exact hj) (q _ (fun b o nb e => by rw [upd_ne nb]; exact e) (.lst h1) ⟨p, _, rfl, upd_same, ?_⟩)
  rw [← rowD_set]
  exact (h2.set j hv).up (.lst h1)
abbrev s_mean_wait : Stmt := topS 46
abbrev n_mean_wait : List Str := ["rows", "columns", "told", "start", "goal", "some", "spots", "lines", "whole", "here", "line", "there", "many", "at"]
theorem sc_mean_wait : FnScope n_mean_wait ["rows", "columns", "told", "start", "goal"] (defScope s_mean_wait) := ⟨rfl, rfl, rfl, by decide +kernel, rfl, by decide +kernel, by decide +kernel⟩

def sp_mean_wait (K : PySem.W.Frag) : Sp := fun vs H Q E => ∃ (r c : Nat) (t : Told) (s g : Pic) (v vs0 vg : V), vs = [.int r, .int c, v, vs0, vg] ∧ (r, c) ∈ boards ∧ Ft H v (toldD t) ∧ TOk r c t ∧ Dt H vs0 (encP s) ∧ Shp r c s ∧ Dt H vg (encP g) ∧ Shp r c g ∧ (s = g → retD H (frD 0) Q) ∧ (s ≠ g → sure t g s = false → retN H Q) ∧
  (s ≠ g → sure t g s = true → ∀ v' H' L, Same H H' → Sl t g s r c L → Dt H' v' (frD (Cs.mean t act L s)) → Q v' H')
theorem ok_mean_wait {P : Program} {w : World} {K : PySem.W.Frag} {mg : Str → Option Value} {base : Heap} {f : Addr} {fd : FuncData} (F : Fun K "mean_wait" "mean_wait" s_mean_wait f fd) (Z : Bl mg) (C : Ct mg) (D_before : Dn P w K mg base "before" ["told", "start", "goal"] 3 (sp_before K)) (D_lowered : Dn P w K mg base "lowered" ["above", "low"] 2 (sp_lowered K)) (D_minus : Dn P w K mg base "minus" ["one", "other"] 3 (sp_minus K)) (D_need_chain : Dn P w K mg base "need_chain" ["rows", "columns", "told"] 7 (sp_need_chain K)) (D_need_picture : Dn P w K mg base "need_picture" ["rows", "columns", "value"] 2 (sp_need_picture K)) (D_solved : Dn P w K mg base "solved" ["rows", "sides"] 4 (sp_solved K)) (D_stepped : Dn P w K mg base "stepped" ["told", "now"] 3 (sp_stepped K)) (D_surely : Dn P w K mg base "surely" ["told", "start", "goal"] 4 (sp_surely K)) (D_weight_of : Dn P w K mg base "weight_of" ["told"] 1 (sp_weight_of K)) : FnOk P w K mg base CX0 8 f fd ["rows", "columns", "told", "start", "goal"] (sp_mean_wait K) := by
  refine F.ok (k := 7) sc_mean_wait (fun vs H Q E h => ?_) (fun cdv A outer s H vs Q E hr h => ?_)
  · obtain ⟨r, c, t, s, g, v, vs0, vg, rfl, hb, ht, ok, hs, hp, hg, hpg, q1, q2, q3⟩ := h
    rfl
  · refine ⟨_, (pss_cons (ps_expr (pe_fn D_need_chain hr (pa_cons (pv 0) (pa_cons (pv 1) (pa_cons (pv 2) pa_nil)))))
    (pss_cons (ps_expr (pe_fn D_need_picture hr (pa_cons (pv 0) (pa_cons (pv 1) (pa_cons (pv 3) pa_nil)))))
    (pss_cons (ps_expr (pe_fn D_need_picture hr (pa_cons (pv 0) (pa_cons (pv 1) (pa_cons (pv 4) pa_nil)))))
    (pss_cons (ps_if (pt_cmpR (kEqD (K := K) rfl hr.units) (pv 3) (pv 4) (nomark _))
      (pss_one (ps_ret (pe_tup (pa_cons pe_int (pa_cons pe_int pa_nil)))))
      pss_nil)
    (pss_cons (ps_if (pt_not (pt_val (pe_fn D_surely hr (pa_cons (pv 2) (pa_cons (pv 3) (pa_cons (pv 4) pa_nil))))))
      (pss_one (ps_ret pe_non))
      pss_nil)
    (pss_cons (ps_set (i := 5) sc_mean_wait.nd rfl (.inl rfl) (pe_op op_cat (pe_lst (pa_cons (pv 3) pa_nil)) (pe_callB (cr_srtL (enc := encP) hr.units) (by rfl) Z.srt bt_sorted (pa_cons (pe_lc (own := [("here", 9)]) rfl sc_mean_wait.nd (pi_keys (pe_frz (pe_fn D_before hr (pa_cons (pv 2) (pa_cons (pv 3) (pa_cons (pv 4) pa_nil)))))) (blkOk_by (N := n_mean_wait) (sc := (defScope s_mean_wait)) (by decide +kernel)) (fun _ _ _ _ _ => (pg_name (i := 9) sc_mean_wait.nd rfl (.inl rfl) (.inr rfl))) (fun _ _ _ _ _ => (pts_one (pt_cmpR (kNeD (K := K) rfl hr.units) (pv 9) (pv 3) (nomark _)))) (fun _ _ _ _ _ => (pv 9))) pa_nil))))
    (pss_cons (ps_par3 (i := 6) (j := 7) (l := 8) rfl sc_mean_wait.nd rfl rfl rfl (by decide) (by decide) (by decide) rfl rfl rfl (pa_cons (pe_dcT (own_ := [("at", 13), ("here", 9)]) (hu_of hr) rfl sc_mean_wait.nd (pi_enum (by rfl) Z.enum (pa_cons (pv 5) pa_nil)) (blkOk_by (N := n_mean_wait) (sc := (defScope s_mean_wait)) (by decide +kernel)) (fun _ _ _ _ _ => (kTup (K := K) 2 rfl rfl (pgs_cons (pg_name (i := 13) sc_mean_wait.nd rfl (.inl rfl) (.inr rfl)) (pgs_cons (pg_name (i := 9) sc_mean_wait.nd rfl (.inl rfl) (.inr rfl)) pgs_nil)))) (fun _ _ _ _ _ => pts_nil) (fun _ _ _ _ _ => (pv 9)) (fun _ _ _ _ _ => (pv 13))) (pa_cons (pe_lst pa_nil) (pa_cons (pe_fn D_weight_of hr (pa_cons (pv 2) pa_nil)) pa_nil))) (by rfl))
    (pss_cons (ps_for PassesOwn.never rfl (pi_list (pv 5)) (pg_name (i := 9) sc_mean_wait.nd rfl (.inl rfl))
      (pss_cons (ps_set (i := 10) sc_mean_wait.nd rfl (.inl rfl) (pe_op op_rep (pe_lst (pa_cons (pe_tup (pa_cons pe_int (pa_cons pe_int pa_nil))) pa_nil)) (pe_callB (kLen (K := K) rfl) (by rfl) Z.len bt_len (pa_cons (pv 5) pa_nil))))
      (pss_cons (ps_asg (pe_tup (pa_cons pe_int (pa_cons pe_int pa_nil))) (pg_sub (pv 10) (pe_dget (hu_of hr) (pv 6) (pv 9) (fun _ _ => rfl)) set_list))
      (pss_cons (ps_for PassesOwn.never rfl (pi_itemsT (pe_frz (pe_fn D_stepped hr (pa_cons (pv 2) (pa_cons (pe_disp1 (hu_of hr) (pv 9) pe_int) pa_nil))))) (pg_tup rfl (pgs_cons (pg_name (i := 11) sc_mean_wait.nd rfl (.inl rfl)) (pgs_cons (pg_name (i := 12) sc_mean_wait.nd rfl (.inl rfl)) pgs_nil)))
        (pss_one (ps_if (pt_cmpR (kNeD (K := K) rfl hr.units) (pv 11) (pv 4) (nomark _))
          (pss_one (ps_asg (pe_fn D_minus hr (pa_cons (pe_ix (kIxL (K := K) rfl) (pv 10) (pe_dget (hu_of hr) (pv 6) (pv 11) (fun _ _ => rfl)) (fun _ _ => rfl)) (pa_cons (pe_fn D_lowered hr (pa_cons (pv 12) (pa_cons (pv 8) pa_nil))) pa_nil))) (pg_sub (pv 10) (pe_dget (hu_of hr) (pv 6) (pv 11) (fun _ _ => rfl)) set_list)))
          pss_nil)))
      (pss_one (ps_expr (pe_bm PySem.F.plainAttrs_list PySem.F.slot_list_append PySem.F.type_list_append mt_append (pv 7) (pa_cons (pv 10) pa_nil))))))))
    (pss_one (ps_ret (pe_ix (kIxL (K := K) rfl) (pe_fn D_solved hr (pa_cons (pv 7) (pa_cons (pe_op op_rep (pe_lst (pa_cons (pe_tup (pa_cons pe_int (pa_cons pe_int pa_nil))) pa_nil)) (pe_callB (kLen (K := K) rfl) (by rfl) Z.len bt_len (pa_cons (pv 5) pa_nil))) pa_nil))) pe_int (fun _ _ => rfl)))))))))))), ?_⟩
    clear hr Z C D_before D_lowered D_minus D_need_chain D_need_picture D_solved D_stepped D_surely D_weight_of
    obtain ⟨r, c, t, s, g, v, vs0, vg, rfl, hb, ht, ok, hs, hp, hg, hpg, q1, q2, q3⟩ := h
    obtain ⟨b1, b2, b3, b4, b5⟩ := board_le hb
    have W0 : 0 < Cs.wt t := by
      obtain ⟨x, hx⟩ := List.exists_mem_of_ne_nil t ok.ne
      have := wt_mem ok.pos hx
      have := ok.pos x hx
      omega
    have W16 := ok.sum
    ((try dsimp only); repeat infer_instance)
    refine ⟨r, c, t, v, rfl, b1, by omega, b3, by omega, b5, ht, ok, fun H1 s1 => ?_⟩
    ((try dsimp only); repeat infer_instance)
    refine ⟨r, c, s, vs0, rfl, hs.ups s1, hp, fun H2 s2 => ?_⟩
    ((try dsimp only); repeat infer_instance)
    refine ⟨r, c, g, vg, rfl, (hg.ups s1).ups s2, hpg, fun H3 s3 => ?_⟩
    have s13 := (s1.trans s2).trans s3
    ((try dsimp only); repeat infer_instance)
    refine rd_eqD (hs.ups s13) (hg.ups s13) (sh_pic _) (sh_pic _) ?_
    rw [eq_pic]
    ((try dsimp only); repeat infer_instance)
    by_cases hsg : s = g
    · refine rd_ifT (decide_eq_true hsg) ?_
      ((try dsimp only); repeat infer_instance)
      refine rd_newT2 fun p hp0 d0 => ?_
      ((try dsimp only); repeat infer_instance)
      rw [← fr01] at d0
      exact q1 hsg _ _ (s13.trans (same_upd hp0)) d0
    refine rd_ifF (decide_eq_false hsg) ?_
    ((try dsimp only); repeat infer_instance)
    refine ⟨r, c, t, s, g, v, vs0, vg, rfl, hb, ht.ups s13, ok, hs.ups s13, hp, hg.ups s13, fun H4 s4 => ?_⟩
    have s14 := s13.trans s4
    ((try dsimp only); repeat infer_instance)
    cases hsure : sure t g s with
    | false =>
      refine rd_ifT rfl ?_
      ((try dsimp only); repeat infer_instance)
      exact q2 hsg hsure _ s14
    | true =>
      refine rd_ifF rfl ?_
      have q := q3 hsg hsure
      clear q1 q2 q3 s13 s1 s2 s3 s4
      ((try dsimp only); repeat infer_instance)
      refine ⟨by show 1 ≤ _; decide, fun o1 ho1 => ?_⟩
      have S5 := s14.trans (same_upd (o := .lst [vs0]) ho1)
      have eO : upd H4 o1 (.lst [vs0]) o1 = some (.lst [vs0]) := upd_same
      generalize upd H4 o1 (.lst [vs0]) = H5 at *
      ((try dsimp only); repeat infer_instance)
      refine ⟨r, c, t, s, g, v, vs0, vg, rfl, hb, ht.ups S5, ok, hs.ups S5, hp, hg.ups S5, fun F H6 l s6 nF eF nl hl => ?_⟩
      ((try dsimp only); repeat infer_instance)
      refine ⟨F, _, rfl, eF, True.intro, fun od => ?_⟩
      have nF0 := none_of S5 nF
      have S6 := upd_keep (o := .frz od (.dT (seenP l))) (S5.trans s6) nF0
      have eF : upd H6 F (.frz od (.dT (seenP l))) F = some (.frz od (.dT (seenP l))) := upd_same
      have eO : upd H6 F (.frz od (.dT (seenP l))) o1 = some (.lst [vs0]) := by
        rw [upd_ne (fun z => by subst z; rw [eO] at nF; cases nF)]
        exact s6 _ _ eO
      generalize upd H6 F (.frz od (.dT (seenP l))) = H7 at *
      clear s6 S5 s14 nF ho1
      refine ⟨F, od, rfl, .inr ⟨_, eF, ?_⟩⟩
      have shl : ∀ p ∈ l, Shp r c p := fun p hp' => cl_shp hp (fun p h q hq => sucB_shp h q hq) ((hl p).mp hp')
      have fewl := few16 hb nl shl
      have ll : (seenP l).length = l.length := by unfold seenP; rw [List.length_map]
      refine lcW walk_keysT (fun H9 s9 => s9 _ _ eF) (fun i => match l[i]? with | some p => if decide (p ≠ s) = true then some (encP p) else none | none => none) (fun i x H8 H9 hi s8 hY => ?_) (by omega) (fun Dd H8 hn8 s8 hL => ?_)
      · obtain ⟨rfl, k, vv, b, hk, rfl, hbk⟩ := hY
        obtain ⟨p, hpl, rfl⟩ := seenP_at hk
        refine ⟨sameR _, fun R Y hR hY2 => ?_⟩
        have hb9 : Dt H9 (.ref b) (encP p) := by have := dt_key hbk; rwa [keyD_P] at this
        ((try dsimp only); repeat infer_instance)
        refine ⟨rfl, ?_⟩
        ((try dsimp only); repeat infer_instance)
        refine rd_neD hb9 ((hs.ups S6).ups s8) (sh_pic _) (sh_pic _) ?_
        rw [eq_pic]
        refine rd_k ?_
        rw [hpl] at hR hY2
        dsimp only at hR hY2
        by_cases e : p = s
        · rw [if_neg (by simp [e])]
          exact hR (if_neg (by simp [e])) _ (sameR _)
        · rw [if_pos (by simp [e])]
          ((try dsimp only); repeat infer_instance)
          exact hY2 _ (if_pos (by simp [e])) _ _ (sameR _) hb9
      · rw [ll, keep_pics l fun p => decide (p ≠ s)] at hL
        have S8 := S6.trans s8
        have eO := s8 _ _ eO
        clear s8 eF hn8
        ((try dsimp only); repeat infer_instance)
        refine ⟨_, _, rfl, hL, srtb_pics _ (Nat.le_trans (List.length_filter_le _ _) (by omega)), fun p9 H9 hp9 s9 hL9 => ?_⟩
        have hperm := List.mergeSort_perm (l.filter fun p => decide (p ≠ s)) (PySem.W.dataLe false encP)
        have SL := Sl.of (r := r) (c := c) nl hl hperm
        generalize (l.filter fun p => decide (p ≠ s)).mergeSort (PySem.W.dataLe false encP) = l' at *
        have fewL := SL.few hb hp hpg hsg
        have S9 := S8.trans s9
        have eO := s9 _ _ eO
        obtain ⟨p9', ys, e, g1, g2⟩ := hL9
        cases e
        ((try dsimp only); repeat infer_instance)
        refine rd_cat eO g1 (by rw [g2.len, List.length_map]; simp at fewL ⊢; omega) fun A hA => ?_
        have PA : PL (upd H9 A (.lst ([vs0] ++ ys))) A (s :: l') := by
          have k := same_upd (o := .lst ([vs0] ++ ys)) hA
          exact ⟨_, upd_same, .cons ((hs.ups S9).ups k) (g2.ups k)⟩
        have S10 := S9.trans (same_upd (o := .lst ([vs0] ++ ys)) hA)
        generalize upd H9 A (.lst ([vs0] ++ ys)) = H10 at *
        generalize hLL : s :: l' = L at *
        clear eO S9 S8 S6 hL hperm hLL g1 g2 hA hp9 shl fewl ll nl hl s9
        ((try dsimp only); repeat infer_instance)
        refine rd_enum ?_
        ((try dsimp only); repeat infer_instance)
        obtain ⟨xs, hA, hxs⟩ := PA
        refine ⟨A, xs, rfl, SqL.of hA, ?_⟩
        intro Sp hSp
        have lx : xs.length = L.length := by rw [hxs.len, List.length_map]
        refine dc_it (Qd := _) walk_enum (fun i H' => Same H10 H' ∧ H' Sp = some (.dT (gV V.int (spotsOf (L.take i))))) ⟨same_upd hSp, upd_same⟩ (fun i H' _ hP => SqL.of (hP.1 _ _ hA)) (fun i x H1 H2 hi hP hY => ?_) (fun H1 hP => ?_)
        · obtain ⟨s1, e1⟩ := hP
          obtain ⟨T, x1, y1, rfl, hT, rfl, ex, ey⟩ := hY
          cases ex
          dsimp only at ey
          obtain ⟨d, ed, hd⟩ := hxs.got ey
          rw [List.getElem?_map] at ed
          cases hLi : L[i]? with
          | none => rw [hLi] at ed; cases ed
          | some p =>
            rw [hLi] at ed
            cases ed
            have sT := same_upd (o := .tup [.int (i : Nat), y1]) hT
            have eT : upd H1 T (.tup [.int (i : Nat), y1]) T = some (.tup [.int (i : Nat), y1]) := upd_same
            have e1 := sT _ _ e1
            have hd := (hd.ups s1).ups sT
            have s2 := s1.trans sT
            generalize upd H1 T (.tup [.int (i : Nat), y1]) = H2 at *
            obtain ⟨b, rfl, hb⟩ := dt_key_inv (H := H2) (v := y1) (k := keyP p) (by rw [keyD_P]; exact hd)
            refine rd_tupP eT rfl ?_
            refine rd_gc ?_
            ((try dsimp only); repeat infer_instance)
            refine rd_gc ?_
            ((try dsimp only); repeat infer_instance)
            refine ⟨rfl, ?_⟩
            ((try dsimp only); repeat infer_instance)
            refine ⟨_, keyP p, b, rfl, hb, e1, by rw [gV_len]; unfold spotsOf; rw [List.length_map, List.length_zipIdx, List.length_take]; exact Nat.lt_of_le_of_lt (show _ ≤ 100 by omega) (by decide), fun b' o e => by rw [upd_ne (ne_of_none e hSp)]; exact s2 _ _ e, ?_⟩
            rw [upd_same, gV_put, spots_take hLi]
            have hnew : p ∉ (spotsOf (L.take i)).map (·.1) := by
              rw [spots_keys]
              intro z
              obtain ⟨k, hk, e⟩ := List.mem_take_iff_getElem.mp z
              obtain ⟨h3, h4⟩ := List.getElem?_eq_some_iff.mp hLi
              rw [← h4] at e
              have := (List.getElem_inj SL.nd).mp e
              omega
            rw [gAdd_new hnew]
        · obtain ⟨s1, e1⟩ := hP
          rw [lx, List.take_length] at e1
          have S11 := S10.trans s1
          have hA := s1 _ _ hA
          have hxs := hxs.ups s1
          clear s1 S10 hSp
          ((try dsimp only); repeat infer_instance)
          refine ⟨by show 0 ≤ _; decide, fun Lz hLz => ?_⟩
          have k := same_upd (o := .lst []) hLz
          have nLz := none_of S11 hLz
          have S12 := S11.trans k
          have hA := k _ _ hA
          have hxs := hxs.ups k
          have e1 := k _ _ e1
          have eL : upd H1 Lz (.lst []) Lz = some (.lst []) := upd_same
          have hAL : A ≠ Lz := fun z => by subst z; rw [hA] at eL; obtain ⟨h⟩ := eL; have := SL.pos; simp at lx; omega
          have hSL : Sp ≠ Lz := fun z => by subst z; rw [e1] at eL; cases eL
          generalize upd H1 Lz (.lst []) = H12 at *
          clear k hLz S11
          ((try dsimp only); repeat infer_instance)
          refine ⟨t, v, rfl, ht.ups S12, by have := ok.few; omega, fun H13 s13 => ?_⟩
          have S13 := S12.trans s13
          have hA := s13 _ _ hA
          have hxs := hxs.ups s13
          have e1 := s13 _ _ e1
          have eL := s13 _ _ eL
          clear s13 S12
          ((try dsimp only); repeat infer_instance)
          refine ⟨A, rfl, ⟨_, SqL.of hA⟩, ?_⟩
          have keepF : ∀ {H5 H6 : Hp} {q : Addr}, Same H H5 → H q = none → (∀ b o, b ≠ q → H5 b = some o → H6 b = some o) → Same H H6 := fun a n b x o e => b x o (ne_of_none e n) (a x o e)
          have St := SL.sts ok hsg hsure
          refine for_list (K := K) (a := A) (xs := xs) (fun i σ' H' => ∃ x9 x10 x11 x12 cs, σ' = [some (.int r), some (.int c), some v, some vs0, some vg, some (.ref A), some (.ref Sp), some (.ref Lz), some (.int (Cs.wt t)), x9, x10, x11, x12, none] ∧ (∀ b o, b ≠ Lz → H13 b = some o → H' b = some o) ∧ Tk H13 H' ∧ H' Lz = some (.lst (cs.map V.ref)) ∧ cs.length = i ∧ ∀ k b, cs[k]? = some b → b ≠ Lz ∧ Ls H' (.ref b) (rowD L.length (Cs.mw t act L k))) ⟨none, none, none, none, [], rfl, fun _ _ _ h => h, Tk.refl _, eL, rfl, fun k b e => by simp at e⟩ (fun i σ' H' _ hP => by obtain ⟨_, _, _, _, _, _, k, _⟩ := hP; exact SqL.of (k _ _ hAL hA)) (fun i x σ' H' hi hP => ?_) (fun σ' H' hP => ?_)
          · obtain ⟨x9, x10, x11, x12, cs, rfl, k1, k2, k3, k4, k5⟩ := hP
            obtain ⟨d, ed, hd⟩ := hxs.got hi
            rw [List.getElem?_map] at ed
            cases hLi : L[i]? with
            | none => rw [hLi] at ed; cases ed
            | some p =>
              rw [hLi] at ed
              cases ed
              have hil := (List.getElem?_eq_some_iff.mp hLi).1
              have hpL := List.mem_of_getElem? hLi
              have hpS := SL.shp hp p hpL
              have S0 := keepF S13 nLz k1
              have hd := hd.up k2
              have hA' := k1 _ _ hAL hA
              have hS' := k1 _ _ hSL e1
              obtain ⟨bx, rfl, hbx⟩ := dt_key_inv (H := H') (v := x) (k := keyP p) (by rw [keyD_P]; exact hd)
              ((try dsimp only); repeat infer_instance)
              refine rd_newT2 fun p1 hp1 d1 => ?_
              rw [← fr01] at d1
              have T1 := same_upd (o := .tup [.int 0, .int 1]) hp1
              generalize upd H' p1 (.tup [.int 0, .int 1]) = G1 at *
              ((try dsimp only); repeat infer_instance)
              refine ⟨by show 1 ≤ _; decide, fun p2 hp2 => ?_⟩
              have T2 := T1.trans (same_upd (o := .lst [.ref p1]) hp2)
              have d1 := d1.ups (same_upd (o := .lst [.ref p1]) hp2)
              have e2 : upd G1 p2 (.lst [.ref p1]) p2 = some (.lst [.ref p1]) := upd_same
              generalize upd G1 p2 (.lst [.ref p1]) = G2 at *
              ((try dsimp only); repeat infer_instance)
              refine rd_lenLn (SqL.of (T2 _ _ hA')) ?_
              rw [lx]
              refine rd_repR e2 (by omega) fun Ln hLn => ?_
              have ln0 := ls_rep (n := L.length) hLn d1
              have T3 := T2.trans (same_upd (o := .lst (List.replicate L.length (.ref p1))) hLn)
              generalize upd G2 Ln (.lst (List.replicate L.length (.ref p1))) = G3 at *
              have nLn := none_of T2 hLn
              clear hLn e2 d1 hp1 T1 hp2 T2
              ((try dsimp only); repeat infer_instance)
              refine rd_newT2 fun p4 hp4 d4 => ?_
              rw [← fr11] at d4
              have k := same_upd (o := .tup [.int 1, .int 1]) hp4
              have T4 := T3.trans k
              have ln0 := ln0.ups k
              generalize upd G3 p4 (.tup [.int 1, .int 1]) = G4 at *
              clear k T3 hp4
              ((try dsimp only); repeat infer_instance)
              refine ⟨Sp, .int (i : Nat), rfl, ?_, ?_⟩
              · have := DGet.t (T4 _ _ hS') (T4 _ _ hbx)
                rw [gV_look, spots_look SL.nd hLi] at this
                exact this
              refine rd_setF ln0 d4 hil fun G5 k5' t5 ln1 => ?_
              have keepG : ∀ {H5 H6 : Hp}, Same H' H5 → (∀ b o, b ≠ Ln → H5 b = some o → H6 b = some o) → Same H' H6 := fun a b x o e => b x o (ne_of_none e nLn) (a x o e)
              have T5 := keepG T4 k5'
              clear ln0 d4 T4 k5' t5
              rw [← rowP_nil (t := t)] at ln1
              ((try dsimp only); repeat infer_instance)
              refine rd_disp1 fun D hD => ?_
              ((try dsimp only); repeat infer_instance)
              refine ⟨upd_same, keyP p, bx, rfl, same_upd hD _ _ (T5 _ _ hbx), ?_⟩
              have nD := none_of T5 hD
              have hLD : Ln ≠ D := fun z => by subst z; obtain ⟨a, zs, e, g, _⟩ := ln1; cases e; rw [hD] at g; cases g
              have T6 : Same H' (upd (upd G5 D (.dT [])) D (.dT [(keyP p, .int 1)])) := upd_keep (upd_keep T5 nD) nD
              have s6 : Same G5 (upd (upd G5 D (.dT [])) D (.dT [(keyP p, .int 1)])) := upd_keep (same_upd hD) hD
              have eD : upd (upd G5 D (.dT [])) D (.dT [(keyP p, .int 1)]) D = some (.dT (gV V.int [(p, 1)])) := upd_same
              have ln1 := ln1.ups s6
              generalize upd (upd G5 D (.dT [])) D (.dT [(keyP p, .int 1)]) = G6 at *
              clear s6 T5 hD
              ((try dsimp only); repeat infer_instance)
              refine ⟨r, c, t, [(p, 1)], v, D, rfl, hb, ht.ups (S0.trans T6), ok, eD, fun x hx => by simp at hx; subst hx; exact hpS, fun x hx => by simp at hx; subst hx; exact Nat.one_lt_two_pow (by decide), fun F2 G7 s7 nF2 eF2 => ?_⟩
              have em : stepM t [(p, 1)] = stepA t p 1 [] := rfl
              rw [em] at eF2
              have M2 : MOk r c (stepA t p 1 []) := MOk.stepA hpS 1 t ⟨by simp, by simp⟩
              have vals := fun x (hx : x ∈ stepA t p 1 []) => stepA_val ok hpS hx
              have keys : ∀ x ∈ stepA t p 1 [], x.1 = g ∨ x.1 ∈ L := fun x hx => by
                rcases stepA_key hx with z | ⟨y, hy, e⟩
                · simp at z
                · rw [e]; exact St.clo p hpL y hy
              have fin := rowP_all (t := t) hLi
              generalize stepA t p 1 [] = m2 at *
              have T7 := T6.trans s7
              have ln1 := ln1.ups s7
              have nF20 := none_of T6 nF2
              have hLF : Ln ≠ F2 := fun z => by subst z; obtain ⟨a, zs, e, g, _⟩ := ln1; cases e; rw [eF2] at g; cases g
              ((try dsimp only); repeat infer_instance)
              refine ⟨F2, _, rfl, eF2, True.intro, fun od2 => ?_⟩
              have T8 := upd_keep (o := .frz od2 (.dT (gV V.int m2))) T7 nF20
              have ln1 : Ls (upd G7 F2 (.frz od2 (.dT (gV V.int m2)))) (.ref Ln) (rowD L.length (rowP t L i [])) := by
                obtain ⟨a, zs, e, g1, g2⟩ := ln1
                cases e
                exact ⟨Ln, zs, rfl, (upd_ne hLF).trans g1, g2.up (.dT eF2)⟩
              have eF2 : upd G7 F2 (.frz od2 (.dT (gV V.int m2))) F2 = some (.frz od2 (.dT (gV V.int m2))) := upd_same
              generalize upd G7 F2 (.frz od2 (.dT (gV V.int m2))) = G8 at *
              clear T7 T6 s7 nF2 eD
              refine ⟨F2, od2, _, rfl, eF2, ?_⟩
              refine for_it walk_itemsT (fun i' σ2 G => ∃ y11 y12, σ2 = [some (.int r), some (.int c), some v, some vs0, some vg, some (.ref A), some (.ref Sp), some (.ref Lz), some (.int (Cs.wt t)), some (.ref bx), some (.ref Ln), y11, y12, none] ∧ (∀ b o, b ≠ Ln → G8 b = some o → G b = some o) ∧ Ls G (.ref Ln) (rowD L.length (rowP t L i (m2.take i')))) ⟨_, _, rfl, fun _ _ _ h => h, ln1⟩ (fun i' σ2 G _ hP => by obtain ⟨_, _, _, k, _⟩ := hP; exact k _ _ (Ne.symm hLF) eF2) (fun i' x' σ2 G G' hi' hP hY => ?_) (fun σ2 G hP => ?_)
              · obtain ⟨y11, y12, rfl, g1, g2⟩ := hP
                obtain ⟨T, kk, vv, b, hk, hbk, rfl, hT, rfl⟩ := hY
                obtain ⟨x', hx', rfl, rfl⟩ := gV_at hk
                obtain ⟨qq, kv⟩ := x'
                have hmx := List.mem_of_getElem? hx'
                obtain ⟨v0, v16⟩ := vals _ hmx
                dsimp only at v0 v16
                have kT := same_upd (o := .tup [.ref b, .int kv]) hT
                have U1 : Same H' (upd G T (.tup [.ref b, .int kv])) := (keepG T8 g1).trans kT
                have g2 := g2.ups kT
                have g1' : ∀ b' o, b' ≠ Ln → G8 b' = some o → upd G T (.tup [.ref b, .int kv]) b' = some o := fun b' o nb e => kT _ _ (g1 b' o nb e)
                have hbk : upd G T (.tup [.ref b, .int kv]) b = some (.tup ((keyP qq).map kV)) := kT _ _ hbk
                have eT : upd G T (.tup [.ref b, .int kv]) T = some (.tup [.ref b, .int kv]) := upd_same
                generalize upd G T (.tup [.ref b, .int kv]) = G9 at *
                clear hT kT
                have hbd : Dt G9 (.ref b) (encP qq) := by have := dt_key hbk; rwa [keyD_P] at this
                have htake : m2.take (i' + 1) = m2.take i' ++ [(qq, kv)] := by rw [List.take_add_one, hx']; rfl
                have hnone : gLook (m2.take i') qq = none := by
                  refine gLook_none fun z => ?_
                  obtain ⟨z1, hz1, hz2⟩ := List.mem_map.mp z
                  obtain ⟨k, hk, e⟩ := List.mem_take_iff_getElem.mp hz1
                  obtain ⟨h3, h4⟩ := List.getElem?_eq_some_iff.mp hx'
                  have nd := M2.nd
                  have q1 : (m2.map (·.1))[k]'(by simp; omega) = (m2.map (·.1))[i']'(by simp; exact h3) := by
                    rw [List.getElem_map, List.getElem_map, e, h4]
                    exact hz2
                  have := (List.getElem_inj nd).mp q1
                  omega
                refine rd_tupP eT rfl ?_
                refine rd_gc ?_
                ((try dsimp only); repeat infer_instance)
                refine rd_gc ?_
                ((try dsimp only); repeat infer_instance)
                refine rd_neD hbd (hg.ups (S0.trans U1)) (sh_pic _) (sh_pic _) ?_
                rw [eq_pic]
                ((try dsimp only); repeat infer_instance)
                by_cases hqg : qq = g
                · refine rd_ifF (by rw [decide_eq_true hqg]; rfl) ?_
                  ((try dsimp only); repeat infer_instance)
                  refine ⟨_, _, rfl, g1', ?_⟩
                  subst hqg
                  rw [htake, rowP_skip St.out hnone]
                  exact g2
                · refine rd_ifT (by rw [decide_eq_false hqg]; rfl) ?_
                  have hqL : qq ∈ L := (keys _ hmx).resolve_left hqg
                  obtain ⟨j0, hj0, ej0⟩ := List.mem_iff_getElem.mp hqL
                  have hj : L[j0]? = some qq := by rw [List.getElem?_eq_getElem hj0, ej0]
                  have spot : ∀ {G9 : Hp}, Same H' G9 → G9 b = some (.tup ((keyP qq).map kV)) → DGet G9 Sp (.ref b) (some (.int (j0 : Nat))) := fun {G9} U hbk => by
                    have := DGet.t (U _ _ hS') hbk
                    rw [gV_look, spots_look SL.nd hj] at this
                    exact this
                  have rat := rowP_at (t := t) (i := i) hj hnone
                  ((try dsimp only); repeat infer_instance)
                  refine ⟨Sp, _, rfl, spot U1 hbk, ?_⟩
                  refine rd_cellR g2 hj0 fun u hu => ?_
                  rw [rat] at hu
                  ((try dsimp only); repeat infer_instance)
                  refine ⟨kv, Cs.wt t, rfl, W0, Nat.lt_of_le_of_lt (show kv.natAbs ≤ 16 by omega) (Nat.lt_of_lt_of_le (show 16 < 2 ^ 5 by decide) (Nat.pow_le_pow_right (by decide) (by decide))), Nat.lt_of_le_of_lt (show (Cs.wt t).natAbs ≤ 16 by omega) (Nat.lt_of_lt_of_le (show 16 < 2 ^ 5 by decide) (Nat.pow_le_pow_right (by decide) (by decide))), fun v10 G10 s10 d10 => ?_⟩
                  ((try dsimp only); repeat infer_instance)
                  have bq : Bd 2000 ((kv : Rat) / ((Cs.wt t : Int) : Rat)) := (Bd.quot (n := 5) W0 (by omega) (by omega)).mono (by decide)
                  refine ⟨_, _, _, _, rfl, hu.ups s10, d10, bd01 i j0, bq, fun v11 G11 s11 d11 => ?_⟩
                  ((try dsimp only); repeat infer_instance)
                  have s12 := s10.trans s11
                  refine ⟨Sp, _, rfl, spot (U1.trans s12) (s12 _ _ hbk), ?_⟩
                  refine rd_setF (g2.ups s12) d11 hj0 fun G12 k12 t12 ln2 => ?_
                  ((try dsimp only); repeat infer_instance)
                  refine ⟨_, _, rfl, fun b' o nb e => k12 _ _ nb (s12 _ _ (g1' b' o nb e)), ?_⟩
                  rw [htake, rowP_do SL.nd hj hnone, rat]
                  exact ln2
              · obtain ⟨y11, y12, rfl, g1, g2⟩ := hP
                rw [gV_len, List.take_length, fin] at g2
                have U1 := keepG T8 g1
                have k3' := U1 _ _ k3
                have hLnLz : Ln ≠ Lz := fun z => by subst z; rw [k3] at nLn; cases nLn
                ((try dsimp only); repeat infer_instance)
                refine ⟨ty_lst k3', ?_⟩
                ((try dsimp only); repeat infer_instance)
                refine rd_app k3' (by rw [List.length_map, k4]; omega) ?_
                have tkA : Tk G (upd G Lz (.lst (cs.map V.ref ++ [.ref Ln]))) := .lst k3'
                refine ⟨_, _, _, _, cs ++ [Ln], rfl, fun b o nb e => by rw [upd_ne nb]; exact U1 _ _ (k1 b o nb e), (k2.trans (.of U1)).trans tkA, by rw [List.map_append]; exact upd_same, by simp [k4], fun k b e => ?_⟩
                rw [List.getElem?_append] at e
                split at e
                · obtain ⟨w1, w2⟩ := k5 k b e
                  exact ⟨w1, (w2.ups U1).tk k3' (by simpa using w1)⟩
                · rename_i hk
                  cases hz : k - cs.length with
                  | zero =>
                    rw [hz] at e
                    cases e
                    have : k = i := by omega
                    rw [this]
                    exact ⟨hLnLz, g2.tk k3' (by simpa using hLnLz)⟩
                  | succ z => rw [hz] at e; simp at e
          · obtain ⟨x9, x10, x11, x12, cs, rfl, k1, k2, k3, k4, k5⟩ := hP
            have S0 := keepF S13 nLz k1
            have hA' := k1 _ _ hAL hA
            rw [lx] at k4
            have R0 : MR H' Lz L.length L.length (Cs.mw t act L) := ⟨cs, k3, k4, k5⟩
            clear k5 k3
            ((try dsimp only); repeat infer_instance)
            refine rd_newT2 fun p1 hp1 d1 => ?_
            rw [← fr11] at d1
            have T1 := same_upd (o := .tup [.int 1, .int 1]) hp1
            generalize upd H' p1 (.tup [.int 1, .int 1]) = G1 at *
            ((try dsimp only); repeat infer_instance)
            refine ⟨by show 1 ≤ _; decide, fun p2 hp2 => ?_⟩
            have T2 := T1.trans (same_upd (o := .lst [.ref p1]) hp2)
            have d1 := d1.ups (same_upd (o := .lst [.ref p1]) hp2)
            have e2 : upd G1 p2 (.lst [.ref p1]) p2 = some (.lst [.ref p1]) := upd_same
            generalize upd G1 p2 (.lst [.ref p1]) = G2 at *
            ((try dsimp only); repeat infer_instance)
            refine rd_lenLn (SqL.of (T2 _ _ hA')) ?_
            rw [lx]
            refine rd_repR e2 (by omega) fun Ln hLn => ?_
            have ln0 := ls_rep (n := L.length) hLn d1
            rw [rowD_rep] at ln0
            have T3 := T2.trans (same_upd (o := .lst (List.replicate L.length (.ref p1))) hLn)
            generalize upd G2 Ln (.lst (List.replicate L.length (.ref p1))) = G3 at *
            ((try dsimp only); repeat infer_instance)
            refine ⟨L.length, Lz, _, Cs.mw t act L, rfl, R0.same T3, ln0, fun i _ => mw_last i, SL.pos, fewL, fun k hk => Cs.pivot _ _ St.good k hk, fun k hk i j hi hj => (Bd.of_sz (St.sizes W16 fewL k hk i j hi hj)).mono (by decide), fun v9 G9 s9 L9 => ?_⟩
            refine rd_ixL (j := 0) L9 (by rw [List.getElem?_map, List.getElem?_range SL.pos]; rfl) fun u hu => ?_
            have hu : Dt G9 u (frD (Cs.steps L.length (Cs.mw t act L) 0 L.length)) := hu
            rw [← mean_head SL.nd SL.hd] at hu
            exact q _ _ _ ((S0.trans T3).trans s9) SL hu

end Cz

set_option Elab.async false
set_option linter.all false
set_option maxRecDepth 100000
set_option maxHeartbeats 1000000
/-! what the law asks, in plain -/
namespace Cz
open PySem L2
theorem sure_list {t : Told} {g s : Pic} {l : List Pic} (hl : ∀ q, q ∈ l ↔ Cl (sucG t g) s q) : decide (l.filter (fun p => !rch t p g) = []) = sure t g s := by
  cases h : sure t g s with
  | true =>
    refine decide_eq_true (List.filter_eq_nil_iff.mpr fun p hp => ?_)
    have := rch_true.mpr (sure_true.mp h p ((hl p).mp hp))
    simp [this]
  | false =>
    refine decide_eq_false fun z => ?_
    have : sure t g s = true := sure_true.mpr fun q hq => by
      have := List.filter_eq_nil_iff.mp z q ((hl q).mpr hq)
      exact rch_true.mp (by simpa using this)
    rw [h] at this
    cases this
/-- one more state's wait: the list from there lies within -/
theorem sub_states {t : Told} {g s p : Pic} {r c : Nat} {L L' : List Pic} (S : Sl t g s r c L) (S' : Sl t g p r c L') (hp : p ∈ L) : ∀ q ∈ L', q ∈ L := fun q hq => (S.mem q).mpr (((S.mem p).mp hp).trans ((S'.mem q).mp hq))
theorem sure_next {t : Told} {g s : Pic} {x : Eff × Int} (hx : x ∈ t) (hsg : s ≠ g) (h : sure t g s = true) : sure t g (act s x.1) = true := by
  refine sure_true.mpr fun q hq => sure_true.mp h q (Cl.trans (.step .refl ?_) hq)
  unfold sucG
  rw [if_neg hsg]
  exact List.mem_map.mpr ⟨x, hx, rfl⟩
/-- the same over a whole measure T, by a part of it -/
def sumL (T : Told) (L : List Pic) (g s : Pic) : Told → Rat
  | [] => 0
  | x :: r => (if act s x.1 = s ∨ act s x.1 = g then 0 else Cs.mean T act L (act s x.1) * ((x.2 : Rat) / ((Cs.wt T : Int) : Rat))) + sumL T L g s r
def quiet (s : Pic) : Told → Int
  | [] => 0
  | x :: r => (if act s x.1 = s then x.2 else 0) + quiet s r
theorem sumL_app (T : Told) (L : List Pic) (g s : Pic) : ∀ a b, sumL T L g s (a ++ b) = sumL T L g s a + sumL T L g s b
  | [], b => by show sumL T L g s b = 0 + _; grind
  | x :: a, b => by
    show _ + sumL T L g s (a ++ b) = (_ + sumL T L g s a) + _
    rw [sumL_app T L g s a b]; grind
theorem quiet_app (s : Pic) : ∀ a b, quiet s (a ++ b) = quiet s a + quiet s b
  | [], b => by show quiet s b = 0 + _; omega
  | x :: a, b => by
    show _ + quiet s (a ++ b) = (_ + quiet s a) + _
    rw [quiet_app s a b]; omega
theorem ws_parts (T : Told) (L : List Pic) (g s : Pic) (hW : ((Cs.wt T : Int) : Rat) ≠ 0) (hsg : s ≠ g) (hg : Cs.mean T act L g = 0) : ∀ a : Told, Cs.ws a (fun e => Cs.mean T act L (act s e)) / ((Cs.wt T : Int) : Rat) = sumL T L g s a + Cs.mean T act L s * (((quiet s a : Int) : Rat) / ((Cs.wt T : Int) : Rat))
  | [] => by
    show (0 : Rat) / _ = 0 + _ * (((0 : Int) : Rat) / _)
    rw [Rat.intCast_zero]; grind
  | x :: a => by
    have ih := ws_parts T L g s hW hsg hg a
    show ((x.2 : Rat) * Cs.mean T act L (act s x.1) + Cs.ws a _) / _ = (_ + sumL T L g s a) + _ * ((((if act s x.1 = s then x.2 else 0) + quiet s a : Int) : Rat) / _)
    rw [Rat.intCast_add]
    by_cases h1 : act s x.1 = s
    · rw [if_pos (.inl h1), if_pos h1, h1]
      grind
    · by_cases h2 : act s x.1 = g
      · rw [if_pos (.inr h2), if_neg h1, h2, hg, Rat.intCast_zero]
        grind
      · rw [if_neg (by simp [h1, h2]), if_neg h1, Rat.intCast_zero]
        grind
/-- the equation that the law asks -/
theorem mean_law {t : Told} {g s : Pic} {r c : Nat} {L : List Pic} (S : Sl t g s r c L) (ok : TOk r c t) (hsg : s ≠ g) (hsure : sure t g s = true) (W0 : 0 < Cs.wt t) :
    Cs.mean t act L s * (((Cs.wt t - quiet s t : Int) : Rat) / ((Cs.wt t : Int) : Rat)) = 1 + sumL t L g s t := by
  have St := S.sts ok hsg hsure
  have e := St.mean_eq s (List.mem_of_getElem? S.hd)
  have hW : ((Cs.wt t : Int) : Rat) ≠ 0 := fun z => by
    have : Cs.wt t = 0 := by exact_mod_cast z
    omega
  rw [Cs.wt_ws, ws_parts t L g s hW hsg (Cs.mean_out _ _ _ _ St.out) t] at e
  rw [Rat.intCast_sub]
  grind
theorem Bd.add {a b : Rat} {x y : Nat} (h1 : Bd x a) (h2 : Bd y b) : Bd (x + y + 1) (a + b) := by
  have d1 : ((b.den : Int)).natAbs < 2 ^ y := by rw [Int.natAbs_natCast]; exact h2.2
  have d2 : ((a.den : Int)).natAbs < 2 ^ x := by rw [Int.natAbs_natCast]; exact h1.2
  have n1 : (a.num * (b.den : Int)).natAbs < 2 ^ (x + y) := wide_lt h1.1 d1
  have n2 : (b.num * (a.den : Int)).natAbs < 2 ^ (x + y) := by rw [Nat.add_comm]; exact wide_lt h2.1 d2
  have n3 : ((a.den : Int) * (b.den : Int)).natAbs < 2 ^ (x + y) := wide_lt d2 d1
  have p : 2 ^ (x + y + 1) = 2 ^ (x + y) + 2 ^ (x + y) := by rw [Nat.pow_succ]; omega
  rw [add_eq]
  generalize a.num * (b.den : Int) = y1 at *
  generalize b.num * (a.den : Int) = y2 at *
  exact Bd.quot (Int.mul_pos (den_pos a) (den_pos b)) (by rw [p]; omega) (by rw [p]; omega)
theorem mean_bd {t : Told} {g s : Pic} {r c : Nat} {L : List Pic} (S : Sl t g s r c L) (ok : TOk r c t) (hsg : s ≠ g) (hsure : sure t g s = true) (hb : (r, c) ∈ boards) (hs : Shp r c s) (hg : Shp r c g) : Bd 133 (Cs.mean t act L s) := by
  have few := S.few hb hs hg hsg
  rw [mean_head S.nd S.hd]
  exact Bd.of_sz ((S.sts ok hsg hsure).sizes ok.sum few L.length (Nat.le_refl _) 0 L.length S.pos (Nat.le_refl _))
theorem bd_one : Bd 1 (1 : Rat) := ⟨by decide, by decide⟩
/-- a share of the weights -/
theorem bd_share {k W : Int} (h0 : 0 < W) (h16 : W ≤ 16) (hk : k.natAbs ≤ 16) : Bd 5 ((k : Rat) / (W : Rat)) := Bd.quot h0 (by omega) (by omega)
/-! ### the law's dicts of fractions -/
inductive FR (H : Hp) : List (Pic × V) → List (Pic × Rat) → Prop
  | nil : FR H [] []
  | cons {p v x ks ms} : Dt H v (frD x) → FR H ks ms → FR H ((p, v) :: ks) ((p, x) :: ms)
section
variable {H H' : Hp}
theorem FR.mono (s : Tk H H') : ∀ {ks : List (Pic × V)} {ms : List (Pic × Rat)}, FR H ks ms → FR H' ks ms
  | _, _, .nil => .nil
  | _, _, .cons h t => .cons (h.up s) (FR.mono s t)
theorem FR.app : ∀ {ks : List (Pic × V)} {ms : List (Pic × Rat)} {p : Pic} {v : V} {x : Rat}, FR H ks ms → Dt H v (frD x) → FR H (ks ++ [(p, v)]) (ms ++ [(p, x)])
  | _, _, _, _, _, .nil, h => .cons h .nil
  | _, _, _, _, _, .cons g t, h => .cons g (FR.app t h)
theorem FR.any (q : Pic) : ∀ {ks : List (Pic × V)} {ms : List (Pic × Rat)}, FR H ks ms → (ks.any fun x => decide (x.1 = q)) = ms.any fun x => decide (x.1 = q)
  | _, _, .nil => rfl
  | _, _, .cons _ t => by rw [List.any_cons, List.any_cons, FR.any q t]
theorem FR.set (q : Pic) {v : V} {x : Rat} (h : Dt H v (frD x)) : ∀ {ks : List (Pic × V)} {ms : List (Pic × Rat)}, FR H ks ms → FR H (ks.map fun y => if y.1 = q then (y.1, v) else y) (ms.map fun y => if y.1 = q then (y.1, x) else y)
  | _, _, .nil => .nil
  | _, _, @FR.cons _ p _ _ _ _ g t => by
    rw [List.map_cons, List.map_cons]
    by_cases e : p = q
    · rw [if_pos e, if_pos e]; exact .cons h (FR.set q h t)
    · rw [if_neg e, if_neg e]; exact .cons g (FR.set q h t)
theorem FR.add {ks : List (Pic × V)} {ms : List (Pic × Rat)} (R : FR H ks ms) (q : Pic) {v : V} {x : Rat} (h : Dt H v (frD x)) : FR H (gAdd ks q v) (gAdd ms q x) := by
  unfold gAdd
  rw [R.any q]
  split
  · exact FR.set q h R
  · exact R.app h
theorem FR.look (q : Pic) : ∀ {ks : List (Pic × V)} {ms : List (Pic × Rat)}, FR H ks ms → (gLook ks q = none ∧ gLook ms q = none) ∨ ∃ v x, gLook ks q = some v ∧ gLook ms q = some x ∧ Dt H v (frD x)
  | _, _, .nil => .inl ⟨rfl, rfl⟩
  | _, _, @FR.cons _ p v x _ _ g t => by
    by_cases e : p = q
    · refine .inr ⟨v, x, ?_, ?_, g⟩ <;> (unfold gLook; rw [List.find?_cons, decide_eq_true e]; rfl)
    · have := FR.look q t
      unfold gLook at this ⊢
      rw [List.find?_cons, decide_eq_false e, List.find?_cons, decide_eq_false e]
      exact this
theorem FR.at : ∀ {ks : List (Pic × V)} {ms : List (Pic × Rat)} {i : Nat} {y : Pic × V}, FR H ks ms → ks[i]? = some y → ∃ x, ms[i]? = some (y.1, x) ∧ Dt H y.2 (frD x)
  | _, _, 0, _, .cons g _, e => by cases e; exact ⟨_, rfl, g⟩
  | _, _, i + 1, _, .cons _ t, e => FR.at (i := i) t e
theorem FR.len : ∀ {ks : List (Pic × V)} {ms : List (Pic × Rat)}, FR H ks ms → ks.length = ms.length
  | _, _, .nil => rfl
  | _, _, .cons _ t => by simp [FR.len t]
theorem FR.keys : ∀ {ks : List (Pic × V)} {ms : List (Pic × Rat)}, FR H ks ms → ks.map (·.1) = ms.map (·.1)
  | _, _, .nil => rfl
  | _, _, .cons _ t => by simp [FR.keys t]
end
/-- whole numbers over a power -/
def frM (m : List (Pic × Int)) (P : Int) : List (Pic × Rat) := m.map fun x => (x.1, (x.2 : Rat) / (P : Rat))
theorem frM_look (m : List (Pic × Int)) (P : Int) (q : Pic) : gLook (frM m P) q = (gLook m q).map fun (z : Int) => (z : Rat) / (P : Rat) := by
  unfold frM gLook
  rw [List.find?_map, Option.map_map, Option.map_map]
  rfl
theorem frM_add (m : List (Pic × Int)) (P : Int) (q : Pic) (w : Int) : frM (gAdd m q w) P = gAdd (frM m P) q ((w : Rat) / (P : Rat)) := by
  unfold gAdd
  have : ((frM m P).any fun x => decide (x.1 = q)) = m.any fun x => decide (x.1 = q) := by unfold frM; rw [List.any_map]; rfl
  rw [this]
  split
  · unfold frM
    rw [List.map_map, List.map_map]
    refine List.map_congr_left fun x _ => ?_
    simp only [Function.comp]
    by_cases e : x.1 = q
    · simp [e]
    · simp [e]
  · unfold frM; rw [List.map_append]; rfl
/-- the goal apart -/
theorem drop_addM_eq (f : List (Pic × Int)) (g : Pic) (v : Int) : gDrop (addM f g v) g = gDrop f g := by
  unfold addM gAdd gDrop
  split
  · rw [List.filter_map]
    have h1 : (f.filter ((fun x => decide (x.1 ≠ g)) ∘ fun x => if x.1 = g then (x.1, (gLook f g).getD 0 + v) else x)) = f.filter fun x => decide (x.1 ≠ g) := by
      refine List.filter_congr fun x _ => ?_
      simp only [Function.comp]
      by_cases e : x.1 = g
      · simp [e]
      · simp [e]
    rw [h1]
    have : ∀ x ∈ f.filter (fun x => decide (x.1 ≠ g)), (if x.1 = g then (x.1, (gLook f g).getD 0 + v) else x) = x := fun x hx => if_neg (by have := (List.mem_filter.mp hx).2; simpa using this)
    rw [List.map_congr_left this, List.map_id']
  · rw [List.filter_append]
    simp
theorem gAdd_drop (f : List (Pic × Int)) (g q : Pic) (w : Int) (h : q ≠ g) : gDrop (gAdd f q w) g = gAdd (gDrop f g) q w := by
  have ha : ((gDrop f g).any fun x => decide (x.1 = q)) = f.any fun x => decide (x.1 = q) := by
    unfold gDrop
    rw [List.any_filter]
    congr 1
    funext x
    by_cases e : x.1 = q
    · simp [e, h]
    · simp [e]
  unfold gAdd
  rw [ha]
  split
  · unfold gDrop
    rw [List.filter_map]
    congr 1
    refine List.filter_congr fun x _ => ?_
    simp only [Function.comp]
    by_cases e : x.1 = q
    · simp [e]
    · simp [e]
  · unfold gDrop
    rw [List.filter_append]
    simp [h]
theorem drop_addM_ne (f : List (Pic × Int)) (g q : Pic) (v : Int) (h : q ≠ g) : gDrop (addM f q v) g = addM (gDrop f g) q v := by
  unfold addM
  rw [gAdd_drop f g q _ h, gDrop_look, if_neg h]
theorem frM_addM (f : List (Pic × Int)) (P : Int) (q : Pic) (v : Int) : frM (addM f q v) P = gAdd (frM f P) q ((((gLook f q).getD 0 + v : Int) : Rat) / (P : Rat)) := frM_add _ _ _ _
end Cz

set_option Elab.async false
set_option linter.all false
set_option maxRecDepth 100000
set_option maxHeartbeats 1000000
/-! small facts for the law's own walk -/
namespace Cz
open PySem L2
theorem rd_eqNilP {K : PySem.W.Frag} {H' : Hp} {Rm q : Addr} {R : List Pic} {Q : VK} (h : PL H' Rm R) (hq : H' q = some (.lst [])) (z : Q (.bl (decide (R = []))) H') : rEqD K (.ref Rm) (.ref q) H' Q := by
  refine ⟨.list (R.map encP), .list [], h.ls.dp K, .lst (SqL.of hq) .nil, sh_pics R, by decide, ?_⟩
  have : PyData.eqv (.list (R.map encP)) (.list []) = decide (R = []) := by
    cases R with
    | nil => rfl
    | cons x l => rfl
  rw [this]
  exact z
theorem sh_two (s g : Pic) : SeqAt.shaped (.tuple [encP s, encP g]) = true := by
  refine shaped_of ?_ ?_
  · show (Pl (encP s) && (Pl (encP g) && true)) = true
    rw [Pl_pic, Pl_pic]; rfl
  · have h1 := dp_pic s
    have h2 := dp_pic g
    simp only [PyData.depth, PyData.depthAll]
    omega
theorem two_any (s g q : Pic) : (if true = true then !([encP s, encP g].any fun z => PyData.eqv z (encP q)) else [encP s, encP g].any fun z => PyData.eqv z (encP q)) = !decide (q = s ∨ q = g) := by
  rw [if_pos rfl, List.any_cons, List.any_cons, List.any_nil, eq_pic, eq_pic]
  by_cases h1 : s = q
  · simp [h1]
  · by_cases h2 : g = q
    · simp [h2]
    · have h1' : ¬ q = s := fun z => h1 z.symm
      have h2' : ¬ q = g := fun z => h2 z.symm
      simp [h1, h2, h1', h2']
theorem quiet_le (s : Pic) : ∀ {t : Told}, (∀ x ∈ t, 0 < x.2) → 0 ≤ quiet s t ∧ quiet s t ≤ Cs.wt t
  | [], _ => ⟨by show (0 : Int) ≤ 0; decide, by show (0 : Int) ≤ 0; decide⟩
  | x :: t, h => by
    have ih := quiet_le s (t := t) fun y hy => h y (by simp [hy])
    have h0 := h x (by simp)
    rw [wt_cons]
    show 0 ≤ (if act s x.1 = s then x.2 else 0) + quiet s t ∧ (if act s x.1 = s then x.2 else 0) + quiet s t ≤ _
    split <;> omega
theorem cb0_drop {t : Told} {s g : Pic} (h : s ≠ g) : frM (gDrop (cb t s g 0).2 g) (Cs.wt t ^ 0) = [(s, 1)] := by
  have : gDrop (cb t s g 0).2 g = [(s, 1)] := by
    show [(s, (1 : Int))].filter _ = _
    simp [h]
  rw [this, Int.pow_zero]
  show [(s, ((1 : Int) : Rat) / ((1 : Int) : Rat))] = _
  have : ((1 : Int) : Rat) / ((1 : Int) : Rat) = 1 := by rw [Rat.intCast_one]; grind
  rw [this]
theorem cb0_all {t : Told} {s g : Pic} (h : s ≠ g) : ((cbAll t s g 0 : Int) : Rat) / ((Cs.wt t ^ 0 : Int) : Rat) = 0 := by
  have : cbAll t s g 0 = 0 := by
    show 0 + (gLook [(s, (1 : Int))] g).getD 0 = 0
    rw [gLook_none (by simp; exact fun z => h z.symm)]
    rfl
  rw [this]
  show ((0 : Int) : Rat) / _ = 0
  rw [Rat.intCast_zero]; grind
/-- at the goal from the start -/
theorem cb_home {t : Told} {s : Pic} {r c : Nat} (hp : ∀ x ∈ t, 0 < x.2) (W0 : 0 < Cs.wt t) (hs : Shp r c s) : ∀ k, cbAll t s s k = Cs.wt t ^ k := by
  have e1 : ∀ k, 1 ≤ k → (cb t s s k).2 = [] := fun k hk => by
    induction k with
    | zero => omega
    | succ k ih =>
      show stepM t (gDrop (cb t s s k).2 s) = []
      have : gDrop (cb t s s k).2 s = [] := by
        cases k with
        | zero =>
          show [(s, (1 : Int))].filter _ = _
          simp
        | succ k => rw [ih (by omega)]; rfl
      rw [this]
      rfl
  intro k
  have O := cb_ok s hs hp (Int.le_of_lt W0) k
  cases k with
  | zero =>
    rw [Int.pow_zero]
    show 0 + (gLook [(s, (1 : Int))] s).getD 0 = 1
    rw [gLook_mem (t := [(s, (1 : Int))]) (by simp) (x := (s, 1)) (by simp)]
    rfl
  | succ k =>
    have h2 := e1 (k + 1) (by omega)
    have := O.tot
    unfold cbAll
    rw [h2] at this ⊢
    have h3 : tot ([] : List (Pic × Int)) = 0 := by simp [tot]
    have h4 : (gLook ([] : List (Pic × Int)) s).getD 0 = 0 := rfl
    rw [h4]
    omega
theorem cb_next {t : Told} {s g : Pic} {i : Nat} (W0 : 0 < Cs.wt t) : ((cbAll t s g (i + 1) : Int) : Rat) / ((Cs.wt t ^ (i + 1) : Int) : Rat) = ((cbAll t s g i : Int) : Rat) / ((Cs.wt t ^ i : Int) : Rat) + (((gLook (stepM t (gDrop (cb t s g i).2 g)) g).getD 0 : Int) : Rat) / ((Cs.wt t ^ (i + 1) : Int) : Rat) := by
  have e : cbAll t s g (i + 1) = cbAll t s g i * Cs.wt t + (gLook (stepM t (gDrop (cb t s g i).2 g)) g).getD 0 := rfl
  have hW : ((Cs.wt t : Int) : Rat) ≠ 0 := fun z => by
    have : Cs.wt t = 0 := by exact_mod_cast z
    omega
  have hP : ((Cs.wt t ^ i : Int) : Rat) ≠ 0 := fun z => by
    have h : 0 < Cs.wt t ^ i := Int.pow_pos W0
    have : Cs.wt t ^ i = 0 := by exact_mod_cast z
    omega
  rw [e, Int.pow_succ, Rat.intCast_add, Rat.intCast_mul, Rat.intCast_mul]
  grind
theorem frac_step {W z w : Int} {i : Nat} (W0 : 0 < W) : ((z : Rat) / ((W ^ i : Int) : Rat)) * ((w : Rat) / (W : Rat)) = ((z * w : Int) : Rat) / ((W ^ (i + 1) : Int) : Rat) := by
  have hW : ((W : Int) : Rat) ≠ 0 := fun z => by
    have : W = 0 := by exact_mod_cast z
    omega
  have hP : ((W ^ i : Int) : Rat) ≠ 0 := fun z => by
    have h : 0 < W ^ i := Int.pow_pos W0
    have : W ^ i = 0 := by exact_mod_cast z
    omega
  rw [Int.pow_succ, Rat.intCast_mul, Rat.intCast_mul]
  grind
theorem frM_at {m : List (Pic × Int)} {P : Int} {i : Nat} {y : Pic × Rat} (h : (frM m P)[i]? = some y) : ∃ x, m[i]? = some x ∧ y = (x.1, (x.2 : Rat) / (P : Rat)) := by
  unfold frM at h
  rw [List.getElem?_map] at h
  cases e : m[i]? with
  | none => rw [e] at h; cases h
  | some x => rw [e] at h; cases h; exact ⟨x, rfl, rfl⟩
theorem tot_take {m : List (Pic × Int)} (h : NN m) (j : Nat) : tot (m.take j) ≤ tot m := by
  have e : tot m = tot (m.take j) + tot (m.drop j) := by rw [← tot_app, List.take_append_drop]
  have : NN (m.drop j) := fun x hx => h x (List.mem_of_mem_drop hx)
  have := this.tot
  omega
theorem wt_take {t : Told} (h : ∀ x ∈ t, 0 < x.2) (j : Nat) : 0 ≤ Cs.wt (t.take j) ∧ Cs.wt (t.take j) ≤ Cs.wt t := by
  have e : Cs.wt t = Cs.wt (t.take j) + Cs.wt (t.drop j) := by rw [← wt_app, List.take_append_drop]
  have nn : ∀ l : Told, (∀ x ∈ l, 0 < x.2) → 0 ≤ Cs.wt l := fun l => by
    induction l with
    | nil => intro _; simp [Cs.wt]
    | cons x l ih => intro hl; rw [wt_cons]; have := hl x (by simp); have := ih fun y hy => hl y (by simp [hy]); omega
  have h1 := nn (t.take j) fun x hx => h x (List.mem_of_mem_take hx)
  have h2 := nn (t.drop j) fun x hx => h x (List.mem_of_mem_drop hx)
  omega
theorem cb_small {t : Told} {s g : Pic} {r c : Nat} {i : Nat} (O : CbOk r c t s g i) (Pi : Cs.wt t ^ i ≤ 2 ^ 20) : ∀ mm ∈ gDrop (cb t s g i).2 g, mm.2.natAbs < 2 ^ 21 := by
  intro mm hm
  have h1 := O.nn.drop g mm hm
  have h2 := O.nn.le mm (List.mem_filter.mp hm).1
  have := O.tot
  have := O.d
  omega
/-- what stands at any place within a turn is small -/
theorem cb_bound {t : Told} {s g : Pic} {r c : Nat} {i : Nat} (O : CbOk r c t s g i) (ok : TOk r c t) (hs : Shp r c s) (hg : Shp r c g) (Pi : Cs.wt t ^ i ≤ 2 ^ 20) :
    ∀ (j : Nat) (mm : Pic × Int), (gDrop (cb t s g i).2 g)[j]? = some mm → ∀ (j' : Nat) (q : Pic), ((gLook (stepA (t.take j') mm.1 mm.2 (stepM t ((gDrop (cb t s g i).2 g).take j))) q).getD 0).natAbs < 2 ^ 26 := by
  intro j mm hmm j' q
  have dm := O.m.drop g
  have nn := O.nn.drop g
  have W16 := ok.sum
  have hmem := List.mem_of_getElem? hmm
  have td := tot_drop O.m.nd g
  have hl := O.nn.look g
  have hT : tot (gDrop (cb t s g i).2 g) ≤ 2 ^ 20 := by have := O.tot; have := O.d; omega
  generalize gDrop (cb t s g i).2 g = m at *
  have M0 : MOk r c (stepM t (m.take j)) := MOk.stepM _ (fun y hy => dm.shp y (List.mem_of_mem_take hy)) ⟨by simp, by simp⟩
  have N0 : NN (stepM t (m.take j)) := NN.stepM ok.pos (fun x hx => nn x (List.mem_of_mem_take hx)) (fun x hx => by simp at hx)
  have m0 := nn mm hmem
  have N1 : NN (stepA (t.take j') mm.1 mm.2 (stepM t (m.take j))) := NN.stepA m0 (fun x hx => ok.pos x (List.mem_of_mem_take hx)) N0
  have T1 := tot_stepA (r := r) (c := c) (dm.shp mm hmem) mm.2 (t.take j') M0
  have T0 : tot (stepM t (m.take j)) = tot ([] : List (Pic × Int)) + tot (m.take j) * Cs.wt t := tot_stepM' (r := r) (c := c) (m.take j) (fun y hy => dm.shp y (List.mem_of_mem_take hy)) ⟨by simp, by simp⟩
  have e0 : tot ([] : List (Pic × Int)) = 0 := by simp [tot]
  have b1 := tot_take nn j
  have b2 := nn.le mm hmem
  have b3 := wt_take ok.pos j'
  have b4 : 0 ≤ tot (m.take j) := NN.tot fun x hx => nn x (List.mem_of_mem_take hx)
  have b5 := wt_take ok.pos t.length
  rw [List.take_length] at b5
  have c1 : tot (m.take j) * Cs.wt t ≤ 2 ^ 20 * 16 := Int.mul_le_mul (by omega) W16 b5.1 (by omega)
  have c2 : mm.2 * Cs.wt (t.take j') ≤ 2 ^ 20 * 16 := Int.mul_le_mul (by omega) (by omega) b3.1 (by omega)
  have z0 := N1.look q
  have z1 : (gLook (stepA (t.take j') mm.1 mm.2 (stepM t (m.take j))) q).getD 0 ≤ tot (stepA (t.take j') mm.1 mm.2 (stepM t (m.take j))) := by
    cases e : gLook (stepA (t.take j') mm.1 mm.2 (stepM t (m.take j))) q with
    | none => have := N1.tot; simpa using this
    | some w => have := N1.le _ (gLook_some e); simpa using this
  omega
end Cz

set_option Elab.async false
set_option linter.all false
set_option maxRecDepth 100000
set_option maxHeartbeats 4000000

namespace Cz
open PySem L2
local macro_rules | `(tactic| infer_instance) => `(tactic| with_reducible first
  | refine rd_seq ?_ | refine rd_cons ?_ | refine rd_nil ?_ | refine rd_c ?_ | refine rd_op ?_ | (refine rd_var (v := ?_) ?_ ?_; rotate_left 1; (with_unfolding_all rfl)) | refine rd_un ?_ | refine rd_call ?_ | refine rd_cb ?_ | refine rd_I0 ?_ | refine rd_test ?_ | refine rd_tB ?_ | refine rd_k ?_
  | refine rd_not ?_ | refine rd_and ?_ | refine rd_or ?_ | refine rd_andV ?_ | refine rd_orV ?_ | refine rd_notV ?_ | refine rd_ife ?_ | refine rd_chain ?_ | refine rd_tup ?_ | refine rd_lst ?_ | refine rd_bm0 ?_ | refine rd_bm ?_ | refine rd_sl ?_ | refine rd_nopart ?_ | refine rd_part ?_ | refine rd_i ?_
  | refine rd_next ?_ | refine rd_cont ?_ | refine rd_drop ?_ | refine rd_ret ?_ | refine rd_retN ?_ | refine rd_if ?_ | refine rd_asg ?_ | refine rd_gname ?_ | refine rd_par ?_ | refine rd_par3 ?_ | refine rd_v2 ?_ | refine rd_v3 ?_ | refine rd_gnil ?_ | refine rd_for ?_ | refine rd_lc ?_ | refine rd_yes ?_ | refine rd_iT ?_ | refine rd_iL ?_ | refine rd_iR1 ?_ | refine rd_iR2 ?_ | refine rd_iS ?_ | refine rd_dput ?_ | refine rd_din ?_ | refine rd_dnin ?_ | refine rd_dget ?_ | refine rd_dget2 ?_ | refine rd_dnewK ?_ | refine rd_dnewT ?_ | refine rd_augS ?_ | refine rd_gsub ?_ | refine rd_body ?_ | refine rd_valsT ?_ | refine rd_itemsT ?_ | refine rd_frz ?_ | refine rd_keys ?_ | refine rd_rev ?_ | (refine rd_ifT ?_ ?_; (with_unfolding_all rfl)) | (refine rd_ifF ?_ ?_; (with_unfolding_all rfl)))

theorem rd_gtupD {K : PySem.W.Frag} {v : V} {d1 d2 : PyData} {n : Nat} {ts : TGs} {σ : St} {H : Hp} {R : St → Hp → Prop} (h : Dt H v (.tuple [d1, d2])) (hn : n = 2) (q : ∀ x y, Dt H x d1 → Dt H y d2 → ts [x, y] σ H R) : gTup K n ts v σ H R := by
  refine rd_gtup h (by rw [hn]; rfl) fun xs hxs => ?_
  cases hxs with
  | cons a b =>
    cases b with
    | cons c d =>
      cases d
      exact q _ _ a c
theorem rd_if_join {b : Bool} {te : TE} {i : Nat} {D : Ends} {σ : St} {H : Hp} (P : St → Hp → Prop) (hn : ∀ σ' H', P σ' H' → D.nx σ' H') (h1 : b = true → ∀ R : V → Hp → Prop, (∀ x H1, P (σ.set i (some x)) H1 → R x H1) → te σ H R) (h2 : b = false → P σ H) :
    if b = true then tAsg te (gName i) D σ H else tNext D σ H := by
  cases b with
  | true => rw [if_pos rfl]; exact h1 rfl _ fun x H1 p => hn _ _ p
  | false => rw [if_neg (by decide)]; exact hn _ _ (h2 rfl)
theorem alike_true {K : PySem.W.Frag} {b1 b2 : Bool} {H : Hp} {Q : VK} {E : XK} (e : b1 = b2) (q : ∀ H', Same H H' → Q (.bl true) H') : sp__law_alike true K [.bl b1, .bl b2] H Q E := .inl ⟨b2, by rw [e], q⟩
abbrev s_law : Stmt := topS 66
abbrev n_law : List Str := ["_law_script", "_law_row", "_law_high", "_law_wide", "_law_told", "_law_start", "_law_goal", "_law_whole_here", "_law_many", "_law_reach_here", "_law_seen", "_law_rim", "_law_here", "_law_one", "_law_weight", "_law_there", "_law_sure", "_law_mean", "_law_sums", "_law_quiet", "_law_now", "_law_done", "_law_step", "_law_later", "_law_share_here"]
theorem sc_law : FnScope n_law ["_law_script"] (defScope s_law) := ⟨rfl, rfl, rfl, by decide +kernel, rfl, by decide +kernel, by decide +kernel⟩

def sp_law (K : PySem.W.Frag) : Sp := fun vs H Q E => ∃ (sa : Addr) (ns : List Int), vs = [.ref sa] ∧ SqL K H sa (ns.map V.int) ∧ ∀ H', Q (.bl true) H'
theorem ok_law {P : Program} {w : World} {K : PySem.W.Frag} {mg : Str → Option Value} {base : Heap} {f : Addr} {fd : FuncData} (F : Fun K "law" "law" s_law f fd) (Z : Bl mg) (C : Ct mg) (D_law_alike : Dn P w K mg base "_law_alike" ["_law_found", "_law_due"] 3 (sp__law_alike true K)) (D_law_board : Dn P w K mg base "_law_board" ["_law_row"] 3 (sp__law_board K)) (D_law_measure : Dn P w K mg base "_law_measure" ["_law_high", "_law_wide", "_law_throws_here"] 2 (sp__law_measure K)) (D_law_picture : Dn P w K mg base "_law_picture" ["_law_row", "_law_high", "_law_wide"] 3 (sp__law_picture K)) (D_law_plus : Dn P w K mg base "_law_plus" ["_law_one", "_law_other"] 3 (sp__law_plus K)) (D_law_reach : Dn P w K mg base "_law_reach" ["_law_told", "_law_start"] 3 (sp__law_reach K)) (D_law_share : Dn P w K mg base "_law_share" ["_law_above", "_law_low"] 2 (sp__law_share K)) (D_law_strokes : Dn P w K mg base "_law_strokes" ["_law_picture_here", "_law_lines"] 2 (sp__law_strokes K)) (D_law_taken : Dn P w K mg base "_law_taken" ["_law_row", "_law_many"] 1 (sp__law_taken K)) (D_law_throws : Dn P w K mg base "_law_throws" ["_law_row", "_law_high", "_law_wide", "_law_most"] 3 (sp__law_throws K)) (D_law_times : Dn P w K mg base "_law_times" ["_law_one", "_law_other"] 3 (sp__law_times K)) (D_law_whole : Dn P w K mg base "_law_whole" ["_law_told"] 1 (sp__law_whole K)) (D_can_come : Dn P w K mg base "can_come" ["rows", "columns", "told", "start", "goal"] 8 (sp_can_come K)) (D_come_by : Dn P w K mg base "come_by" ["rows", "columns", "told", "start", "goal", "many"] 8 (sp_come_by K)) (D_mean_wait : Dn P w K mg base "mean_wait" ["rows", "columns", "told", "start", "goal"] 8 (sp_mean_wait K)) (D_must_come : Dn P w K mg base "must_come" ["rows", "columns", "told", "start", "goal"] 8 (sp_must_come K)) : FnOk P w K mg base CX0 9 f fd ["_law_script"] (sp_law K) := by
  refine F.ok (k := 8) sc_law (fun vs H Q E h => ?_) (fun cdv A outer s H vs Q E hr h => ?_)
  · obtain ⟨sa, ns, rfl, hsa, q⟩ := h
    rfl
  · refine ⟨_, (pss_cons (ps_set (i := 1) sc_law.nd rfl (.inr rfl) (pe_lst (pa_cons (pv 0) (pa_cons pe_int (pa_cons pe_int (pa_cons pe_int pa_nil))))))
    (pss_cons (ps_asg (pe_fn D_law_board hr (pa_cons (pv 1) pa_nil)) (pg_tup rfl (pgs_cons (pg_name (i := 2) sc_law.nd rfl (.inr rfl)) (pgs_cons (pg_name (i := 3) sc_law.nd rfl (.inr rfl)) pgs_nil))))
    (pss_cons (ps_set (i := 4) sc_law.nd rfl (.inr rfl) (pe_fn D_law_measure hr (pa_cons (pv 2) (pa_cons (pv 3) (pa_cons (pe_fn D_law_throws hr (pa_cons (pv 1) (pa_cons (pv 2) (pa_cons (pv 3) (pa_cons pe_int pa_nil))))) pa_nil)))))
    (pss_cons (ps_asg (pe_tup (pa_cons (pe_fn D_law_picture hr (pa_cons (pv 1) (pa_cons (pv 2) (pa_cons (pv 3) pa_nil)))) (pa_cons (pe_fn D_law_picture hr (pa_cons (pv 1) (pa_cons (pv 2) (pa_cons (pv 3) pa_nil)))) (pa_cons (pe_fn D_law_whole hr (pa_cons (pv 4) pa_nil)) (pa_cons (pe_fn D_law_taken hr (pa_cons (pv 1) (pa_cons pe_int pa_nil))) pa_nil))))) (pg_tup rfl (pgs_cons (pg_name (i := 5) sc_law.nd rfl (.inl rfl)) (pgs_cons (pg_name (i := 6) sc_law.nd rfl (.inr rfl)) (pgs_cons (pg_name (i := 7) sc_law.nd rfl (.inl rfl)) (pgs_cons (pg_name (i := 8) sc_law.nd rfl (.inl rfl)) pgs_nil))))))
    (pss_cons (ps_if (pt_cmpR op_eq (pe_fn D_law_taken hr (pa_cons (pv 1) (pa_cons pe_int pa_nil))) pe_int (nomark _))
      (pss_one (ps_set (i := 6) sc_law.nd rfl (.inr rfl) (pe_fn D_law_strokes hr (pa_cons (pv 5) (pa_cons (pe_lc (own := [("_law_step", 22)]) rfl sc_law.nd (pi_range1 (by rfl) Z.range (pa_cons pe_int pa_nil)) (blkOk_by (N := n_law) (sc := (defScope s_law)) (by decide +kernel)) (fun _ _ _ _ _ => (pg_name (i := 22) sc_law.nd rfl (.inl rfl) (.inr rfl))) (fun _ _ _ _ _ => pts_nil) (fun _ _ _ _ _ => (pe_fn D_law_taken hr (pa_cons (pv 1) (pa_cons (pe_op op_add (pv 2) (pv 3)) pa_nil))))) pa_nil)))))
      pss_nil)
    (pss_cons (ps_set (i := 9) sc_law.nd rfl (.inl rfl) (pe_fn D_law_reach hr (pa_cons (pv 4) (pa_cons (pv 5) pa_nil))))
    (pss_cons (ps_if (pt_not (pt_val (pe_fn D_law_alike hr (pa_cons (pe_fn D_can_come hr (pa_cons (pv 2) (pa_cons (pv 3) (pa_cons (pv 4) (pa_cons (pv 5) (pa_cons (pv 6) pa_nil)))))) (pa_cons (pe_cmpR (kInD (K := K) rfl (hu65 hr)) (pv 6) (pv 9) rfl) pa_nil)))))
      (pss_one (ps_ret pe_bl))
      pss_nil)
    (pss_cons (ps_par (i := 10) (j := 11) rfl sc_law.nd rfl rfl (by decide) rfl rfl (pa_cons (pe_disp1 (hu_of hr) (pv 5) pe_bl) (pa_cons (pe_lst (pa_cons (pv 5) pa_nil)) pa_nil)) (by rfl))
    (pss_cons (ps_while PassesOwn.never (pt_cmpR (kNeD (K := K) rfl hr.units) (pv 11) (pe_lst pa_nil) (nomark _))
      (pss_cons (ps_set (i := 12) sc_law.nd rfl (.inl rfl) (pe_bm0 PySem.F.plainAttrs_list PySem.F.slot_list_pop PySem.F.type_list_pop mt_pop (pv 11)))
      (pss_one (ps_for PassesOwn.never rfl (pi_tup (pv 4)) (pg_tup rfl (pgs_cons (pg_name (i := 13) sc_law.nd rfl (.inl rfl)) (pgs_cons (pg_name (i := 14) sc_law.nd rfl (.inl rfl)) pgs_nil)))
        (pss_cons (ps_set (i := 15) sc_law.nd rfl (.inl rfl) (pe_fn D_law_strokes hr (pa_cons (pv 12) (pa_cons (pv 13) pa_nil))))
        (pss_one (ps_if (PW.pt (pw_and (pt_cmpR (kNeD (K := K) rfl hr.units) (pv 12) (pv 6) (nomark _)) (pw_and1 (pt_cmp (pc_dnotin (hu_of hr) (pv 15) (pv 10))))))
          (pss_cons (ps_dput (hu_of hr) (pv 10) (pv 15) pe_bl rfl)
          (pss_one (ps_expr (pe_bm PySem.F.plainAttrs_list PySem.F.slot_list_append PySem.F.type_list_append mt_append (pv 11) (pa_cons (pv 15) pa_nil)))))
          pss_nil)))))))
    (pss_cons (ps_set (i := 16) sc_law.nd rfl (.inl rfl) (pe_cmpR (kEqD (K := K) rfl hr.units) (pe_lock (pe_lc (own := [("_law_here", 12)]) rfl sc_law.nd (pi_keys (pv 10)) (blkOk_by (N := n_law) (sc := (defScope s_law)) (by decide +kernel)) (fun _ _ _ _ _ => (pg_name (i := 12) sc_law.nd rfl (.inl rfl) (.inr rfl))) (fun _ _ _ _ _ => (pts_one (pt_cmpR (kNotInD (K := K) rfl (hu65 hr)) (pv 6) (pe_fn D_law_reach hr (pa_cons (pv 4) (pa_cons (pv 12) pa_nil))) rfl))) (fun _ _ _ _ _ => (pv 12)))) (pe_lst pa_nil) (nomark _)))
    (pss_cons (ps_if (pt_not (pt_val (pe_fn D_law_alike hr (pa_cons (pe_fn D_must_come hr (pa_cons (pv 2) (pa_cons (pv 3) (pa_cons (pv 4) (pa_cons (pv 5) (pa_cons (pv 6) pa_nil)))))) (pa_cons (pv 16) pa_nil)))))
      (pss_one (ps_ret pe_bl))
      pss_nil)
    (pss_cons (ps_set (i := 17) sc_law.nd rfl (.inl rfl) (pe_fn D_mean_wait hr (pa_cons (pv 2) (pa_cons (pv 3) (pa_cons (pv 4) (pa_cons (pv 5) (pa_cons (pv 6) pa_nil)))))))
    (pss_cons (ps_if (pt_cmpR (kEqD (K := K) rfl hr.units) (pv 5) (pv 6) (nomark _))
      (pss_one (ps_ret (pe_and (pe_cmpR (kEqD (K := K) rfl hr.units) (pv 17) (pe_tup (pa_cons pe_int (pa_cons pe_int pa_nil))) (nomark _)) (pe_one (pe_cmpR (kEqD (K := K) rfl hr.units) (pe_fn D_come_by hr (pa_cons (pv 2) (pa_cons (pv 3) (pa_cons (pv 4) (pa_cons (pv 5) (pa_cons (pv 6) (pa_cons (pv 8) pa_nil))))))) (pe_tup (pa_cons pe_int (pa_cons pe_int pa_nil))) (nomark _))))))
      pss_nil)
    (pss_cons (ps_if (pt_cmpR op_ne (pe_cmpR op_isN (pv 17) pe_non (nomark _)) (pe_not (pv 16)) (nomark _))
      (pss_one (ps_ret pe_bl))
      pss_nil)
    (pss_cons (ps_if (pt_val (pv 16))
      (pss_cons (ps_asg (pe_tup (pa_cons (pe_tup (pa_cons pe_int (pa_cons pe_int pa_nil))) (pa_cons pe_int pa_nil))) (pg_tup rfl (pgs_cons (pg_name (i := 18) sc_law.nd rfl (.inl rfl)) (pgs_cons (pg_name (i := 19) sc_law.nd rfl (.inl rfl)) pgs_nil))))
      (pss_cons (ps_for PassesOwn.never rfl (pi_tup (pv 4)) (pg_tup rfl (pgs_cons (pg_name (i := 13) sc_law.nd rfl (.inl rfl)) (pgs_cons (pg_name (i := 14) sc_law.nd rfl (.inl rfl)) pgs_nil)))
        (pss_cons (ps_set (i := 15) sc_law.nd rfl (.inl rfl) (pe_fn D_law_strokes hr (pa_cons (pv 5) (pa_cons (pv 13) pa_nil))))
        (pss_cons (ps_set (i := 19) sc_law.nd rfl (.inl rfl) (pe_op op_add (pv 19) (pe_ifExp (pt_cmpR (kEqD (K := K) rfl hr.units) (pv 15) (pv 5) (nomark _)) (pv 14) pe_int)))
        (pss_one (ps_if (pt_cmpR (op_notInT (hu65 hr)) (pv 15) (pe_tup (pa_cons (pv 5) (pa_cons (pv 6) pa_nil))) rfl)
          (pss_one (ps_set (i := 18) sc_law.nd rfl (.inl rfl) (pe_fn D_law_plus hr (pa_cons (pv 18) (pa_cons (pe_fn D_law_times hr (pa_cons (pe_fn D_mean_wait hr (pa_cons (pv 2) (pa_cons (pv 3) (pa_cons (pv 4) (pa_cons (pv 15) (pa_cons (pv 6) pa_nil)))))) (pa_cons (pe_fn D_law_share hr (pa_cons (pv 14) (pa_cons (pv 7) pa_nil))) pa_nil))) pa_nil)))))
          pss_nil)))))
      (pss_one (ps_if (pt_cmpR (kNeD (K := K) rfl hr.units) (pe_fn D_law_times hr (pa_cons (pv 17) (pa_cons (pe_fn D_law_share hr (pa_cons (pe_op op_sub (pv 7) (pv 19)) (pa_cons (pv 7) pa_nil))) pa_nil))) (pv 18) (nomark _))
        (pss_one (ps_ret pe_bl))
        pss_nil))))
      pss_nil)
    (pss_cons (ps_par (i := 20) (j := 21) rfl sc_law.nd rfl rfl (by decide) rfl rfl (pa_cons (pe_disp1 (hu_of hr) (pv 5) (pe_tup (pa_cons pe_int (pa_cons pe_int pa_nil)))) (pa_cons (pe_tup (pa_cons pe_int (pa_cons pe_int pa_nil))) pa_nil)) (by rfl))
    (pss_cons (ps_for PassesOwn.never rfl (pi_range1 (by rfl) Z.range (pa_cons (pv 8) pa_nil)) (pg_name (i := 22) sc_law.nd rfl (.inl rfl))
      (pss_cons (ps_set (i := 23) sc_law.nd rfl (.inl rfl) pe_dnewT)
      (pss_cons (ps_lock (ps_for PassesOwn.never rfl (pi_keys (pv 20)) (pg_name (i := 12) sc_law.nd rfl (.inl rfl))
        (pss_one (ps_for PassesOwn.never rfl (pi_tup (pv 4)) (pg_tup rfl (pgs_cons (pg_name (i := 13) sc_law.nd rfl (.inl rfl)) (pgs_cons (pg_name (i := 14) sc_law.nd rfl (.inl rfl)) pgs_nil)))
          (pss_cons (ps_par (i := 15) (j := 24) rfl sc_law.nd rfl rfl (by decide) rfl rfl (pa_cons (pe_fn D_law_strokes hr (pa_cons (pv 12) (pa_cons (pv 13) pa_nil))) (pa_cons (pe_fn D_law_times hr (pa_cons (pe_dget (hu_of hr) (pv 20) (pv 12) (fun _ _ => rfl)) (pa_cons (pe_fn D_law_share hr (pa_cons (pv 14) (pa_cons (pv 7) pa_nil))) pa_nil))) pa_nil)) (by rfl))
          (pss_one (ps_if (pt_cmpR (kEqD (K := K) rfl hr.units) (pv 15) (pv 6) (nomark _))
            (pss_one (ps_set (i := 21) sc_law.nd rfl (.inl rfl) (pe_fn D_law_plus hr (pa_cons (pv 21) (pa_cons (pv 24) pa_nil)))))
            (pss_one (ps_dput (hu_of hr) (pv 23) (pv 15) (pe_fn D_law_plus hr (pa_cons (pe_dget2 (hu_of hr) (pv 23) (pv 15) (pe_tup (pa_cons pe_int (pa_cons pe_int pa_nil))) ⟨rfl, rfl, rfl, rfl⟩) (pa_cons (pv 24) pa_nil))) rfl)))))))))
      (pss_one (ps_set (i := 20) sc_law.nd rfl (.inl rfl) (pv 23))))))
    (pss_one (ps_ret (pe_fn D_law_alike hr (pa_cons (pe_fn D_come_by hr (pa_cons (pv 2) (pa_cons (pv 3) (pa_cons (pv 4) (pa_cons (pv 5) (pa_cons (pv 6) (pa_cons (pv 8) pa_nil))))))) (pa_cons (pv 21) pa_nil)))))))))))))))))))))), ?_⟩
    clear hr Z C D_law_alike D_law_board D_law_measure D_law_picture D_law_plus D_law_reach D_law_share D_law_strokes D_law_taken D_law_throws D_law_times D_law_whole D_can_come D_come_by D_mean_wait D_must_come
    obtain ⟨sa, ns, rfl, hsa, q⟩ := h
    ((try dsimp only); repeat infer_instance)
    refine ⟨by show 4 ≤ _; decide, fun a ha => ?_⟩
    have Rw0 : Rw K (upd H a (.lst [.ref sa, .int 0, .int 5714, .int 0])) a (sa, ns) := by
      refine ⟨0, 5714, 0, upd_same, ?_, by decide, by decide, by decide⟩
      rcases hsa with h | h
      · have hne : sa ≠ a := fun z => by
          subst z
          rcases h with h | ⟨o, h⟩ <;> (rw [ha] at h; cases h)
        refine .inl ⟨?_, hne⟩
        rcases h with h | ⟨o, h⟩
        · exact .inl ((upd_ne hne).trans h)
        · exact .inr ⟨o, (upd_ne hne).trans h⟩
      · exact .inr h
    generalize upd H a (.lst [.ref sa, .int 0, .int 5714, .int 0]) = H1 at *
    clear hsa ha
    ((try dsimp only); repeat infer_instance)
    refine ⟨a, (sa, ns), rfl, Rw0, ?_⟩
    rintro bv H2 - Rw2 ⟨⟨r, c⟩, hb, hbv⟩
    refine rd_gtupD hbv rfl fun x1 x2 g1 g2 => ?_
    rw [g1.int_eq, g2.int_eq]
    refine rd_gc ?_
    ((try dsimp only); repeat infer_instance)
    refine rd_gc ?_
    ((try dsimp only); repeat infer_instance)
    obtain ⟨b1, b2, b3, b4, b5⟩ := board_le hb
    refine ⟨a, (sa, ns), r, c, rfl, Rw2, by omega, by omega, b2, b4, fun p H3 xs ths _ Rw3 hp hths ho h0 h4 => ?_⟩
    clear Rw0 Rw2 hbv g1 g2
    ((try dsimp only); repeat infer_instance)
    refine ⟨r, c, p, xs, ths, _, rfl, hb, hp, hths, ho, h0, h4, fun v H4 t s4 ht ok => ?_⟩
    have Rw4 := Rw3.same s4
    clear Rw3 s4 hths hp ho h0 h4
    have ftx : ∀ {H5 H6 : Hp}, Ft H5 v (toldD t) → Sx a H5 H6 → (∃ xs, H5 a = some (.lst xs)) → Ft H6 v (toldD t) := fun {H5 H6} h s hl => by
      obtain ⟨av, ys, o, rfl, g1, g2, g3⟩ := h
      exact ⟨av, ys, o, rfl, s _ _ (fun z => by subst z; obtain ⟨zs, e⟩ := hl; rw [g1] at e; cases e) g1, g2, g3.sx s hl⟩
    ((try dsimp only); repeat infer_instance)
    refine ⟨a, (sa, ns), r, c, rfl, Rw4, by omega, by omega, b2, b4, ?_⟩
    rintro vs0 H5 x5 Rw5 ⟨s, hps, hs⟩
    have ht := ftx ht x5 Rw4.lst
    ((try dsimp only); repeat infer_instance)
    refine ⟨a, (sa, ns), r, c, rfl, Rw5, by omega, by omega, b2, b4, ?_⟩
    rintro vg H6 x6 Rw6 ⟨g, hpg, hg⟩
    have ht := ftx ht x6 Rw5.lst
    have hs := hs.sx x6 Rw5.lst
    ((try dsimp only); repeat infer_instance)
    refine ⟨t, v, rfl, ht, by have := ok.few; omega, fun H7 s7 => ?_⟩
    have ht := ht.ups s7
    have hs := hs.ups s7
    have hg := hg.ups s7
    have Rw7 := Rw6.same s7
    clear Rw4 Rw5 Rw6 x5 x6 s7
    ((try dsimp only); repeat infer_instance)
    refine ⟨a, (sa, ns), 6, rfl, Rw7, by decide, by decide, ?_⟩
    rintro kv H8 x8 Rw8 ⟨k, rfl, hk⟩
    have ht := ftx ht x8 Rw7.lst
    have hs := hs.sx x8 Rw7.lst
    have hg := hg.sx x8 Rw7.lst
    clear Rw7 x8
    ((try dsimp only); repeat infer_instance)
    refine ⟨by show 4 ≤ _; decide, fun T hT => ?_⟩
    have sT := same_upd (o := .tup [vs0, vg, .int (Cs.wt t), .int (k : Nat)]) hT
    have eT : upd H8 T (.tup [vs0, vg, .int (Cs.wt t), .int (k : Nat)]) T = some (.tup [vs0, vg, .int (Cs.wt t), .int (k : Nat)]) := upd_same
    have ht := ht.ups sT
    have hs := hs.ups sT
    have hg := hg.ups sT
    have Rw9 := Rw8.same sT
    generalize upd H8 T (.tup [vs0, vg, .int (Cs.wt t), .int (k : Nat)]) = H9 at *
    clear sT hT Rw8
    refine ⟨T, _, rfl, SqT.of eT, rfl, ?_⟩
    refine rd_gc ?_
    ((try dsimp only); repeat infer_instance)
    refine rd_gc ?_
    ((try dsimp only); repeat infer_instance)
    refine rd_gc ?_
    ((try dsimp only); repeat infer_instance)
    refine rd_gc ?_
    ((try dsimp only); repeat infer_instance)
    refine ⟨a, (sa, ns), 2, rfl, Rw9, by decide, by decide, ?_⟩
    rintro bv H10 x10 Rw10 ⟨z, rfl, hz⟩
    have ht := ftx ht x10 Rw9.lst
    have hs := hs.sx x10 Rw9.lst
    have hg := hg.sx x10 Rw9.lst
    clear Rw9 x10 eT
    ((try dsimp only); repeat infer_instance)
    refine rd_eq rfl ?_
    refine rd_k ?_
    refine rd_if_join (fun σ' H' => ∃ vg g, σ' = [some (.ref sa), some (.ref a), some (.int r), some (.int c), some v, some vs0, some vg, some (.int (Cs.wt t)), some (.int (k : Nat)), none, none, none, none, none, none, none, none, none, none, none, none, none, none, none, none] ∧ Ft H' v (toldD t) ∧ Dt H' vs0 (encP s) ∧ Dt H' vg (encP g) ∧ Shp r c g) (fun σ' H' hP => ?_) (fun _ R hR => ?_) (fun _ => ⟨vg, g, rfl, ht, hs, hg, hpg⟩)
    case refine_2 =>
      ((try dsimp only); repeat infer_instance)
      refine ⟨_, rfl, by decide, by decide, ?_⟩
      refine lcM Rw10 (fun d => ∃ n : Nat, n < r + c ∧ d = lnD n) (by decide) (fun j H11 hj x11 Rw11 Y hY => ?_) yes_mono name_mono (fun Dd H11 acc hD x11 Rw11 hL hlen hE => ?_)
      · ((try dsimp only); repeat infer_instance)
        refine ⟨rfl, ?_⟩
        ((try dsimp only); repeat infer_instance)
        refine ⟨rfl, ?_⟩
        ((try dsimp only); repeat infer_instance)
        refine ⟨a, (sa, ns), _, rfl, Rw11, by omega, by omega, ?_⟩
        rintro v' H12 x12 Rw12 ⟨m, rfl, hm⟩
        exact hY _ _ _ x12 Rw12 (.int _) ⟨m, by omega, rfl⟩
      · obtain ⟨e, he, rfl⟩ := lns_of hE
        have ht := ftx ht x11 Rw10.lst
        have hs := hs.sx x11 Rw10.lst
        ((try dsimp only); repeat infer_instance)
        refine ⟨r, c, s, vs0, _, e, rfl, hs, hps, .inr hL, he, fun v12 H12 s12 d12 => ?_⟩
        exact hR _ _ ⟨v12, _, rfl, ht.ups s12, hs.ups s12, d12, hps.act _⟩
    obtain ⟨vg, g, rfl, ht, hs, hg, hpg⟩ := hP
    clear Rw10 ftx
    generalize H' = H0 at *
    have k5 : k ≤ 5 := by omega
    have W0 : 0 < Cs.wt t := by
      obtain ⟨x, hx⟩ := List.exists_mem_of_ne_nil t ok.ne
      have := wt_mem ok.pos hx
      have := ok.pos x hx
      omega
    have W16 := ok.sum
    have wk : ∀ x ∈ t, x.2.natAbs ≤ 16 := fun x hx => by
      have := wt_mem ok.pos hx
      have := ok.pos x hx
      omega
    have big5 : ∀ z : Int, z.natAbs ≤ 16 → z.natAbs < 2 ^ 4400 := fun z hz => Nat.lt_of_le_of_lt hz (Nat.lt_of_lt_of_le (show 16 < 2 ^ 5 by decide) (Nat.pow_le_pow_right (by decide) (by decide)))
    ((try dsimp only); repeat infer_instance)
    refine ⟨r, c, t, s, v, vs0, rfl, hb, ht, ok, hs, hps, fun lr H1 l1 s1 _ e1 _ hl1 => ?_⟩
    ((try dsimp only); repeat infer_instance)
    refine ⟨r, c, t, s, g, v, vs0, vg, rfl, hb, ht.ups s1, ok, hs.ups s1, hps, hg.ups s1, hpg, fun H2 s2 => ?_⟩
    have S2 := s1.trans s2
    ((try dsimp only); repeat infer_instance)
    refine rd_inP (e1.same s2) (hg.ups S2) ?_
    ((try dsimp only); repeat infer_instance)
    refine alike_true (rch_of hl1).symm fun H3 s3 => ?_
    have S3 := S2.trans s3
    clear s1 s2 s3 e1 hl1 S2
    ((try dsimp only); repeat infer_instance)
    have hs3 := hs.ups S3
    have ht3 := ht.ups S3
    have hg3 := hg.ups S3
    clear S3 hs ht hg
    refine rd_disp1 fun F hF => ?_
    obtain ⟨bs, rfl, hbs⟩ := dt_key_inv (H := H3) (v := vs0) (k := keyP s) (by rw [keyD_P]; exact hs3)
    ((try dsimp only); repeat infer_instance)
    refine ⟨upd_same, keyP s, bs, rfl, same_upd hF _ _ hbs, ?_⟩
    ((try dsimp only); repeat infer_instance)
    refine ⟨by show 1 ≤ _; decide, fun Rm hRm => ?_⟩
    ((try dsimp only); repeat infer_instance)
    have I0 := SInv.start hF hbs hRm rfl
    generalize upd (upd (upd H3 F (.dT [])) F (.dT [(keyP s, .bl true)])) Rm (.lst [.ref bs]) = H4 at *
    clear hRm hF
    refine ⟨fun m σ H' => ∃ l R x y z w, σ = [some (.ref sa), some (.ref a), some (.int r), some (.int c), some v, some (.ref bs), some vg, some (.int (Cs.wt t)), some (.int (k : Nat)), some (.ref lr), some (.ref F), some (.ref Rm), x, y, z, w, none, none, none, none, none, none, none, none, none] ∧ SInv H3 H' F Rm l R ∧ Srch (sucG t g) s r c l R ∧ R.length ≤ l.length ∧ m = left l R, ⟨_, [s], [s], none, none, none, none, rfl, I0, Srch.start hps, Nat.le_refl _, rfl⟩, ?_⟩
    rintro m σ H' ⟨l, R, x, y, z, w, rfl, I, S, hRl, rfl⟩
    clear I0
    ((try dsimp only); repeat infer_instance)
    refine ⟨by show 0 ≤ _; decide, fun p0 hp0 => ?_⟩
    have I := I.keep (same_upd (o := .lst []) hp0)
    have e0 : upd H' p0 (.lst []) p0 = some (.lst []) := upd_same
    generalize upd H' p0 (.lst []) = H2 at *
    clear hp0
    refine rd_neNilP I.r e0 ?_
    ((try dsimp only); repeat infer_instance)
    rcases List.eq_nil_or_concat R with rfl | ⟨R0, here, rfl⟩
    case inr =>
      rw [List.concat_eq_append] at *
      refine rd_ifT (by simp) ?_
      ((try dsimp only); repeat infer_instance)
      refine ⟨I.ty, ?_⟩
      refine I.popR fun hv H5 I3 hh => ?_
      have hshp := S.shp here (S.rim here (by simp))
      ((try dsimp only); repeat infer_instance)
      refine ht3.for0 (fun i σ' H' => ∃ x y z l' R', σ' = [some (.ref sa), some (.ref a), some (.int r), some (.int c), some v, some (.ref bs), some vg, some (.int (Cs.wt t)), some (.int (k : Nat)), some (.ref lr), some (.ref F), some (.ref Rm), some hv, x, y, z, none, none, none, none, none, none, none, none, none] ∧ SInv H3 H' F Rm l' R' ∧ Dt H' hv (encP here) ∧ (sucG (t.take i) g here).foldl addQ (l, R0) = (l', R')) ⟨y, z, w, l, R0, rfl, I3, hh, by simp [sucT, sucG]⟩ (fun i σ' H' p => by obtain ⟨_, _, _, _, _, _, I, _⟩ := p; exact I.sm) (fun i d u σ' H' hd hP hu => ?_) (fun σ' H' hP => ?_)
      · obtain ⟨x1, y1, z1, l', R', rfl, I4, hh4, hlR⟩ := hP
        obtain ⟨x, hx, rfl⟩ := toldD_get hd
        have hm := List.mem_of_getElem? hx
        have hfew := run_few S hb (qs := sucG (t.take i) g here) (sucG_shp hshp) (by simpa using hRl)
        rw [hlR] at hfew
        have hfew1 : l'.length ≤ 16 := hfew.1
        have hfew2 : R'.length ≤ 16 := hfew.2
        refine rd_gtup hu rfl fun us hus => ?_
        refine rd_gcons hus fun e re he hre => ?_
        ((try dsimp only); repeat infer_instance)
        refine rd_gcons hre fun wv rw2 hw hrw => ?_
        ((try dsimp only); repeat infer_instance)
        refine rd_gnil' hrw ?_
        ((try dsimp only); repeat infer_instance)
        refine ⟨r, c, here, _, _, x.1, rfl, hh4, hshp, .inl he, ok.lns x hm, fun v4 H4 s4 d4 => ?_⟩
        have I4 := I4.keep s4
        have hh4 := hh4.ups s4
        ((try dsimp only); repeat infer_instance)
        refine rd_neD hh4 (hg3.ups I4.sm) (sh_pic _) (sh_pic _) ?_
        rw [eq_pic]
        ((try dsimp only); repeat infer_instance)
        by_cases hg0 : here = g
        · refine rd_ifF (by rw [decide_eq_true hg0]; rfl) ?_
          ((try dsimp only); repeat infer_instance)
          refine ⟨_, _, _, l', R', rfl, I4, hh4, ?_⟩
          rw [sucG_snoc hx, if_neg (fun z => z hg0), List.append_nil]
          exact hlR
        refine rd_ifT (by rw [decide_eq_false hg0]; rfl) ?_
        ((try dsimp only); repeat infer_instance)
        refine ⟨F, _, rfl, I4.dget d4, ?_⟩
        rw [seenP_get]
        ((try dsimp only); repeat infer_instance)
        by_cases hin : act here x.1 ∈ l'
        · refine rd_ifF (by rw [decide_eq_true hin]; rfl) ?_
          ((try dsimp only); repeat infer_instance)
          refine ⟨_, _, _, l', R', rfl, I4, hh4, ?_⟩
          rw [sucG_snoc hx, if_pos hg0, List.foldl_append, hlR]
          show addQ (l', R') _ = _
          exact if_pos hin
        · refine rd_ifT (by rw [decide_eq_false hin]; rfl) ?_
          ((try dsimp only); repeat infer_instance)
          obtain ⟨H5, hput, I5, d5⟩ := I4.putR d4 hin (by omega)
          have hh5 : Dt H5 hv (encP here) := by
            rcases hput with ⟨kvs, k, e1, _⟩ | ⟨kvs, k, b, e1, _, _, _, e2⟩
            · rw [I4.f] at e1; cases e1
            · rw [e2]; exact hh4.up (.dT e1)
          refine ⟨F, H5, rfl, hput, ?_⟩
          ((try dsimp only); repeat infer_instance)
          refine ⟨I5.ty, ?_⟩
          ((try dsimp only); repeat infer_instance)
          obtain ⟨ys, hr1, hr2⟩ := I5.r
          refine rd_app hr1 (by rw [hr2.len, List.length_map]; omega) ?_
          have I6 : SInv H3 (upd H5 Rm (.lst (ys ++ [v4]))) F Rm (l' ++ [act here x.1]) (R' ++ [act here x.1]) := ⟨upd_keep I5.sm I5.r0, (upd_ne I5.ne).trans I5.f, ⟨_, upd_same, by rw [List.map_append]; exact (hr2.app (.one d5)).up (.lst hr1)⟩, I5.f0, I5.r0⟩
          ((try dsimp only); repeat infer_instance)
          refine ⟨_, _, _, l' ++ [act here x.1], R' ++ [act here x.1], rfl, I6, hh5.up (.lst hr1), ?_⟩
          rw [sucG_snoc hx, if_pos hg0, List.foldl_append, hlR]
          show addQ (l', R') _ = _
          exact if_neg hin
      · obtain ⟨x1, y1, z1, l', R', rfl, I4, hh4, hlR⟩ := hP
        rw [toldD_len, List.take_length] at hlR
        obtain ⟨S', k, hk1, hk2⟩ := S.turn (sucG_shp hshp) hlR
        have f1 := S'.few hb
        refine ⟨_, ?_, l', R', _, _, _, _, rfl, I4, S', by simp at hRl; omega, rfl⟩
        unfold left
        simp
        omega
    refine rd_ifF rfl ?_
    have hl := S.done
    have nl := S.nd
    have shl := S.shp
    have fewl := S.few hb
    clear S hRl e0
    ((try dsimp only); repeat infer_instance)
    refine rd_lockE I.f True.intro fun od => ?_
    refine rd_lc ?_
    ((try dsimp only); repeat infer_instance)
    refine ⟨F, od, rfl, .inr ⟨_, upd_same, ?_⟩⟩
    have Sf : Same H3 (upd H2 F (.frz od (.dT (seenP l)))) := upd_keep I.sm I.f0
    have ll : (seenP l).length = l.length := by unfold seenP; rw [List.length_map]
    refine lcW walk_keysT (fun H9 s9 => s9 _ _ upd_same) (fun i => match l[i]? with | some p => if (!rch t p g) = true then some (encP p) else none | none => none) (fun i x H8 H9 hi s8 hY => ?_) (by omega) (fun Dd H8 hn8 s8 hL => ?_)
    · obtain ⟨rfl, kk, vv, b, hk', rfl, hbk⟩ := hY
      obtain ⟨p, hpl, rfl⟩ := seenP_at hk'
      refine ⟨sameR _, fun R Y hR hY2 => ?_⟩
      have hb9 : Dt H9 (.ref b) (encP p) := by have := dt_key hbk; rwa [keyD_P] at this
      have S9 := Sf.trans s8
      ((try dsimp only); repeat infer_instance)
      refine ⟨rfl, ?_⟩
      ((try dsimp only); repeat infer_instance)
      refine ⟨r, c, t, p, v, _, rfl, hb, ht3.ups S9, ok, hb9, shl p (List.mem_of_getElem? hpl), fun lr2 H10 l2 s10 _ e10 _ hl2 => ?_⟩
      ((try dsimp only); repeat infer_instance)
      refine rd_notInP e10 ((hg3.ups S9).ups s10) ?_
      rw [rch_of hl2]
      refine rd_k ?_
      rw [hpl] at hR hY2
      dsimp only at hR hY2
      cases hrc : rch t p g with
      | true =>
        rw [hrc] at hR
        exact hR rfl _ s10
      | false =>
        rw [hrc] at hY2
        ((try dsimp only); repeat infer_instance)
        exact hY2 _ rfl _ _ s10 (hb9.ups s10)
    have ek : (List.range l.length).filterMap (fun i => match l[i]? with | some p => if (!rch t p g) = true then some (encP p) else none | none => none) = (l.filter fun p => !rch t p g).map encP := keep_pics l fun p => !rch t p g
    rw [ll, ek] at hL
    have fF := s8 _ _ upd_same
    refine ⟨fF, ?_⟩
    have kS := lock_same I.f s8
    have Sc := I.sm.trans kS
    have hL2 : PL (upd H8 F (.dT (seenP l))) Dd (l.filter fun p => !rch t p g) := by
      obtain ⟨a', xs, e, h1, h2⟩ := hL
      cases e
      have hne : Dd ≠ F := fun z => by subst z; rw [upd_same] at hn8; cases hn8
      exact ⟨xs, (upd_ne hne).trans h1, h2.up (Tk.put fun ys e => by rw [fF] at e; cases e)⟩
    generalize upd H8 F (.dT (seenP l)) = H11 at *
    clear hL fF kS s8 hn8 Sf I
    ((try dsimp only); repeat infer_instance)
    refine ⟨by show 0 ≤ _; decide, fun p1 hp1 => ?_⟩
    have Sc := Sc.trans (same_upd (o := .lst []) hp1)
    have hL2 := hL2.same (same_upd (o := .lst []) hp1)
    have e1 : upd H11 p1 (.lst []) p1 = some (.lst []) := upd_same
    generalize upd H11 p1 (.lst []) = H12 at *
    refine rd_eqNilP hL2 e1 ?_
    rw [sure_list hl]
    clear hL2 e1 hp1 hl nl shl fewl ll
    have ht := ht3.ups Sc
    have hs := hs3.ups Sc
    have hg := hg3.ups Sc
    clear Sc ht3 hs3 hg3 hbs
    ((try dsimp only); repeat infer_instance)
    refine ⟨r, c, t, s, g, v, _, vg, rfl, hb, ht, ok, hs, hps, hg, hpg, fun H13 s13 => ?_⟩
    ((try dsimp only); repeat infer_instance)
    refine alike_true rfl fun H14 s14 => ?_
    have ht := ht.ups (s13.trans s14)
    have hs := hs.ups (s13.trans s14)
    have hg := hg.ups (s13.trans s14)
    clear s13 s14
    ((try dsimp only); repeat infer_instance)
    refine ⟨r, c, t, s, g, v, _, vg, rfl, hb, ht, ok, hs, hps, hg, hpg, fun hsg v15 H15 s15 d15 => ?_, fun hsg hsure H15 s15 => ?_, fun hsg hsure v15 H15 L s15 SL d15 => ?_⟩
    · have ht := ht.ups s15
      have hs := hs.ups s15
      have hg := hg.ups s15
      ((try dsimp only); repeat infer_instance)
      refine rd_eqD hs hg (sh_pic _) (sh_pic _) ?_
      rw [eq_pic]
      ((try dsimp only); repeat infer_instance)
      refine rd_ifT (decide_eq_true hsg) ?_
      ((try dsimp only); repeat infer_instance)
      refine rd_newT2 fun p2 hp2 d2 => ?_
      rw [← fr01] at d2
      have k2 := same_upd (o := .tup [.int 0, .int 1]) hp2
      have ht := ht.ups k2
      have hs := hs.ups k2
      have hg := hg.ups k2
      have d15 := d15.ups k2
      generalize upd H15 p2 (.tup [.int 0, .int 1]) = H16 at *
      refine rd_eqD d15 d2 (sh_fr _) (sh_fr _) ?_
      rw [eq_fr, decide_eq_true rfl]
      ((try dsimp only); repeat infer_instance)
      refine ⟨r, c, t, s, g, v, _, vg, k, rfl, hb, ht, ok, hs, hps, hg, hpg, k5, fun v17 H17 s17 d17 => ?_⟩
      ((try dsimp only); repeat infer_instance)
      refine rd_newT2 fun p3 hp3 d3 => ?_
      rw [← fr11] at d3
      have e : (((cbAll t s g k : Int) : Rat) / ((Cs.wt t ^ k : Int) : Rat)) = 1 := by
        rw [← hsg, cb_home ok.pos W0 hps k]
        have : ((Cs.wt t ^ k : Int) : Rat) ≠ 0 := fun z => by
          have h : 0 < Cs.wt t ^ k := Int.pow_pos W0
          have : Cs.wt t ^ k = 0 := by exact_mod_cast z
          omega
        grind
      rw [e] at d17
      refine rd_eqD (d17.ups (same_upd hp3)) d3 (sh_fr _) (sh_fr _) ?_
      rw [eq_fr, decide_eq_true rfl]
      exact q _
    · have ht := ht.ups s15
      have hs := hs.ups s15
      have hg := hg.ups s15
      ((try dsimp only); repeat infer_instance)
      refine rd_eqD hs hg (sh_pic _) (sh_pic _) ?_
      rw [eq_pic]
      ((try dsimp only); repeat infer_instance)
      refine rd_ifF (decide_eq_false hsg) ?_
      ((try dsimp only); repeat infer_instance)
      refine ⟨rfl, ?_⟩
      ((try dsimp only); repeat infer_instance)
      refine rd_ne rfl ?_
      refine rd_k ?_
      refine rd_ifF (by rw [hsure]; rfl) ?_
      ((try dsimp only); repeat infer_instance)
      refine rd_ifF hsure ?_
      generalize H15 = Hb at *
      ((try dsimp only); repeat infer_instance)
      refine rd_disp1 fun N0 hN0 => ?_
      obtain ⟨bs', e, hbs⟩ := dt_key_inv (H := Hb) (v := .ref bs) (k := keyP s) (by rw [keyD_P]; exact hs)
      cases e
      have kN := same_upd (o := .dT []) hN0
      have eN : upd Hb N0 (.dT []) N0 = some (.dT []) := upd_same
      ((try dsimp only); repeat infer_instance)
      refine rd_newT2 fun p1 hp1 d1 => ?_
      rw [← fr11] at d1
      have k1 := same_upd (o := .tup [.int 1, .int 1]) hp1
      ((try dsimp only); repeat infer_instance)
      refine ⟨k1 _ _ eN, keyP s, bs, rfl, k1 _ _ (kN _ _ hbs), ?_⟩
      have SN : Same Hb (upd (upd (upd Hb N0 (.dT [])) p1 (.tup [.int 1, .int 1])) N0 (.dT [(keyP s, .ref p1)])) := upd_keep (kN.trans k1) hN0
      have eN : upd (upd (upd Hb N0 (.dT [])) p1 (.tup [.int 1, .int 1])) N0 (.dT [(keyP s, .ref p1)]) N0 = some (.dT (gV id [(s, .ref p1)])) := upd_same
      have d1 := d1.up (Tk.dT (o := .dT [(keyP s, .ref p1)]) (k1 _ _ (show upd Hb N0 (.dT []) N0 = _ from upd_same)))
      generalize upd (upd (upd Hb N0 (.dT [])) p1 (.tup [.int 1, .int 1])) N0 (.dT [(keyP s, .ref p1)]) = H20 at *
      clear kN k1 hp1 hbs
      ((try dsimp only); repeat infer_instance)
      refine rd_newT2 fun p2 hp2 d2 => ?_
      rw [← fr01] at d2
      have k2 := same_upd (o := .tup [.int 0, .int 1]) hp2
      have SN := SN.trans k2
      have eN := k2 _ _ eN
      have d1 := d1.ups k2
      generalize upd H20 p2 (.tup [.int 0, .int 1]) = H21 at *
      clear k2 hp2
      ((try dsimp only); repeat infer_instance)
      refine ⟨_, rfl, by omega, by omega, ?_⟩
      rw [show ((k : Int)).toNat = k by omega]
      have O := cb_ok g hps ok.pos (Int.le_of_lt W0)
      refine forR (fun i σ' H' => ∃ N kvs dv x12 x13 x14 x15 x22 x23 x24, σ' = [some (.ref sa), some (.ref a), some (.int r), some (.int c), some v, some (.ref bs), some vg, some (.int (Cs.wt t)), some (.int (k : Nat)), some (.ref lr), some (.ref F), some (.ref Rm), x12, x13, x14, x15, some (.bl (sure t g s)), some .non, none, none, some (.ref N), some dv, x22, x23, x24] ∧ Same Hb H' ∧ Hb N = none ∧ H' N = some (.dT (gV id kvs)) ∧ FR H' kvs (frM (gDrop (cb t s g i).2 g) (Cs.wt t ^ i)) ∧ Dt H' dv (frD (((cbAll t s g i : Int) : Rat) / ((Cs.wt t ^ i : Int) : Rat)))) ⟨N0, [(s, .ref p1)], _, _, _, _, _, none, none, none, rfl, SN, hN0, eN, by rw [cb0_drop hsg]; exact .cons d1 .nil, by rw [cb0_all hsg]; exact d2⟩ (fun i σ' H' hi hP => ?_) (fun σ' H' hP => ?_)
      · obtain ⟨N, kvs, dv, x12, x13, x14, x15, x22, x23, x24, rfl, Si, nN, eN, fr, hdv⟩ := hP
        have Oi := O i
        have Oi1 := O (i + 1)
        have Pi := pow_small (Int.le_of_lt W0) W16 (k := i) (by omega)
        have Pi1 := pow_small (Int.le_of_lt W0) W16 (k := i + 1) (by omega)
        have P0 : 0 < Cs.wt t ^ i := Int.pow_pos W0
        have P01 : 0 < Cs.wt t ^ (i + 1) := Int.pow_pos W0
        have hall := cb_le Oi
        have bnd := cb_bound (t := t) (g := g) (s := s) (r := r) (c := c) Oi ok hps hpg Pi
        have sml := cb_small (t := t) (g := g) (s := s) Oi Pi
        have few := (Oi.m.drop g).few hb
        have mshp := (Oi.m.drop g).shp
        have mnd := (Oi.m.drop g).nd
        have estep : (cb t s g (i + 1)).2 = stepM t (gDrop (cb t s g i).2 g) := rfl
        have eall := cb_next (g := g) (s := s) (t := t) (i := i) W0
        rw [estep]
        generalize hbase : ((cbAll t s g i : Int) : Rat) / ((Cs.wt t ^ i : Int) : Rat) = base at *
        have bbase : Bd 21 base := by rw [← hbase]; exact Bd.quot P0 (by omega) (by omega)
        clear hall
        generalize gDrop (cb t s g i).2 g = m at *
        have hkl := fr.len
        have hkk := fr.keys
        ((try dsimp only); repeat infer_instance)
        intro L2 hL2
        ((try dsimp only); repeat infer_instance)
        have nL := none_of Si hL2
        have hLN : L2 ≠ N := fun z => by subst z; rw [eN] at hL2; cases hL2
        have kL := same_upd (o := .dT []) hL2
        have eN := kL _ _ eN
        have fr := fr.mono (.of kL)
        have hdv := hdv.ups kL
        have Si := Si.trans kL
        have eL : upd H' L2 (.dT []) L2 = some (.dT (gV id [])) := upd_same
        generalize upd H' L2 (.dT []) = H22 at *
        clear kL hL2
        refine rd_lock eN True.intro fun od => ?_
        ((try dsimp only); repeat infer_instance)
        refine ⟨N, od, rfl, .inr ⟨_, upd_same, ?_⟩⟩
        have lk : (gV id kvs).length = m.length := by rw [gV_len, hkl]; unfold frM; rw [List.length_map]
        refine for_it walk_keysT (fun j σ2 G => ∃ kv2 dv2 x12 x13 x14 x15 x24, σ2 = [some (.ref sa), some (.ref a), some (.int r), some (.int c), some v, some (.ref bs), some vg, some (.int (Cs.wt t)), some (.int (k : Nat)), some (.ref lr), some (.ref F), some (.ref Rm), x12, x13, x14, x15, some (.bl (sure t g s)), some .non, none, none, some (.ref N), some dv2, some (.int ((0 : Int) + (i : Nat))), some (.ref L2), x24] ∧ Same Hb G ∧ G N = some (.frz od (.dT (gV id kvs))) ∧ G L2 = some (.dT (gV id kv2)) ∧ FR G kvs (frM m (Cs.wt t ^ i)) ∧ FR G kv2 (frM (gDrop (stepM t (m.take j)) g) (Cs.wt t ^ (i + 1))) ∧ Dt G dv2 (frD (base + (((gLook (stepM t (m.take j)) g).getD 0 : Int) : Rat) / ((Cs.wt t ^ (i + 1) : Int) : Rat)))) ⟨[], dv, _, _, _, _, _, rfl, upd_keep Si nN, upd_same, (upd_ne hLN).trans eL, fr.mono (.dT eN), .nil, ?_⟩ (fun j σ2 G _ hP => by obtain ⟨_, _, _, _, _, _, _, _, _, e, _⟩ := hP; exact e) (fun j x σ2 G G' hj hP hY => ?_) (fun σ2 G hP => ?_)
        · have : base + (((gLook (stepM t (m.take 0)) g).getD 0 : Int) : Rat) / ((Cs.wt t ^ (i + 1) : Int) : Rat) = base := by
            have : (gLook (stepM t (m.take 0)) g).getD 0 = 0 := rfl
            rw [this, Rat.intCast_zero]; grind
          rw [this]
          exact hdv.up (.dT eN)
        · obtain ⟨kv2, dv2, y12, y13, y14, y15, y24, rfl, Sg, gN, gL, frK, frL, hdv2⟩ := hP
          obtain ⟨rfl, kk, vv, b, hk', rfl, hbk⟩ := hY
          obtain ⟨y, hy, rfl, rfl⟩ := gV_at hk'
          obtain ⟨xq, hxq, hyv⟩ := frK.at hy
          obtain ⟨mm, hmm, emm⟩ := frM_at hxq
          have hmp : mm.1 = y.1 := congrArg Prod.fst emm.symm
          have hmx : xq = (mm.2 : Rat) / ((Cs.wt t ^ i : Int) : Rat) := congrArg Prod.snd emm
          have hmem := List.mem_of_getElem? hmm
          have hshp := mshp mm hmem
          have hbd : Dt G' (.ref b) (encP mm.1) := by
            have := dt_key hbk
            rw [keyD_P, ← hmp] at this
            exact this
          have hlook : gLook kvs mm.1 = some y.2 := by
            rw [hmp]
            exact gLook_mem (by rw [hkk]; unfold frM; rw [List.map_map]; exact mnd) (List.mem_of_getElem? hy)
          have bj := bnd j mm hmm
          have bmm := sml mm hmem
          have M0 : MOk r c (stepM t (m.take j)) := MOk.stepM _ (fun y hy => mshp y (List.mem_of_mem_take hy)) ⟨by simp, by simp⟩
          have esn := stepM_snoc (t := t) hmm
          rw [esn]
          generalize stepM t (m.take j) = f0 at *
          ((try dsimp only); repeat infer_instance)
          refine for_told (ht.ups Sg) (F := L2) (fun j' σ3 G3 => ∃ kv3 dv3 x13 x14 x15 x24, σ3 = [some (.ref sa), some (.ref a), some (.int r), some (.int c), some v, some (.ref bs), some vg, some (.int (Cs.wt t)), some (.int (k : Nat)), some (.ref lr), some (.ref F), some (.ref Rm), some (.ref b), x13, x14, x15, some (.bl (sure t g s)), some .non, none, none, some (.ref N), some dv3, some (.int ((0 : Int) + (i : Nat))), some (.ref L2), x24] ∧ (∀ b o, b ≠ L2 → G' b = some o → G3 b = some o) ∧ Tk G' G3 ∧ G3 L2 = some (.dT (gV id kv3)) ∧ FR G3 kv3 (frM (gDrop (stepA (t.take j') mm.1 mm.2 f0) g) (Cs.wt t ^ (i + 1))) ∧ Dt G3 dv3 (frD (base + (((gLook (stepA (t.take j') mm.1 mm.2 f0) g).getD 0 : Int) : Rat) / ((Cs.wt t ^ (i + 1) : Int) : Rat)))) gL ⟨kv2, dv2, _, _, _, _, rfl, fun _ _ _ h => h, Tk.refl _, gL, frL, hdv2⟩ (fun j' σ3 G3 hP => by obtain ⟨_, _, _, _, _, _, _, e, _⟩ := hP; exact e) (fun j' d u σ3 G3 hd hP hu => ?_) (fun σ3 G3 hP => ?_)
          · obtain ⟨kv3, dv3, z13, z14, z15, z24, rfl, fm, tk3, gL3, frL3, hdv3⟩ := hP
            obtain ⟨x, hx, rfl⟩ := toldD_get hd
            have hm := List.mem_of_getElem? hx
            have M3 : MOk r c (stepA (t.take j') mm.1 mm.2 f0) := MOk.stepA hshp _ _ M0
            have few3 := M3.few hb
            have bz := bj j'
            rw [stepA_snoc hx]
            generalize stepA (t.take j') mm.1 mm.2 f0 = f1 at *
            have S3 : Same Hb G3 := fun b' o e => fm _ _ (ne_of_none e nL) (Sg _ _ e)
            refine rd_gtup hu rfl fun us hus => ?_
            refine rd_gcons hus fun e re he hre => ?_
            ((try dsimp only); repeat infer_instance)
            refine rd_gcons hre fun wv rw2 hw hrw => ?_
            rw [hw.int_eq]
            ((try dsimp only); repeat infer_instance)
            refine rd_gnil' hrw ?_
            ((try dsimp only); repeat infer_instance)
            refine ⟨r, c, mm.1, _, _, x.1, rfl, hbd.up tk3, hshp, .inl he, ok.lns x hm, fun v4 G4 s4 d4 => ?_⟩
            ((try dsimp only); repeat infer_instance)
            have gN4 := s4 _ _ (fm _ _ (Ne.symm hLN) gN)
            refine ⟨N, y.2, rfl, ?_, ?_⟩
            · have := DGet.ofF (k := keyP mm.1) gN4 (by rw [keyD_P]; exact (hbd.up tk3).ups s4)
              rw [gV_look, hlook] at this
              exact this
            ((try dsimp only); repeat infer_instance)
            refine ⟨_, _, rfl, W0, big5 _ (wk x hm), big5 _ (by omega), fun v5 G5 s5 d5 => ?_⟩
            ((try dsimp only); repeat infer_instance)
            have hv5 : Dt G5 y.2 (frD xq) := (((hyv.up tk3)).ups s4).ups s5
            have bx : Bd 21 xq := by rw [hmx]; exact Bd.quot P0 bmm (by omega)
            have bw := bd_share W0 W16 (wk x hm)
            refine ⟨_, _, _, _, rfl, hv5, d5, bx.mono (by decide), bw.mono (by decide), fun v6 G6 s6 d6 => ?_⟩
            have s46 := (s4.trans s5).trans s6
            have ev : xq * ((x.2 : Rat) / ((Cs.wt t : Int) : Rat)) = ((mm.2 * x.2 : Int) : Rat) / ((Cs.wt t ^ (i + 1) : Int) : Rat) := by
              rw [hmx]; exact frac_step W0
            have bsh : Bd 26 (((mm.2 * x.2 : Int) : Rat) / ((Cs.wt t ^ (i + 1) : Int) : Rat)) := by rw [← ev]; exact bx.mul bw
            rw [ev] at d6
            have d4' := d4.ups (s5.trans s6)
            have gL6 := s46 _ _ gL3
            have fr6 := frL3.mono (.of s46)
            have hdv6 := hdv3.ups s46
            have tk6 := tk3.trans (.of s46)
            have fm6 : ∀ b o, b ≠ L2 → G' b = some o → G6 b = some o := fun b o nb e => s46 _ _ (fm b o nb e)
            ((try dsimp only); repeat infer_instance)
            refine rd_eqD d4' ((hg.ups S3).ups s46) (sh_pic _) (sh_pic _) ?_
            rw [eq_pic]
            ((try dsimp only); repeat infer_instance)
            by_cases hqg : act mm.1 x.1 = g
            · refine rd_ifT (decide_eq_true hqg) ?_
              ((try dsimp only); repeat infer_instance)
              have bdone : Bd 50 (base + (((gLook f1 g).getD 0 : Int) : Rat) / ((Cs.wt t ^ (i + 1) : Int) : Rat)) := (bbase.add (Bd.quot (n := 26) P01 (bz g) (by omega))).mono (by decide)
              refine ⟨_, _, _, _, rfl, hdv6, d6, bdone.mono (by decide), bsh.mono (by decide), fun v7 G7 s7 d7 => ?_⟩
              ((try dsimp only); repeat infer_instance)
              refine ⟨kv3, v7, _, _, _, _, rfl, fun b o nb e => s7 _ _ (fm6 b o nb e), tk6.trans (.of s7), s7 _ _ gL6, ?_, ?_⟩
              · rw [hqg, drop_addM_eq]
                exact fr6.mono (.of s7)
              · rw [hqg, look_addM, if_pos rfl]
                have e2 : base + (((gLook f1 g).getD 0 : Int) : Rat) / ((Cs.wt t ^ (i + 1) : Int) : Rat) + ((mm.2 * x.2 : Int) : Rat) / ((Cs.wt t ^ (i + 1) : Int) : Rat) = base + (((gLook f1 g).getD 0 + mm.2 * x.2 : Int) : Rat) / ((Cs.wt t ^ (i + 1) : Int) : Rat) := by
                  rw [Rat.intCast_add]; grind
                rw [e2] at d7
                exact d7
            · refine rd_ifF (decide_eq_false hqg) ?_
              ((try dsimp only); repeat infer_instance)
              refine ⟨L2, rfl, isD_T gL6, ?_⟩
              ((try dsimp only); repeat infer_instance)
              refine rd_newT2 fun p7 hp7 d7 => ?_
              rw [← fr01] at d7
              have k7 := same_upd (o := .tup [.int 0, .int 1]) hp7
              have gL7 := k7 _ _ gL6
              have fr7 := fr6.mono (.of k7)
              have d4' := d4'.ups k7
              have d6 := d6.ups k7
              have hdv7 := hdv6.ups k7
              have tk7 := tk6.trans (.of k7)
              have fm7 : ∀ b o, b ≠ L2 → G' b = some o → upd G6 p7 (.tup [.int 0, .int 1]) b = some o := fun b o nb e => k7 _ _ (fm6 b o nb e)
              generalize upd G6 p7 (.tup [.int 0, .int 1]) = G7 at *
              have hk7 : Dt G7 v4 (keyD (keyP (act mm.1 x.1))) := by rw [keyD_P]; exact d4'
              have gt := DGet.of gL7 hk7
              rw [gV_look] at gt
              refine ⟨_, gt, ?_⟩
              have hold : Dt G7 (((gLook kv3 (act mm.1 x.1)).map id).getD (.ref p7)) (frD ((((gLook f1 (act mm.1 x.1)).getD 0 : Int) : Rat) / ((Cs.wt t ^ (i + 1) : Int) : Rat))) := by
                rcases fr7.look (act mm.1 x.1) with ⟨h1, h2⟩ | ⟨v', x', h1, h2, h3⟩
                · rw [h1]
                  rw [frM_look, gDrop_look, if_neg hqg] at h2
                  rw [Option.map_eq_none_iff.mp h2]
                  have : (((Option.getD (none : Option Int) 0 : Int) : Rat) / ((Cs.wt t ^ (i + 1) : Int) : Rat)) = 0 := by
                    show ((0 : Int) : Rat) / _ = 0
                    rw [Rat.intCast_zero]; grind
                  rw [this]
                  exact d7
                · rw [h1]
                  rw [frM_look, gDrop_look, if_neg hqg] at h2
                  obtain ⟨z', hz1, hz2⟩ := Option.map_eq_some_iff.mp h2
                  rw [hz1]
                  show Dt G7 v' (frD ((z' : Rat) / _))
                  rw [hz2]
                  exact h3
              ((try dsimp only); repeat infer_instance)
              refine ⟨_, _, _, _, rfl, hold, d6, (Bd.quot (n := 26) P01 (bz (act mm.1 x.1)) (by omega)).mono (by decide), bsh.mono (by decide), fun v8 G8 s8 d8 => ?_⟩
              have gL8 := s8 _ _ gL7
              ((try dsimp only); repeat infer_instance)
              refine ⟨L2, _, rfl, DPut.of gL8 (hk7.ups s8) (by rw [gV_len, frL3.len]; unfold frM; rw [List.length_map]; exact Nat.lt_of_le_of_lt (show _ ≤ 16 from Nat.le_trans (List.length_filter_le _ _) few3) (by decide)), ?_⟩
              have tk9 : Tk G8 (upd G8 L2 (.dT (putK (gV id kv3) (keyP (act mm.1 x.1)) v8))) := .dT gL8
              have e2 : (((gLook f1 (act mm.1 x.1)).getD 0 : Int) : Rat) / ((Cs.wt t ^ (i + 1) : Int) : Rat) + ((mm.2 * x.2 : Int) : Rat) / ((Cs.wt t ^ (i + 1) : Int) : Rat) = (((gLook f1 (act mm.1 x.1)).getD 0 + mm.2 * x.2 : Int) : Rat) / ((Cs.wt t ^ (i + 1) : Int) : Rat) := by
                rw [Rat.intCast_add]; grind
              rw [e2] at d8
              refine ⟨gAdd kv3 (act mm.1 x.1) v8, dv3, _, _, _, _, rfl, fun b o nb e => by rw [upd_ne nb]; exact s8 _ _ (fm7 b o nb e), (tk7.trans (.of s8)).trans tk9, by rw [upd_same]; exact congrArg (fun z => some (HO.dT z)) (gV_put (val := id) kv3 (act mm.1 x.1) v8), ?_, ?_⟩
              · rw [drop_addM_ne _ _ _ _ hqg, frM_addM, gDrop_look, if_neg hqg]
                exact ((fr7.mono (.of s8)).add _ d8).mono tk9
              · rw [look_addM, if_neg (fun z => hqg z.symm), Int.add_zero]
                exact (hdv7.ups s8).up tk9
          · obtain ⟨kv3, dv3, z13, z14, z15, z24, rfl, fm, tk3, gL3, frL3, hdv3⟩ := hP
            rw [toldD_len, List.take_length] at frL3 hdv3
            have S3 : Same Hb G3 := fun b' o e => fm _ _ (ne_of_none e nL) (Sg _ _ e)
            exact ⟨kv3, dv3, _, _, _, _, _, rfl, S3, fm _ _ (Ne.symm hLN) gN, gL3, frK.mono tk3, frL3, hdv3⟩
        · obtain ⟨kv2, dv2, y12, y13, y14, y15, y24, rfl, Sg, gN, gL, frK, frL, hdv2⟩ := hP
          rw [lk, List.take_length] at frL hdv2
          refine ⟨gN, ?_⟩
          ((try dsimp only); repeat infer_instance)
          have tkN : Tk G (upd G N (.dT (gV id kvs))) := Tk.put fun ys e => by rw [gN] at e; cases e
          refine ⟨L2, kv2, dv2, _, _, _, _, _, _, _, rfl, upd_keep Sg nN, nL, (upd_ne hLN).trans gL, frL.mono tkN, ?_⟩
          rw [eall]
          exact hdv2.up tkN
      · obtain ⟨N, kvs, dv, x12, x13, x14, x15, x22, x23, x24, rfl, Si, nN, eN, fr, hdv⟩ := hP
        ((try dsimp only); repeat infer_instance)
        refine ⟨r, c, t, s, g, v, _, vg, k, rfl, hb, ht.ups Si, ok, hs.ups Si, hps, hg.ups Si, hpg, k5, fun v30 H30 s30 d30 => ?_⟩
        ((try dsimp only); repeat infer_instance)
        exact .inr (.inr ⟨_, _, _, rfl, rfl, d30, hdv.ups s30, fun H31 _ => q _⟩)
    · have ht := ht.ups s15
      have hs := hs.ups s15
      have hg := hg.ups s15
      ((try dsimp only); repeat infer_instance)
      refine rd_eqD hs hg (sh_pic _) (sh_pic _) ?_
      rw [eq_pic]
      ((try dsimp only); repeat infer_instance)
      refine rd_ifF (decide_eq_false hsg) ?_
      obtain ⟨pm, xm, rfl, hpm, _⟩ := d15.tup_at
      ((try dsimp only); repeat infer_instance)
      refine ⟨rfl, ?_⟩
      ((try dsimp only); repeat infer_instance)
      refine rd_ne rfl ?_
      refine rd_k ?_
      refine rd_ifF (by rw [hsure]; rfl) ?_
      ((try dsimp only); repeat infer_instance)
      refine rd_ifT hsure ?_
      clear hpm
      ((try dsimp only); repeat infer_instance)
      refine rd_newT2 fun p1 hp1 d1 => ?_
      rw [← fr11] at d1
      have k1 := same_upd (o := .tup [.int 1, .int 1]) hp1
      have ht := ht.ups k1
      have hs := hs.ups k1
      have hg := hg.ups k1
      have d15 := d15.ups k1
      generalize upd H15 p1 (.tup [.int 1, .int 1]) = H16 at *
      clear k1 hp1
      ((try dsimp only); repeat infer_instance)
      refine ⟨by show 2 ≤ _; decide, fun p2 hp2 => ?_⟩
      have k2 := same_upd (o := .tup [.ref p1, .int 0]) hp2
      have eT : upd H16 p2 (.tup [.ref p1, .int 0]) p2 = some (.tup [.ref p1, .int 0]) := upd_same
      have ht := ht.ups k2
      have hs := hs.ups k2
      have hg := hg.ups k2
      have d15 := d15.ups k2
      have d1 := d1.ups k2
      generalize upd H16 p2 (.tup [.ref p1, .int 0]) = H17 at *
      clear k2 hp2
      refine rd_tupP eT rfl ?_
      refine rd_gc ?_
      ((try dsimp only); repeat infer_instance)
      refine rd_gc ?_
      ((try dsimp only); repeat infer_instance)
      have STS := SL.sts ok hsg hsure
      have tl := ok.few
      refine ht.forT (fun i σ' H' => ∃ x13 x14 x15 sv, σ' = [some (.ref sa), some (.ref a), some (.int r), some (.int c), some v, some (.ref bs), some vg, some (.int (Cs.wt t)), some (.int (k : Nat)), some (.ref lr), some (.ref F), some (.ref Rm), x, x13, x14, x15, some (.bl (sure t g s)), some (.ref pm), some sv, some (.int (quiet s (t.take i))), none, none, none, none, none] ∧ Same H17 H' ∧ Dt H' sv (frD (1 + sumL t L g s (t.take i))) ∧ Bd (1 + 141 * i) (1 + sumL t L g s (t.take i))) ⟨_, _, _, _, rfl, sameR _, by have e : (1 : Rat) + sumL t L g s (t.take 0) = 1 := (by show (1 : Rat) + 0 = 1; grind); rw [e]; exact d1, by have e : (1 : Rat) + sumL t L g s (t.take 0) = 1 := (by show (1 : Rat) + 0 = 1; grind); rw [e]; exact bd_one⟩ (fun i σ' H' p => by obtain ⟨_, _, _, _, _, s, _⟩ := p; exact s) (fun i d u σ' H' hd hP hu => ?_) (fun σ' H' hP => ?_)
      · obtain ⟨x13, x14, x15, sv, rfl, s18, hsv, bsv⟩ := hP
        obtain ⟨x', hx, rfl⟩ := toldD_get hd
        have hm := List.mem_of_getElem? hx
        have hi4 := (List.getElem?_eq_some_iff.mp hx).1
        have etake : t.take (i + 1) = t.take i ++ [x'] := by rw [List.take_add_one, hx]; rfl
        rw [etake, sumL_app, quiet_app]
        generalize t.take i = ti at *
        refine rd_gtup hu rfl fun us hus => ?_
        refine rd_gcons hus fun e re he hre => ?_
        ((try dsimp only); repeat infer_instance)
        refine rd_gcons hre fun wv rw2 hw hrw => ?_
        rw [hw.int_eq]
        ((try dsimp only); repeat infer_instance)
        refine rd_gnil' hrw ?_
        ((try dsimp only); repeat infer_instance)
        refine ⟨r, c, s, _, _, x'.1, rfl, hs.ups s18, hps, .inl he, ok.lns x' hm, fun v4 H4 s4 d4 => ?_⟩
        have s19 := s18.trans s4
        ((try dsimp only); repeat infer_instance)
        refine rd_eqD d4 (hs.ups s19) (sh_pic _) (sh_pic _) ?_
        rw [eq_pic]
        ((try dsimp only); repeat infer_instance)
        have qv : ∀ (R : V → Hp → Prop) (σ : St), σ[14]? = some (some (.int x'.2)) → R (.int (quiet s [x'])) H4 → if decide (act s x'.1 = s) = true then tVar 14 σ H4 R else tC (.int 0) σ H4 R := fun R σ hσ h => by
          have eq : quiet s [x'] = (if act s x'.1 = s then x'.2 else 0) := Int.add_zero (if act s x'.1 = s then x'.2 else 0)
          rw [eq] at h
          by_cases g0 : act s x'.1 = s
          · rw [if_pos g0] at h
            exact rd_ifT (decide_eq_true g0) (rd_var hσ h)
          · rw [if_neg g0] at h
            exact rd_ifF (decide_eq_false g0) (rd_c h)
        refine qv _ _ rfl ?_
        ((try dsimp only); repeat infer_instance)
        refine ⟨by show 2 ≤ _; decide, fun p5 hp5 => ?_⟩
        have k5' := same_upd (o := .tup [.ref bs, vg]) hp5
        have s20 := s19.trans k5'
        have d5 : Dt (upd H4 p5 (.tup [.ref bs, vg])) (.ref p5) (.tuple [encP s, encP g]) := Dt.newT hp5 (.cons (hs.ups s19) (.cons (hg.ups s19) .nil))
        have d4 := d4.ups k5'
        have hsv := (hsv.ups s4).ups k5'
        generalize upd H4 p5 (.tup [.ref bs, vg]) = H5 at *
        clear k5' hp5 s4 s19
        refine ⟨_, _, d4, d5, sh_pic _, sh_two s g, ?_⟩
        rw [two_any]
        ((try dsimp only); repeat infer_instance)
        have one : sumL t L g s [x'] = if act s x'.1 = s ∨ act s x'.1 = g then 0 else Cs.mean t act L (act s x'.1) * ((x'.2 : Rat) / ((Cs.wt t : Int) : Rat)) := by show _ + 0 = _; grind
        by_cases hin : act s x'.1 = s ∨ act s x'.1 = g
        · refine rd_ifF (by rw [decide_eq_true hin]; rfl) ?_
          ((try dsimp only); repeat infer_instance)
          rw [one, if_pos hin]
          have e : 1 + (sumL t L g s ti + 0) = 1 + sumL t L g s ti := by grind
          rw [e]
          exact ⟨_, _, _, _, rfl, s20, hsv, bsv.mono (by omega)⟩
        · refine rd_ifT (by rw [decide_eq_false hin]; rfl) ?_
          have nin := not_or.mp hin
          have hq : act s x'.1 ∈ L := (STS.clo s (List.mem_of_getElem? SL.hd) x' hm).resolve_left nin.2
          have hsq := sure_next hm hsg hsure
          ((try dsimp only); repeat infer_instance)
          refine ⟨r, c, t, act s x'.1, g, v, _, vg, rfl, hb, ht.ups s20, ok, d4, hps.act _, hg.ups s20, hpg, fun z => absurd z nin.2, fun _ z => absurd z (by rw [hsq]; decide), fun _ _ v6 H6 L' s6 SL' d6 => ?_⟩
          have eme := STS.mean_one (SL'.sts ok nin.2 hsq) (sub_states SL SL' hq) (act s x'.1) (List.mem_of_getElem? SL'.hd)
          have bme := mean_bd SL' ok nin.2 hsq hb (hps.act _) hpg
          rw [← eme] at d6 bme
          ((try dsimp only); repeat infer_instance)
          refine ⟨_, _, rfl, W0, big5 _ (wk x' hm), big5 _ (by omega), fun v7 H7 s7 d7 => ?_⟩
          ((try dsimp only); repeat infer_instance)
          have bw := bd_share W0 W16 (wk x' hm)
          refine ⟨_, _, _, _, rfl, d6.ups s7, d7, bme.mono (by decide), bw.mono (by decide), fun v8 H8 s8 d8 => ?_⟩
          ((try dsimp only); repeat infer_instance)
          have bt := bme.mul bw
          refine ⟨_, _, _, _, rfl, ((hsv.ups s6).ups s7).ups s8, d8, bsv.mono (by omega), bt.mono (by decide), fun v9 H9 s9 d9 => ?_⟩
          ((try dsimp only); repeat infer_instance)
          rw [one, if_neg hin]
          have e : 1 + (sumL t L g s ti + Cs.mean t act L (act s x'.1) * ((x'.2 : Rat) / ((Cs.wt t : Int) : Rat))) = 1 + sumL t L g s ti + Cs.mean t act L (act s x'.1) * ((x'.2 : Rat) / ((Cs.wt t : Int) : Rat)) := by grind
          rw [e]
          exact ⟨_, _, _, _, rfl, (((s20.trans s6).trans s7).trans s8).trans s9, d9, (bsv.add bt).mono (by omega)⟩
      obtain ⟨x13, x14, x15, sv, rfl, s18, hsv, bsv⟩ := hP
      rw [toldD_len, List.take_length] at hsv ⊢
      have eqn := mean_law SL ok hsg hsure W0
      have qb := quiet_le s ok.pos
      ((try dsimp only); repeat infer_instance)
      refine ⟨_, _, rfl, W0, big5 _ (by omega), big5 _ (by omega), fun v7 H7 s7 d7 => ?_⟩
      ((try dsimp only); repeat infer_instance)
      have bme := mean_bd SL ok hsg hsure hb hps hpg
      refine ⟨_, _, _, _, rfl, (d15.ups s18).ups s7, d7, bme.mono (by decide), (bd_share W0 W16 (by omega)).mono (by decide), fun v8 H8 s8 d8 => ?_⟩
      rw [eqn] at d8
      have s28 := (s18.trans s7).trans s8
      ((try dsimp only); repeat infer_instance)
      refine rd_neD d8 ((hsv.ups s7).ups s8) (sh_fr _) (sh_fr _) ?_
      rw [eq_fr, decide_eq_true rfl]
      refine rd_k ?_
      refine rd_ifF rfl ?_
      have ht := ht.ups s28
      have hs := hs.ups s28
      have hg := hg.ups s28
      generalize quiet s t = qt at *
      generalize H8 = Hb at *
      ((try dsimp only); repeat infer_instance)
      refine rd_disp1 fun N0 hN0 => ?_
      obtain ⟨bs', e, hbs⟩ := dt_key_inv (H := Hb) (v := .ref bs) (k := keyP s) (by rw [keyD_P]; exact hs)
      cases e
      have kN := same_upd (o := .dT []) hN0
      have eN : upd Hb N0 (.dT []) N0 = some (.dT []) := upd_same
      ((try dsimp only); repeat infer_instance)
      refine rd_newT2 fun p1 hp1 d1 => ?_
      rw [← fr11] at d1
      have k1 := same_upd (o := .tup [.int 1, .int 1]) hp1
      ((try dsimp only); repeat infer_instance)
      refine ⟨k1 _ _ eN, keyP s, bs, rfl, k1 _ _ (kN _ _ hbs), ?_⟩
      have SN : Same Hb (upd (upd (upd Hb N0 (.dT [])) p1 (.tup [.int 1, .int 1])) N0 (.dT [(keyP s, .ref p1)])) := upd_keep (kN.trans k1) hN0
      have eN : upd (upd (upd Hb N0 (.dT [])) p1 (.tup [.int 1, .int 1])) N0 (.dT [(keyP s, .ref p1)]) N0 = some (.dT (gV id [(s, .ref p1)])) := upd_same
      have d1 := d1.up (Tk.dT (o := .dT [(keyP s, .ref p1)]) (k1 _ _ (show upd Hb N0 (.dT []) N0 = _ from upd_same)))
      generalize upd (upd (upd Hb N0 (.dT [])) p1 (.tup [.int 1, .int 1])) N0 (.dT [(keyP s, .ref p1)]) = H20 at *
      clear kN k1 hp1 hbs
      ((try dsimp only); repeat infer_instance)
      refine rd_newT2 fun p2 hp2 d2 => ?_
      rw [← fr01] at d2
      have k2 := same_upd (o := .tup [.int 0, .int 1]) hp2
      have SN := SN.trans k2
      have eN := k2 _ _ eN
      have d1 := d1.ups k2
      generalize upd H20 p2 (.tup [.int 0, .int 1]) = H21 at *
      clear k2 hp2
      ((try dsimp only); repeat infer_instance)
      refine ⟨_, rfl, by omega, by omega, ?_⟩
      rw [show ((k : Int)).toNat = k by omega]
      have O := cb_ok g hps ok.pos (Int.le_of_lt W0)
      refine forR (fun i σ' H' => ∃ N kvs dv x12 x13 x14 x15 x22 x23 x24, σ' = [some (.ref sa), some (.ref a), some (.int r), some (.int c), some v, some (.ref bs), some vg, some (.int (Cs.wt t)), some (.int (k : Nat)), some (.ref lr), some (.ref F), some (.ref Rm), x12, x13, x14, x15, some (.bl (sure t g s)), some (.ref pm), some sv, some (.int qt), some (.ref N), some dv, x22, x23, x24] ∧ Same Hb H' ∧ Hb N = none ∧ H' N = some (.dT (gV id kvs)) ∧ FR H' kvs (frM (gDrop (cb t s g i).2 g) (Cs.wt t ^ i)) ∧ Dt H' dv (frD (((cbAll t s g i : Int) : Rat) / ((Cs.wt t ^ i : Int) : Rat)))) ⟨N0, [(s, .ref p1)], _, _, _, _, _, none, none, none, rfl, SN, hN0, eN, by rw [cb0_drop hsg]; exact .cons d1 .nil, by rw [cb0_all hsg]; exact d2⟩ (fun i σ' H' hi hP => ?_) (fun σ' H' hP => ?_)
      · obtain ⟨N, kvs, dv, x12, x13, x14, x15, x22, x23, x24, rfl, Si, nN, eN, fr, hdv⟩ := hP
        have Oi := O i
        have Oi1 := O (i + 1)
        have Pi := pow_small (Int.le_of_lt W0) W16 (k := i) (by omega)
        have Pi1 := pow_small (Int.le_of_lt W0) W16 (k := i + 1) (by omega)
        have P0 : 0 < Cs.wt t ^ i := Int.pow_pos W0
        have P01 : 0 < Cs.wt t ^ (i + 1) := Int.pow_pos W0
        have hall := cb_le Oi
        have bnd := cb_bound (t := t) (g := g) (s := s) (r := r) (c := c) Oi ok hps hpg Pi
        have sml := cb_small (t := t) (g := g) (s := s) Oi Pi
        have few := (Oi.m.drop g).few hb
        have mshp := (Oi.m.drop g).shp
        have mnd := (Oi.m.drop g).nd
        have estep : (cb t s g (i + 1)).2 = stepM t (gDrop (cb t s g i).2 g) := rfl
        have eall := cb_next (g := g) (s := s) (t := t) (i := i) W0
        rw [estep]
        generalize hbase : ((cbAll t s g i : Int) : Rat) / ((Cs.wt t ^ i : Int) : Rat) = base at *
        have bbase : Bd 21 base := by rw [← hbase]; exact Bd.quot P0 (by omega) (by omega)
        clear hall
        generalize gDrop (cb t s g i).2 g = m at *
        have hkl := fr.len
        have hkk := fr.keys
        ((try dsimp only); repeat infer_instance)
        intro L2 hL2
        ((try dsimp only); repeat infer_instance)
        have nL := none_of Si hL2
        have hLN : L2 ≠ N := fun z => by subst z; rw [eN] at hL2; cases hL2
        have kL := same_upd (o := .dT []) hL2
        have eN := kL _ _ eN
        have fr := fr.mono (.of kL)
        have hdv := hdv.ups kL
        have Si := Si.trans kL
        have eL : upd H' L2 (.dT []) L2 = some (.dT (gV id [])) := upd_same
        generalize upd H' L2 (.dT []) = H22 at *
        clear kL hL2
        refine rd_lock eN True.intro fun od => ?_
        ((try dsimp only); repeat infer_instance)
        refine ⟨N, od, rfl, .inr ⟨_, upd_same, ?_⟩⟩
        have lk : (gV id kvs).length = m.length := by rw [gV_len, hkl]; unfold frM; rw [List.length_map]
        refine for_it walk_keysT (fun j σ2 G => ∃ kv2 dv2 x12 x13 x14 x15 x24, σ2 = [some (.ref sa), some (.ref a), some (.int r), some (.int c), some v, some (.ref bs), some vg, some (.int (Cs.wt t)), some (.int (k : Nat)), some (.ref lr), some (.ref F), some (.ref Rm), x12, x13, x14, x15, some (.bl (sure t g s)), some (.ref pm), some sv, some (.int qt), some (.ref N), some dv2, some (.int ((0 : Int) + (i : Nat))), some (.ref L2), x24] ∧ Same Hb G ∧ G N = some (.frz od (.dT (gV id kvs))) ∧ G L2 = some (.dT (gV id kv2)) ∧ FR G kvs (frM m (Cs.wt t ^ i)) ∧ FR G kv2 (frM (gDrop (stepM t (m.take j)) g) (Cs.wt t ^ (i + 1))) ∧ Dt G dv2 (frD (base + (((gLook (stepM t (m.take j)) g).getD 0 : Int) : Rat) / ((Cs.wt t ^ (i + 1) : Int) : Rat)))) ⟨[], dv, _, _, _, _, _, rfl, upd_keep Si nN, upd_same, (upd_ne hLN).trans eL, fr.mono (.dT eN), .nil, ?_⟩ (fun j σ2 G _ hP => by obtain ⟨_, _, _, _, _, _, _, _, _, e, _⟩ := hP; exact e) (fun j x σ2 G G' hj hP hY => ?_) (fun σ2 G hP => ?_)
        · have : base + (((gLook (stepM t (m.take 0)) g).getD 0 : Int) : Rat) / ((Cs.wt t ^ (i + 1) : Int) : Rat) = base := by
            have : (gLook (stepM t (m.take 0)) g).getD 0 = 0 := rfl
            rw [this, Rat.intCast_zero]; grind
          rw [this]
          exact hdv.up (.dT eN)
        · obtain ⟨kv2, dv2, y12, y13, y14, y15, y24, rfl, Sg, gN, gL, frK, frL, hdv2⟩ := hP
          obtain ⟨rfl, kk, vv, b, hk', rfl, hbk⟩ := hY
          obtain ⟨y, hy, rfl, rfl⟩ := gV_at hk'
          obtain ⟨xq, hxq, hyv⟩ := frK.at hy
          obtain ⟨mm, hmm, emm⟩ := frM_at hxq
          have hmp : mm.1 = y.1 := congrArg Prod.fst emm.symm
          have hmx : xq = (mm.2 : Rat) / ((Cs.wt t ^ i : Int) : Rat) := congrArg Prod.snd emm
          have hmem := List.mem_of_getElem? hmm
          have hshp := mshp mm hmem
          have hbd : Dt G' (.ref b) (encP mm.1) := by
            have := dt_key hbk
            rw [keyD_P, ← hmp] at this
            exact this
          have hlook : gLook kvs mm.1 = some y.2 := by
            rw [hmp]
            exact gLook_mem (by rw [hkk]; unfold frM; rw [List.map_map]; exact mnd) (List.mem_of_getElem? hy)
          have bj := bnd j mm hmm
          have bmm := sml mm hmem
          have M0 : MOk r c (stepM t (m.take j)) := MOk.stepM _ (fun y hy => mshp y (List.mem_of_mem_take hy)) ⟨by simp, by simp⟩
          have esn := stepM_snoc (t := t) hmm
          rw [esn]
          generalize stepM t (m.take j) = f0 at *
          ((try dsimp only); repeat infer_instance)
          refine for_told (ht.ups Sg) (F := L2) (fun j' σ3 G3 => ∃ kv3 dv3 x13 x14 x15 x24, σ3 = [some (.ref sa), some (.ref a), some (.int r), some (.int c), some v, some (.ref bs), some vg, some (.int (Cs.wt t)), some (.int (k : Nat)), some (.ref lr), some (.ref F), some (.ref Rm), some (.ref b), x13, x14, x15, some (.bl (sure t g s)), some (.ref pm), some sv, some (.int qt), some (.ref N), some dv3, some (.int ((0 : Int) + (i : Nat))), some (.ref L2), x24] ∧ (∀ b o, b ≠ L2 → G' b = some o → G3 b = some o) ∧ Tk G' G3 ∧ G3 L2 = some (.dT (gV id kv3)) ∧ FR G3 kv3 (frM (gDrop (stepA (t.take j') mm.1 mm.2 f0) g) (Cs.wt t ^ (i + 1))) ∧ Dt G3 dv3 (frD (base + (((gLook (stepA (t.take j') mm.1 mm.2 f0) g).getD 0 : Int) : Rat) / ((Cs.wt t ^ (i + 1) : Int) : Rat)))) gL ⟨kv2, dv2, _, _, _, _, rfl, fun _ _ _ h => h, Tk.refl _, gL, frL, hdv2⟩ (fun j' σ3 G3 hP => by obtain ⟨_, _, _, _, _, _, _, e, _⟩ := hP; exact e) (fun j' d u σ3 G3 hd hP hu => ?_) (fun σ3 G3 hP => ?_)
          · obtain ⟨kv3, dv3, z13, z14, z15, z24, rfl, fm, tk3, gL3, frL3, hdv3⟩ := hP
            obtain ⟨x, hx, rfl⟩ := toldD_get hd
            have hm := List.mem_of_getElem? hx
            have M3 : MOk r c (stepA (t.take j') mm.1 mm.2 f0) := MOk.stepA hshp _ _ M0
            have few3 := M3.few hb
            have bz := bj j'
            rw [stepA_snoc hx]
            generalize stepA (t.take j') mm.1 mm.2 f0 = f1 at *
            have S3 : Same Hb G3 := fun b' o e => fm _ _ (ne_of_none e nL) (Sg _ _ e)
            refine rd_gtup hu rfl fun us hus => ?_
            refine rd_gcons hus fun e re he hre => ?_
            ((try dsimp only); repeat infer_instance)
            refine rd_gcons hre fun wv rw2 hw hrw => ?_
            rw [hw.int_eq]
            ((try dsimp only); repeat infer_instance)
            refine rd_gnil' hrw ?_
            ((try dsimp only); repeat infer_instance)
            refine ⟨r, c, mm.1, _, _, x.1, rfl, hbd.up tk3, hshp, .inl he, ok.lns x hm, fun v4 G4 s4 d4 => ?_⟩
            ((try dsimp only); repeat infer_instance)
            have gN4 := s4 _ _ (fm _ _ (Ne.symm hLN) gN)
            refine ⟨N, y.2, rfl, ?_, ?_⟩
            · have := DGet.ofF (k := keyP mm.1) gN4 (by rw [keyD_P]; exact (hbd.up tk3).ups s4)
              rw [gV_look, hlook] at this
              exact this
            ((try dsimp only); repeat infer_instance)
            refine ⟨_, _, rfl, W0, big5 _ (wk x hm), big5 _ (by omega), fun v5 G5 s5 d5 => ?_⟩
            ((try dsimp only); repeat infer_instance)
            have hv5 : Dt G5 y.2 (frD xq) := (((hyv.up tk3)).ups s4).ups s5
            have bx : Bd 21 xq := by rw [hmx]; exact Bd.quot P0 bmm (by omega)
            have bw := bd_share W0 W16 (wk x hm)
            refine ⟨_, _, _, _, rfl, hv5, d5, bx.mono (by decide), bw.mono (by decide), fun v6 G6 s6 d6 => ?_⟩
            have s46 := (s4.trans s5).trans s6
            have ev : xq * ((x.2 : Rat) / ((Cs.wt t : Int) : Rat)) = ((mm.2 * x.2 : Int) : Rat) / ((Cs.wt t ^ (i + 1) : Int) : Rat) := by
              rw [hmx]; exact frac_step W0
            have bsh : Bd 26 (((mm.2 * x.2 : Int) : Rat) / ((Cs.wt t ^ (i + 1) : Int) : Rat)) := by rw [← ev]; exact bx.mul bw
            rw [ev] at d6
            have d4' := d4.ups (s5.trans s6)
            have gL6 := s46 _ _ gL3
            have fr6 := frL3.mono (.of s46)
            have hdv6 := hdv3.ups s46
            have tk6 := tk3.trans (.of s46)
            have fm6 : ∀ b o, b ≠ L2 → G' b = some o → G6 b = some o := fun b o nb e => s46 _ _ (fm b o nb e)
            ((try dsimp only); repeat infer_instance)
            refine rd_eqD d4' ((hg.ups S3).ups s46) (sh_pic _) (sh_pic _) ?_
            rw [eq_pic]
            ((try dsimp only); repeat infer_instance)
            by_cases hqg : act mm.1 x.1 = g
            · refine rd_ifT (decide_eq_true hqg) ?_
              ((try dsimp only); repeat infer_instance)
              have bdone : Bd 50 (base + (((gLook f1 g).getD 0 : Int) : Rat) / ((Cs.wt t ^ (i + 1) : Int) : Rat)) := (bbase.add (Bd.quot (n := 26) P01 (bz g) (by omega))).mono (by decide)
              refine ⟨_, _, _, _, rfl, hdv6, d6, bdone.mono (by decide), bsh.mono (by decide), fun v7 G7 s7 d7 => ?_⟩
              ((try dsimp only); repeat infer_instance)
              refine ⟨kv3, v7, _, _, _, _, rfl, fun b o nb e => s7 _ _ (fm6 b o nb e), tk6.trans (.of s7), s7 _ _ gL6, ?_, ?_⟩
              · rw [hqg, drop_addM_eq]
                exact fr6.mono (.of s7)
              · rw [hqg, look_addM, if_pos rfl]
                have e2 : base + (((gLook f1 g).getD 0 : Int) : Rat) / ((Cs.wt t ^ (i + 1) : Int) : Rat) + ((mm.2 * x.2 : Int) : Rat) / ((Cs.wt t ^ (i + 1) : Int) : Rat) = base + (((gLook f1 g).getD 0 + mm.2 * x.2 : Int) : Rat) / ((Cs.wt t ^ (i + 1) : Int) : Rat) := by
                  rw [Rat.intCast_add]; grind
                rw [e2] at d7
                exact d7
            · refine rd_ifF (decide_eq_false hqg) ?_
              ((try dsimp only); repeat infer_instance)
              refine ⟨L2, rfl, isD_T gL6, ?_⟩
              ((try dsimp only); repeat infer_instance)
              refine rd_newT2 fun p7 hp7 d7 => ?_
              rw [← fr01] at d7
              have k7 := same_upd (o := .tup [.int 0, .int 1]) hp7
              have gL7 := k7 _ _ gL6
              have fr7 := fr6.mono (.of k7)
              have d4' := d4'.ups k7
              have d6 := d6.ups k7
              have hdv7 := hdv6.ups k7
              have tk7 := tk6.trans (.of k7)
              have fm7 : ∀ b o, b ≠ L2 → G' b = some o → upd G6 p7 (.tup [.int 0, .int 1]) b = some o := fun b o nb e => k7 _ _ (fm6 b o nb e)
              generalize upd G6 p7 (.tup [.int 0, .int 1]) = G7 at *
              have hk7 : Dt G7 v4 (keyD (keyP (act mm.1 x.1))) := by rw [keyD_P]; exact d4'
              have gt := DGet.of gL7 hk7
              rw [gV_look] at gt
              refine ⟨_, gt, ?_⟩
              have hold : Dt G7 (((gLook kv3 (act mm.1 x.1)).map id).getD (.ref p7)) (frD ((((gLook f1 (act mm.1 x.1)).getD 0 : Int) : Rat) / ((Cs.wt t ^ (i + 1) : Int) : Rat))) := by
                rcases fr7.look (act mm.1 x.1) with ⟨h1, h2⟩ | ⟨v', x', h1, h2, h3⟩
                · rw [h1]
                  rw [frM_look, gDrop_look, if_neg hqg] at h2
                  rw [Option.map_eq_none_iff.mp h2]
                  have : (((Option.getD (none : Option Int) 0 : Int) : Rat) / ((Cs.wt t ^ (i + 1) : Int) : Rat)) = 0 := by
                    show ((0 : Int) : Rat) / _ = 0
                    rw [Rat.intCast_zero]; grind
                  rw [this]
                  exact d7
                · rw [h1]
                  rw [frM_look, gDrop_look, if_neg hqg] at h2
                  obtain ⟨z', hz1, hz2⟩ := Option.map_eq_some_iff.mp h2
                  rw [hz1]
                  show Dt G7 v' (frD ((z' : Rat) / _))
                  rw [hz2]
                  exact h3
              ((try dsimp only); repeat infer_instance)
              refine ⟨_, _, _, _, rfl, hold, d6, (Bd.quot (n := 26) P01 (bz (act mm.1 x.1)) (by omega)).mono (by decide), bsh.mono (by decide), fun v8 G8 s8 d8 => ?_⟩
              have gL8 := s8 _ _ gL7
              ((try dsimp only); repeat infer_instance)
              refine ⟨L2, _, rfl, DPut.of gL8 (hk7.ups s8) (by rw [gV_len, frL3.len]; unfold frM; rw [List.length_map]; exact Nat.lt_of_le_of_lt (show _ ≤ 16 from Nat.le_trans (List.length_filter_le _ _) few3) (by decide)), ?_⟩
              have tk9 : Tk G8 (upd G8 L2 (.dT (putK (gV id kv3) (keyP (act mm.1 x.1)) v8))) := .dT gL8
              have e2 : (((gLook f1 (act mm.1 x.1)).getD 0 : Int) : Rat) / ((Cs.wt t ^ (i + 1) : Int) : Rat) + ((mm.2 * x.2 : Int) : Rat) / ((Cs.wt t ^ (i + 1) : Int) : Rat) = (((gLook f1 (act mm.1 x.1)).getD 0 + mm.2 * x.2 : Int) : Rat) / ((Cs.wt t ^ (i + 1) : Int) : Rat) := by
                rw [Rat.intCast_add]; grind
              rw [e2] at d8
              refine ⟨gAdd kv3 (act mm.1 x.1) v8, dv3, _, _, _, _, rfl, fun b o nb e => by rw [upd_ne nb]; exact s8 _ _ (fm7 b o nb e), (tk7.trans (.of s8)).trans tk9, by rw [upd_same]; exact congrArg (fun z => some (HO.dT z)) (gV_put (val := id) kv3 (act mm.1 x.1) v8), ?_, ?_⟩
              · rw [drop_addM_ne _ _ _ _ hqg, frM_addM, gDrop_look, if_neg hqg]
                exact ((fr7.mono (.of s8)).add _ d8).mono tk9
              · rw [look_addM, if_neg (fun z => hqg z.symm), Int.add_zero]
                exact (hdv7.ups s8).up tk9
          · obtain ⟨kv3, dv3, z13, z14, z15, z24, rfl, fm, tk3, gL3, frL3, hdv3⟩ := hP
            rw [toldD_len, List.take_length] at frL3 hdv3
            have S3 : Same Hb G3 := fun b' o e => fm _ _ (ne_of_none e nL) (Sg _ _ e)
            exact ⟨kv3, dv3, _, _, _, _, _, rfl, S3, fm _ _ (Ne.symm hLN) gN, gL3, frK.mono tk3, frL3, hdv3⟩
        · obtain ⟨kv2, dv2, y12, y13, y14, y15, y24, rfl, Sg, gN, gL, frK, frL, hdv2⟩ := hP
          rw [lk, List.take_length] at frL hdv2
          refine ⟨gN, ?_⟩
          ((try dsimp only); repeat infer_instance)
          have tkN : Tk G (upd G N (.dT (gV id kvs))) := Tk.put fun ys e => by rw [gN] at e; cases e
          refine ⟨L2, kv2, dv2, _, _, _, _, _, _, _, rfl, upd_keep Sg nN, nL, (upd_ne hLN).trans gL, frL.mono tkN, ?_⟩
          rw [eall]
          exact hdv2.up tkN
      · obtain ⟨N, kvs, dv, x12, x13, x14, x15, x22, x23, x24, rfl, Si, nN, eN, fr, hdv⟩ := hP
        ((try dsimp only); repeat infer_instance)
        refine ⟨r, c, t, s, g, v, _, vg, k, rfl, hb, ht.ups Si, ok, hs.ups Si, hps, hg.ups Si, hpg, k5, fun v30 H30 s30 d30 => ?_⟩
        ((try dsimp only); repeat infer_instance)
        exact .inr (.inr ⟨_, _, _, rfl, rfl, d30, hdv.ups s30, fun H31 _ => q _⟩)

end Cz

set_option Elab.async false
set_option linter.all false
set_option maxRecDepth 100000
set_option maxHeartbeats 4000000
namespace Cz
open PySem L2
/-- where a def of the top stands -/
def DefAt (K : PySem.W.Frag) (x : Str) (st : Stmt) : Prop := ∃ (f : Addr) (oc : Value) (od an : Option Addr) (osl : Array (Option Value)) (kV doc pm cdv ct : Value),
  PySem.W.nsIn K mainGlobals x = some (some (.ref f)) ∧ K.lookup f = some ⟨oc, od, .func (PySem.W.fnOf x x (defArgs st) (defBody st) (defScope st) .none kV doc pm an cdv ct), osl⟩ ∧ PySem.W.codeIn K cdv x = true ∧ PySem.W.keepIn K (.ref f) = true
theorem def_at {K : PySem.W.Frag} {x : Str} {st : Stmt} {f : Addr} {oc : Value} {od an : Option Addr} {osl : Array (Option Value)} {kV doc pm cdv ct : Value} (a : PySem.W.nsIn K mainGlobals x = some (some (.ref f)))
    (l : K.lookup f = some ⟨oc, od, .func (PySem.W.fnOf x x (defArgs st) (defBody st) (defScope st) .none kV doc pm an cdv ct), osl⟩) (c : PySem.W.codeIn K cdv x = true) (k : PySem.W.keepIn K (.ref f) = true) : DefAt K x st := ⟨f, oc, od, an, osl, kV, doc, pm, cdv, ct, a, l, c, k⟩
theorem dn_mk {P : Program} {w : World} {K : PySem.W.Frag} {h : Heap} {mg : Str → Option Value} {base : Heap} {x : Str} {st : Stmt} {ps : List Str} {k : Nat} {sp : Sp} (D : DefAt K x st) (X : K.In h) (G : h.Ns mainGlobals mg)
    (hb : ∀ {f : Addr} {fd : FuncData}, Fun K x x st f fd → Binds K fd ps []) (ok : ∀ f fd, Fun K x x st f fd → FnOk P w K mg base CX0 k f fd ps sp) : Dn P w K mg base x ps k sp := by
  obtain ⟨f, oc, od, an, osl, kV, doc, pm, cdv, ct, a, l, c, kk⟩ := D
  have F := fun_mk (st := st) l c kk
  exact ⟨f, _, PySem.W.mg_of X G a, kk, hb F, ok f _ F⟩
theorem all_mk {l : PySem.W.OpenLaw} {w : World} {K : PySem.W.Frag} {h : Heap} {mg : Str → Option Value} {fa : Addr} (X : K.In h) (G : h.Ns mainGlobals mg) (hfa : mg "law" = some (.ref fa))
    (d_is_int : DefAt K "is_int" s_is_int)
    (d_is_in : DefAt K "is_in" s_is_in)
    (d_need_number : DefAt K "need_number" s_need_number)
    (d_need_board : DefAt K "need_board" s_need_board)
    (d_need_cells : DefAt K "need_cells" s_need_cells)
    (d_is_picture : DefAt K "is_picture" s_is_picture)
    (d_need_picture : DefAt K "need_picture" s_need_picture)
    (d_are_strokes : DefAt K "are_strokes" s_are_strokes)
    (d_painted_line : DefAt K "painted_line" s_painted_line)
    (d_laid : DefAt K "laid" s_laid)
    (d_normal_of : DefAt K "normal_of" s_normal_of)
    (d_is_effect_of : DefAt K "is_effect_of" s_is_effect_of)
    (d_common : DefAt K "common" s_common)
    (d_lowered : DefAt K "lowered" s_lowered)
    (d_minus : DefAt K "minus" s_minus)
    (d_times : DefAt K "times" s_times)
    (d_over : DefAt K "over" s_over)
    (d_solved : DefAt K "solved" s_solved)
    (d_tidied : DefAt K "tidied" s_tidied)
    (d_is_measure_of : DefAt K "is_measure_of" s_is_measure_of)
    (d_need_measure : DefAt K "need_measure" s_need_measure)
    (d_weight_of : DefAt K "weight_of" s_weight_of)
    (d_need_chain : DefAt K "need_chain" s_need_chain)
    (d_stepped : DefAt K "stepped" s_stepped)
    (d_reached : DefAt K "reached" s_reached)
    (d_can_come : DefAt K "can_come" s_can_come)
    (d_surely : DefAt K "surely" s_surely)
    (d_must_come : DefAt K "must_come" s_must_come)
    (d_before : DefAt K "before" s_before)
    (d_mean_wait : DefAt K "mean_wait" s_mean_wait)
    (d_come_by : DefAt K "come_by" s_come_by)
    (d__law_taken : DefAt K "_law_taken" s__law_taken)
    (d__law_pick : DefAt K "_law_pick" s__law_pick)
    (d__law_alike : DefAt K "_law_alike" s__law_alike)
    (d__law_whole : DefAt K "_law_whole" s__law_whole)
    (d__law_picture : DefAt K "_law_picture" s__law_picture)
    (d__law_stroke : DefAt K "_law_stroke" s__law_stroke)
    (d__law_strokes : DefAt K "_law_strokes" s__law_strokes)
    (d__law_normal : DefAt K "_law_normal" s__law_normal)
    (d__law_common : DefAt K "_law_common" s__law_common)
    (d__law_share : DefAt K "_law_share" s__law_share)
    (d__law_plus : DefAt K "_law_plus" s__law_plus)
    (d__law_times : DefAt K "_law_times" s__law_times)
    (d__law_throws : DefAt K "_law_throws" s__law_throws)
    (d__law_measure : DefAt K "_law_measure" s__law_measure)
    (d__law_board : DefAt K "_law_board" s__law_board)
    (d__law_reach : DefAt K "_law_reach" s__law_reach)
    (d_law : DefAt K "law" s_law)
    (b0 : PySem.W.nsIn K mainGlobals "len" = some none)
    (b1 : PySem.W.nsIn K mainGlobals "range" = some none)
    (b2 : PySem.W.nsIn K mainGlobals "isinstance" = some none)
    (b3 : PySem.W.nsIn K mainGlobals "all" = some none)
    (b4 : PySem.W.nsIn K mainGlobals "list" = some none)
    (b5 : PySem.W.nsIn K mainGlobals "tuple" = some none)
    (b6 : PySem.W.nsIn K mainGlobals "sum" = some none)
    (b7 : PySem.W.nsIn K mainGlobals "sorted" = some none)
    (b8 : PySem.W.nsIn K mainGlobals "zip" = some none)
    (b9 : PySem.W.nsIn K mainGlobals "dict" = some none)
    (b10 : PySem.W.nsIn K mainGlobals "enumerate" = some none)
    (b11 : PySem.W.nsIn K mainGlobals "abs" = some none)
    (b12 : PySem.W.nsIn K mainGlobals "int" = some none)
    (b13 : PySem.W.nsIn K mainGlobals "str" = some none)
    (b14 : PySem.W.nsIn K mainGlobals "bool" = some none)
    {t0 t1 t2 t3 t4 t5 : Tok}
    (c0 : PySem.W.nsIn K mainGlobals "MOST_SIDE" = some (some (.int 12 t0)))
    (c1 : PySem.W.nsIn K mainGlobals "BLACK" = some (some (.str "#" t1)))
    (c2 : PySem.W.nsIn K mainGlobals "WHITE" = some (some (.str "." t2)))
    (c3 : PySem.W.nsIn K mainGlobals "MOST_LISTED" = some (some (.int 500 t3)))
    (c4 : PySem.W.nsIn K mainGlobals "MOST_POWER" = some (some (.int 200 t4)))
    (c5 : PySem.W.nsIn K mainGlobals "MOST_CELLS" = some (some (.int 6 t5)))
    : ∃ fd : FuncData, (∀ (s : Shared) (v : Value), BindsTo s fd ⟨[v], []⟩ [("_law_script", v)]) ∧ ∀ base : Heap, K.In base → base.Ns mainGlobals mg → FnOk l.prog w K mg base CX0 9 fa fd ["_law_script"] (sp_law K) := by
  have Z : Bl mg := ⟨PySem.W.mg_none_of X G b0, PySem.W.mg_none_of X G b1, PySem.W.mg_none_of X G b2, PySem.W.mg_none_of X G b3, PySem.W.mg_none_of X G b4, PySem.W.mg_none_of X G b5, PySem.W.mg_none_of X G b6, PySem.W.mg_none_of X G b7, PySem.W.mg_none_of X G b8, PySem.W.mg_none_of X G b9, PySem.W.mg_none_of X G b10, PySem.W.mg_none_of X G b11, PySem.W.mg_none_of X G b12, PySem.W.mg_none_of X G b13, PySem.W.mg_none_of X G b14⟩
  have C : Ct mg := ⟨⟨_, PySem.W.mg_of X G c0⟩, ⟨_, PySem.W.mg_of X G c1⟩, ⟨_, PySem.W.mg_of X G c2⟩, ⟨_, PySem.W.mg_of X G c3⟩, ⟨_, PySem.W.mg_of X G c4⟩, ⟨_, PySem.W.mg_of X G c5⟩⟩
  obtain ⟨fl, oc, od, an, osl, kV, doc, pm, cdv, ct, aL, lL, cL, kL⟩ := d_law
  have e := hfa.symm.trans (PySem.W.mg_of X G aL)
  cases e
  refine ⟨PySem.W.fnOf "law" "law" (defArgs s_law) (defBody s_law) (defScope s_law) .none kV doc pm an cdv ct, fun s v => .of_eq rfl, fun base _ _ => ?_⟩
  have D_is_int : Dn l.prog w K mg base "is_int" ["value"] 1 (sp_is_int K) := dn_mk d_is_int X G (fun F => F.binds (ps := ["value"]) fun _ _ _ _ _ _ us hl => match us, hl with | [_], _ => rfl) (fun f fd F => ok_is_int F Z C)
  have D_is_in : Dn l.prog w K mg base "is_in" ["value", "least", "most"] 2 (sp_is_in K) := dn_mk d_is_in X G (fun F => F.binds (ps := ["value", "least", "most"]) fun _ _ _ _ _ _ us hl => match us, hl with | [_, _, _], _ => rfl) (fun f fd F => ok_is_in F Z C D_is_int)
  have D_need_number : Dn l.prog w K mg base "need_number" ["value", "least", "most"] 3 (sp_need_number K) := dn_mk d_need_number X G (fun F => F.binds (ps := ["value", "least", "most"]) fun _ _ _ _ _ _ us hl => match us, hl with | [_, _, _], _ => rfl) (fun f fd F => ok_need_number F Z C D_is_in)
  have D_need_board : Dn l.prog w K mg base "need_board" ["rows", "columns"] 4 (sp_need_board K) := dn_mk d_need_board X G (fun F => F.binds (ps := ["rows", "columns"]) fun _ _ _ _ _ _ us hl => match us, hl with | [_, _], _ => rfl) (fun f fd F => ok_need_board F Z C D_need_number)
  have D_need_cells : Dn l.prog w K mg base "need_cells" ["rows", "columns", "most"] 5 (sp_need_cells K) := dn_mk d_need_cells X G (fun F => F.binds (ps := ["rows", "columns", "most"]) fun _ _ _ _ _ _ us hl => match us, hl with | [_, _, _], _ => rfl) (fun f fd F => ok_need_cells F Z C D_need_board)
  have D_is_picture : Dn l.prog w K mg base "is_picture" ["value"] 1 (sp_is_picture K) := dn_mk d_is_picture X G (fun F => F.binds (ps := ["value"]) fun _ _ _ _ _ _ us hl => match us, hl with | [_], _ => rfl) (fun f fd F => ok_is_picture F Z C)
  have D_need_picture : Dn l.prog w K mg base "need_picture" ["rows", "columns", "value"] 2 (sp_need_picture K) := dn_mk d_need_picture X G (fun F => F.binds (ps := ["rows", "columns", "value"]) fun _ _ _ _ _ _ us hl => match us, hl with | [_, _, _], _ => rfl) (fun f fd F => ok_need_picture F Z C D_is_picture)
  have D_are_strokes : Dn l.prog w K mg base "are_strokes" ["rows", "columns", "value"] 3 (sp_are_strokes K) := dn_mk d_are_strokes X G (fun F => F.binds (ps := ["rows", "columns", "value"]) fun _ _ _ _ _ _ us hl => match us, hl with | [_, _, _], _ => rfl) (fun f fd F => ok_are_strokes F Z C D_is_in)
  have D_painted_line : Dn l.prog w K mg base "painted_line" ["picture", "line"] 1 (sp_painted_line K) := dn_mk d_painted_line X G (fun F => F.binds (ps := ["picture", "line"]) fun _ _ _ _ _ _ us hl => match us, hl with | [_, _], _ => rfl) (fun f fd F => ok_painted_line F Z C)
  have D_laid : Dn l.prog w K mg base "laid" ["picture", "effect"] 2 (sp_laid K) := dn_mk d_laid X G (fun F => F.binds (ps := ["picture", "effect"]) fun _ _ _ _ _ _ us hl => match us, hl with | [_, _], _ => rfl) (fun f fd F => ok_laid F Z C D_painted_line)
  have D_normal_of : Dn l.prog w K mg base "normal_of" ["rows", "columns", "strokes"] 1 (sp_normal_of K) := dn_mk d_normal_of X G (fun F => F.binds (ps := ["rows", "columns", "strokes"]) fun _ _ _ _ _ _ us hl => match us, hl with | [_, _, _], _ => rfl) (fun f fd F => ok_normal_of F Z C)
  have D_is_effect_of : Dn l.prog w K mg base "is_effect_of" ["rows", "columns", "value"] 4 (sp_is_effect_of K) := dn_mk d_is_effect_of X G (fun F => F.binds (ps := ["rows", "columns", "value"]) fun _ _ _ _ _ _ us hl => match us, hl with | [_, _, _], _ => rfl) (fun f fd F => ok_is_effect_of F Z C D_are_strokes D_normal_of)
  have D_common : Dn l.prog w K mg base "common" ["one", "other"] 1 (sp_common K) := dn_mk d_common X G (fun F => F.binds (ps := ["one", "other"]) fun _ _ _ _ _ _ us hl => match us, hl with | [_, _], _ => rfl) (fun f fd F => ok_common F Z C)
  have D_lowered : Dn l.prog w K mg base "lowered" ["above", "low"] 2 (sp_lowered K) := dn_mk d_lowered X G (fun F => F.binds (ps := ["above", "low"]) fun _ _ _ _ _ _ us hl => match us, hl with | [_, _], _ => rfl) (fun f fd F => ok_lowered F Z C D_common)
  have D_minus : Dn l.prog w K mg base "minus" ["one", "other"] 3 (sp_minus K) := dn_mk d_minus X G (fun F => F.binds (ps := ["one", "other"]) fun _ _ _ _ _ _ us hl => match us, hl with | [_, _], _ => rfl) (fun f fd F => ok_minus F Z C D_lowered)
  have D_times : Dn l.prog w K mg base "times" ["one", "other"] 3 (sp_times K) := dn_mk d_times X G (fun F => F.binds (ps := ["one", "other"]) fun _ _ _ _ _ _ us hl => match us, hl with | [_, _], _ => rfl) (fun f fd F => ok_times F Z C D_lowered)
  have D_over : Dn l.prog w K mg base "over" ["one", "other"] 3 (sp_over K) := dn_mk d_over X G (fun F => F.binds (ps := ["one", "other"]) fun _ _ _ _ _ _ us hl => match us, hl with | [_, _], _ => rfl) (fun f fd F => ok_over F Z C D_lowered)
  have D_solved : Dn l.prog w K mg base "solved" ["rows", "sides"] 4 (sp_solved K) := dn_mk d_solved X G (fun F => F.binds (ps := ["rows", "sides"]) fun _ _ _ _ _ _ us hl => match us, hl with | [_, _], _ => rfl) (fun f fd F => ok_solved F Z C D_minus D_over D_times)
  have D_tidied : Dn l.prog w K mg base "tidied" ["told"] 2 (sp_tidied K) := dn_mk d_tidied X G (fun F => F.binds (ps := ["told"]) fun _ _ _ _ _ _ us hl => match us, hl with | [_], _ => rfl) (fun f fd F => ok_tidied F Z C D_common)
  have D_is_measure_of : Dn l.prog w K mg base "is_measure_of" ["rows", "columns", "value"] 5 (sp_is_measure_of K) := dn_mk d_is_measure_of X G (fun F => F.binds (ps := ["rows", "columns", "value"]) fun _ _ _ _ _ _ us hl => match us, hl with | [_, _, _], _ => rfl) (fun f fd F => ok_is_measure_of F Z C D_is_effect_of D_is_int D_tidied)
  have D_need_measure : Dn l.prog w K mg base "need_measure" ["rows", "columns", "value"] 6 (sp_need_measure K) := dn_mk d_need_measure X G (fun F => F.binds (ps := ["rows", "columns", "value"]) fun _ _ _ _ _ _ us hl => match us, hl with | [_, _, _], _ => rfl) (fun f fd F => ok_need_measure F Z C D_is_measure_of D_need_board)
  have D_weight_of : Dn l.prog w K mg base "weight_of" ["told"] 1 (sp_weight_of K) := dn_mk d_weight_of X G (fun F => F.binds (ps := ["told"]) fun _ _ _ _ _ _ us hl => match us, hl with | [_], _ => rfl) (fun f fd F => ok_weight_of F Z C)
  have D_need_chain : Dn l.prog w K mg base "need_chain" ["rows", "columns", "told"] 7 (sp_need_chain K) := dn_mk d_need_chain X G (fun F => F.binds (ps := ["rows", "columns", "told"]) fun _ _ _ _ _ _ us hl => match us, hl with | [_, _, _], _ => rfl) (fun f fd F => ok_need_chain F Z C D_need_cells D_need_measure)
  have D_stepped : Dn l.prog w K mg base "stepped" ["told", "now"] 3 (sp_stepped K) := dn_mk d_stepped X G (fun F => F.binds (ps := ["told", "now"]) fun _ _ _ _ _ _ us hl => match us, hl with | [_, _], _ => rfl) (fun f fd F => ok_stepped F Z C D_laid)
  have D_reached : Dn l.prog w K mg base "reached" ["told", "start"] 3 (sp_reached K) := dn_mk d_reached X G (fun F => F.binds (ps := ["told", "start"]) fun _ _ _ _ _ _ us hl => match us, hl with | [_, _], _ => rfl) (fun f fd F => ok_reached F Z C D_laid)
  have D_can_come : Dn l.prog w K mg base "can_come" ["rows", "columns", "told", "start", "goal"] 8 (sp_can_come K) := dn_mk d_can_come X G (fun F => F.binds (ps := ["rows", "columns", "told", "start", "goal"]) fun _ _ _ _ _ _ us hl => match us, hl with | [_, _, _, _, _], _ => rfl) (fun f fd F => ok_can_come F Z C D_need_chain D_need_picture D_reached)
  have D_surely : Dn l.prog w K mg base "surely" ["told", "start", "goal"] 4 (sp_surely K) := dn_mk d_surely X G (fun F => F.binds (ps := ["told", "start", "goal"]) fun _ _ _ _ _ _ us hl => match us, hl with | [_, _, _], _ => rfl) (fun f fd F => ok_surely F Z C D_laid D_reached)
  have D_must_come : Dn l.prog w K mg base "must_come" ["rows", "columns", "told", "start", "goal"] 8 (sp_must_come K) := dn_mk d_must_come X G (fun F => F.binds (ps := ["rows", "columns", "told", "start", "goal"]) fun _ _ _ _ _ _ us hl => match us, hl with | [_, _, _, _, _], _ => rfl) (fun f fd F => ok_must_come F Z C D_need_chain D_need_picture D_surely)
  have D_before : Dn l.prog w K mg base "before" ["told", "start", "goal"] 3 (sp_before K) := dn_mk d_before X G (fun F => F.binds (ps := ["told", "start", "goal"]) fun _ _ _ _ _ _ us hl => match us, hl with | [_, _, _], _ => rfl) (fun f fd F => ok_before F Z C D_laid)
  have D_mean_wait : Dn l.prog w K mg base "mean_wait" ["rows", "columns", "told", "start", "goal"] 8 (sp_mean_wait K) := dn_mk d_mean_wait X G (fun F => F.binds (ps := ["rows", "columns", "told", "start", "goal"]) fun _ _ _ _ _ _ us hl => match us, hl with | [_, _, _, _, _], _ => rfl) (fun f fd F => ok_mean_wait F Z C D_before D_lowered D_minus D_need_chain D_need_picture D_solved D_stepped D_surely D_weight_of)
  have D_come_by : Dn l.prog w K mg base "come_by" ["rows", "columns", "told", "start", "goal", "many"] 8 (sp_come_by K) := dn_mk d_come_by X G (fun F => F.binds (ps := ["rows", "columns", "told", "start", "goal", "many"]) fun _ _ _ _ _ _ us hl => match us, hl with | [_, _, _, _, _, _], _ => rfl) (fun f fd F => ok_come_by F Z C D_lowered D_need_chain D_need_number D_need_picture D_stepped D_weight_of)
  have D_law_taken : Dn l.prog w K mg base "_law_taken" ["_law_row", "_law_many"] 1 (sp__law_taken K) := dn_mk d__law_taken X G (fun F => F.binds (ps := ["_law_row", "_law_many"]) fun _ _ _ _ _ _ us hl => match us, hl with | [_, _], _ => rfl) (fun f fd F => ok__law_taken F Z C)
  have D_law_pick : Dn l.prog w K mg base "_law_pick" ["_law_row", "_law_things"] 2 (sp__law_pick K) := dn_mk d__law_pick X G (fun F => F.binds (ps := ["_law_row", "_law_things"]) fun _ _ _ _ _ _ us hl => match us, hl with | [_, _], _ => rfl) (fun f fd F => ok__law_pick F Z C D_law_taken)
  have D0 : Dn l.prog w K mg base "_law_alike" ["_law_found", "_law_due"] 0 (fun _ _ _ _ => False) := dn_mk d__law_alike X G (fun F => F.binds (ps := ["_law_found", "_law_due"]) fun _ _ _ _ _ _ us hl => match us, hl with | [_, _], _ => rfl) (fun f fd F => ⟨fun _ _ _ _ h => h.elim, fun _ _ _ _ _ _ _ _ _ _ _ _ _ h => h.elim⟩)
  have D1 : Dn l.prog w K mg base "_law_alike" ["_law_found", "_law_due"] 1 (sp__law_alike false K) := dn_mk d__law_alike X G (fun F => F.binds (ps := ["_law_found", "_law_due"]) fun _ _ _ _ _ _ us hl => match us, hl with | [_, _], _ => rfl) (fun f fd F => ok__law_alike F Z C false 0 _ (fun h => nomatch h) D0)
  have D_law_alike : Dn l.prog w K mg base "_law_alike" ["_law_found", "_law_due"] 3 (sp__law_alike true K) := dn_mk d__law_alike X G (fun F => F.binds (ps := ["_law_found", "_law_due"]) fun _ _ _ _ _ _ us hl => match us, hl with | [_, _], _ => rfl) (fun f fd F => (ok__law_alike F Z C true 1 _ (fun _ i _ _ _ q => .inr (.inl ⟨i, rfl, q⟩)) D1).mono (by decide))
  have D_law_whole : Dn l.prog w K mg base "_law_whole" ["_law_told"] 1 (sp__law_whole K) := dn_mk d__law_whole X G (fun F => F.binds (ps := ["_law_told"]) fun _ _ _ _ _ _ us hl => match us, hl with | [_], _ => rfl) (fun f fd F => ok__law_whole F Z C)
  have D_law_picture : Dn l.prog w K mg base "_law_picture" ["_law_row", "_law_high", "_law_wide"] 3 (sp__law_picture K) := dn_mk d__law_picture X G (fun F => F.binds (ps := ["_law_row", "_law_high", "_law_wide"]) fun _ _ _ _ _ _ us hl => match us, hl with | [_, _, _], _ => rfl) (fun f fd F => ok__law_picture F Z C D_law_pick)
  have D_law_stroke : Dn l.prog w K mg base "_law_stroke" ["_law_picture_here", "_law_line"] 1 (sp__law_stroke K) := dn_mk d__law_stroke X G (fun F => F.binds (ps := ["_law_picture_here", "_law_line"]) fun _ _ _ _ _ _ us hl => match us, hl with | [_, _], _ => rfl) (fun f fd F => ok__law_stroke F Z C)
  have D_law_strokes : Dn l.prog w K mg base "_law_strokes" ["_law_picture_here", "_law_lines"] 2 (sp__law_strokes K) := dn_mk d__law_strokes X G (fun F => F.binds (ps := ["_law_picture_here", "_law_lines"]) fun _ _ _ _ _ _ us hl => match us, hl with | [_, _], _ => rfl) (fun f fd F => ok__law_strokes F Z C D_law_stroke)
  have D_law_normal : Dn l.prog w K mg base "_law_normal" ["_law_high", "_law_wide", "_law_lines"] 1 (sp__law_normal K) := dn_mk d__law_normal X G (fun F => F.binds (ps := ["_law_high", "_law_wide", "_law_lines"]) fun _ _ _ _ _ _ us hl => match us, hl with | [_, _, _], _ => rfl) (fun f fd F => ok__law_normal F Z C)
  have D_law_common : Dn l.prog w K mg base "_law_common" ["_law_one", "_law_other"] 1 (sp__law_common K) := dn_mk d__law_common X G (fun F => F.binds (ps := ["_law_one", "_law_other"]) fun _ _ _ _ _ _ us hl => match us, hl with | [_, _], _ => rfl) (fun f fd F => ok__law_common F Z C)
  have D_law_share : Dn l.prog w K mg base "_law_share" ["_law_above", "_law_low"] 2 (sp__law_share K) := dn_mk d__law_share X G (fun F => F.binds (ps := ["_law_above", "_law_low"]) fun _ _ _ _ _ _ us hl => match us, hl with | [_, _], _ => rfl) (fun f fd F => ok__law_share F Z C D_law_common)
  have D_law_plus : Dn l.prog w K mg base "_law_plus" ["_law_one", "_law_other"] 3 (sp__law_plus K) := dn_mk d__law_plus X G (fun F => F.binds (ps := ["_law_one", "_law_other"]) fun _ _ _ _ _ _ us hl => match us, hl with | [_, _], _ => rfl) (fun f fd F => ok__law_plus F Z C D_law_share)
  have D_law_times : Dn l.prog w K mg base "_law_times" ["_law_one", "_law_other"] 3 (sp__law_times K) := dn_mk d__law_times X G (fun F => F.binds (ps := ["_law_one", "_law_other"]) fun _ _ _ _ _ _ us hl => match us, hl with | [_, _], _ => rfl) (fun f fd F => ok__law_times F Z C D_law_share)
  have D_law_throws : Dn l.prog w K mg base "_law_throws" ["_law_row", "_law_high", "_law_wide", "_law_most"] 3 (sp__law_throws K) := dn_mk d__law_throws X G (fun F => F.binds (ps := ["_law_row", "_law_high", "_law_wide", "_law_most"]) fun _ _ _ _ _ _ us hl => match us, hl with | [_, _, _, _], _ => rfl) (fun f fd F => ok__law_throws F Z C D_law_pick D_law_taken)
  have D_law_measure : Dn l.prog w K mg base "_law_measure" ["_law_high", "_law_wide", "_law_throws_here"] 2 (sp__law_measure K) := dn_mk d__law_measure X G (fun F => F.binds (ps := ["_law_high", "_law_wide", "_law_throws_here"]) fun _ _ _ _ _ _ us hl => match us, hl with | [_, _, _], _ => rfl) (fun f fd F => ok__law_measure F Z C D_law_common D_law_normal)
  have D_law_board : Dn l.prog w K mg base "_law_board" ["_law_row"] 3 (sp__law_board K) := dn_mk d__law_board X G (fun F => F.binds (ps := ["_law_row"]) fun _ _ _ _ _ _ us hl => match us, hl with | [_], _ => rfl) (fun f fd F => ok__law_board F Z C D_law_pick)
  have D_law_reach : Dn l.prog w K mg base "_law_reach" ["_law_told", "_law_start"] 3 (sp__law_reach K) := dn_mk d__law_reach X G (fun F => F.binds (ps := ["_law_told", "_law_start"]) fun _ _ _ _ _ _ us hl => match us, hl with | [_, _], _ => rfl) (fun f fd F => ok__law_reach F Z C D_law_strokes)
  exact ok_law (fun_mk (st := s_law) lL cL kL) Z C D_law_alike D_law_board D_law_measure D_law_picture D_law_plus D_law_reach D_law_share D_law_strokes D_law_taken D_law_throws D_law_times D_law_whole D_can_come D_come_by D_mean_wait D_must_come
theorem walk {l : PySem.W.OpenLaw} {q : Program} {loose : List Str} {XP : (Str → Option Value) → Heap → Prop} {YP : World → Heap → Prop} {d : DefRec} {K : Params → PySem.W.Frag} (hn : l.most = some 63) (hdf : d.params.defaults = [])
    (hY : ∀ (w : World) (h : Heap), YP w h → (K w.params).In h)
    (F : ∀ (w : World) (mg : Str → Option Value) (fa : Addr) (h : Heap), (K w.params).In h → h.Ns mainGlobals mg → mg d.name = some (.ref fa) →
      ∃ fd : FuncData, (∀ (s : Shared) (u : Value), BindsTo s fd ⟨[u], []⟩ [("_law_script", u)]) ∧ ∀ base : Heap, (K w.params).In base → base.Ns mainGlobals mg → FnOk l.prog w (K w.params) mg base CX0 9 fa fd ["_law_script"] (sp_law (K w.params))) :
    PySem.W.WalkO q loose XP YP l.row.toRowW d [] (fun f vs => PySem.call f vs) :=
  L2.walk_of (n := 63) (k := 9) (x := "_law_script") (CX := fun _ => CX0) (sp := fun w => sp_law (K w.params)) hn (by decide) hdf ⟨rfl, by decide, by decide⟩ hY F (fun _ _ a ns hl _ hS => ⟨a, ns, rfl, hS, fun _ => rfl⟩) fun _ _ _ _ _ z => z
end Cz

set_option Elab.async false
set_option linter.all false
set_option maxRecDepth 100000
set_option maxHeartbeats 4000000
open PySem PySem.W PyProof.Rows in
set_option maxRecDepth 100000 in
set_option maxHeartbeats 0 in
theorem PySem.Challenge.cw_chancestrokes_k14_whole_waits_holds : PySem.Challenge.rw_chancestrokes_k14_whole_waits.Holds := by
  w_on; o_law; k_head; (case hw => w_witness2)
  k_fill
  refine Cz.walk (l := PySem.Challenge.rw_chancestrokes_k14_whole_waits) rfl rfl (fun w h Y => PySem.W.kIn_of Y) ?F
  case F =>
    intro w mg fa h KX G hmg
    refine' Cz.all_mk KX G hmg ?d_is_int ?d_is_in ?d_need_number ?d_need_board ?d_need_cells ?d_is_picture ?d_need_picture ?d_are_strokes ?d_painted_line ?d_laid ?d_normal_of ?d_is_effect_of ?d_common ?d_lowered ?d_minus ?d_times ?d_over ?d_solved ?d_tidied ?d_is_measure_of ?d_need_measure ?d_weight_of ?d_need_chain ?d_stepped ?d_reached ?d_can_come ?d_surely ?d_must_come ?d_before ?d_mean_wait ?d_come_by ?d__law_taken ?d__law_pick ?d__law_alike ?d__law_whole ?d__law_picture ?d__law_stroke ?d__law_strokes ?d__law_normal ?d__law_common ?d__law_share ?d__law_plus ?d__law_times ?d__law_throws ?d__law_measure ?d__law_board ?d__law_reach ?d_law ?b0 ?b1 ?b2 ?b3 ?b4 ?b5 ?b6 ?b7 ?b8 ?b9 ?b10 ?b11 ?b12 ?b13 ?b14 ?c0 ?c1 ?c2 ?c3 ?c4 ?c5
    (case d_is_int => refine' Cz.def_at ?a ?l ?c ?k; (case a => k_is); (case l => k_is); (case c => k_is); (case k => k_is))
    (case d_is_in => refine' Cz.def_at ?a ?l ?c ?k; (case a => k_is); (case l => k_is); (case c => k_is); (case k => k_is))
    (case d_need_number => refine' Cz.def_at ?a ?l ?c ?k; (case a => k_is); (case l => k_is); (case c => k_is); (case k => k_is))
    (case d_need_board => refine' Cz.def_at ?a ?l ?c ?k; (case a => k_is); (case l => k_is); (case c => k_is); (case k => k_is))
    (case d_need_cells => refine' Cz.def_at ?a ?l ?c ?k; (case a => k_is); (case l => k_is); (case c => k_is); (case k => k_is))
    (case d_is_picture => refine' Cz.def_at ?a ?l ?c ?k; (case a => k_is); (case l => k_is); (case c => k_is); (case k => k_is))
    (case d_need_picture => refine' Cz.def_at ?a ?l ?c ?k; (case a => k_is); (case l => k_is); (case c => k_is); (case k => k_is))
    (case d_are_strokes => refine' Cz.def_at ?a ?l ?c ?k; (case a => k_is); (case l => k_is); (case c => k_is); (case k => k_is))
    (case d_painted_line => refine' Cz.def_at ?a ?l ?c ?k; (case a => k_is); (case l => k_is); (case c => k_is); (case k => k_is))
    (case d_laid => refine' Cz.def_at ?a ?l ?c ?k; (case a => k_is); (case l => k_is); (case c => k_is); (case k => k_is))
    (case d_normal_of => refine' Cz.def_at ?a ?l ?c ?k; (case a => k_is); (case l => k_is); (case c => k_is); (case k => k_is))
    (case d_is_effect_of => refine' Cz.def_at ?a ?l ?c ?k; (case a => k_is); (case l => k_is); (case c => k_is); (case k => k_is))
    (case d_common => refine' Cz.def_at ?a ?l ?c ?k; (case a => k_is); (case l => k_is); (case c => k_is); (case k => k_is))
    (case d_lowered => refine' Cz.def_at ?a ?l ?c ?k; (case a => k_is); (case l => k_is); (case c => k_is); (case k => k_is))
    (case d_minus => refine' Cz.def_at ?a ?l ?c ?k; (case a => k_is); (case l => k_is); (case c => k_is); (case k => k_is))
    (case d_times => refine' Cz.def_at ?a ?l ?c ?k; (case a => k_is); (case l => k_is); (case c => k_is); (case k => k_is))
    (case d_over => refine' Cz.def_at ?a ?l ?c ?k; (case a => k_is); (case l => k_is); (case c => k_is); (case k => k_is))
    (case d_solved => refine' Cz.def_at ?a ?l ?c ?k; (case a => k_is); (case l => k_is); (case c => k_is); (case k => k_is))
    (case d_tidied => refine' Cz.def_at ?a ?l ?c ?k; (case a => k_is); (case l => k_is); (case c => k_is); (case k => k_is))
    (case d_is_measure_of => refine' Cz.def_at ?a ?l ?c ?k; (case a => k_is); (case l => k_is); (case c => k_is); (case k => k_is))
    (case d_need_measure => refine' Cz.def_at ?a ?l ?c ?k; (case a => k_is); (case l => k_is); (case c => k_is); (case k => k_is))
    (case d_weight_of => refine' Cz.def_at ?a ?l ?c ?k; (case a => k_is); (case l => k_is); (case c => k_is); (case k => k_is))
    (case d_need_chain => refine' Cz.def_at ?a ?l ?c ?k; (case a => k_is); (case l => k_is); (case c => k_is); (case k => k_is))
    (case d_stepped => refine' Cz.def_at ?a ?l ?c ?k; (case a => k_is); (case l => k_is); (case c => k_is); (case k => k_is))
    (case d_reached => refine' Cz.def_at ?a ?l ?c ?k; (case a => k_is); (case l => k_is); (case c => k_is); (case k => k_is))
    (case d_can_come => refine' Cz.def_at ?a ?l ?c ?k; (case a => k_is); (case l => k_is); (case c => k_is); (case k => k_is))
    (case d_surely => refine' Cz.def_at ?a ?l ?c ?k; (case a => k_is); (case l => k_is); (case c => k_is); (case k => k_is))
    (case d_must_come => refine' Cz.def_at ?a ?l ?c ?k; (case a => k_is); (case l => k_is); (case c => k_is); (case k => k_is))
    (case d_before => refine' Cz.def_at ?a ?l ?c ?k; (case a => k_is); (case l => k_is); (case c => k_is); (case k => k_is))
    (case d_mean_wait => refine' Cz.def_at ?a ?l ?c ?k; (case a => k_is); (case l => k_is); (case c => k_is); (case k => k_is))
    (case d_come_by => refine' Cz.def_at ?a ?l ?c ?k; (case a => k_is); (case l => k_is); (case c => k_is); (case k => k_is))
    (case d__law_taken => refine' Cz.def_at ?a ?l ?c ?k; (case a => k_is); (case l => k_is); (case c => k_is); (case k => k_is))
    (case d__law_pick => refine' Cz.def_at ?a ?l ?c ?k; (case a => k_is); (case l => k_is); (case c => k_is); (case k => k_is))
    (case d__law_alike => refine' Cz.def_at ?a ?l ?c ?k; (case a => k_is); (case l => k_is); (case c => k_is); (case k => k_is))
    (case d__law_whole => refine' Cz.def_at ?a ?l ?c ?k; (case a => k_is); (case l => k_is); (case c => k_is); (case k => k_is))
    (case d__law_picture => refine' Cz.def_at ?a ?l ?c ?k; (case a => k_is); (case l => k_is); (case c => k_is); (case k => k_is))
    (case d__law_stroke => refine' Cz.def_at ?a ?l ?c ?k; (case a => k_is); (case l => k_is); (case c => k_is); (case k => k_is))
    (case d__law_strokes => refine' Cz.def_at ?a ?l ?c ?k; (case a => k_is); (case l => k_is); (case c => k_is); (case k => k_is))
    (case d__law_normal => refine' Cz.def_at ?a ?l ?c ?k; (case a => k_is); (case l => k_is); (case c => k_is); (case k => k_is))
    (case d__law_common => refine' Cz.def_at ?a ?l ?c ?k; (case a => k_is); (case l => k_is); (case c => k_is); (case k => k_is))
    (case d__law_share => refine' Cz.def_at ?a ?l ?c ?k; (case a => k_is); (case l => k_is); (case c => k_is); (case k => k_is))
    (case d__law_plus => refine' Cz.def_at ?a ?l ?c ?k; (case a => k_is); (case l => k_is); (case c => k_is); (case k => k_is))
    (case d__law_times => refine' Cz.def_at ?a ?l ?c ?k; (case a => k_is); (case l => k_is); (case c => k_is); (case k => k_is))
    (case d__law_throws => refine' Cz.def_at ?a ?l ?c ?k; (case a => k_is); (case l => k_is); (case c => k_is); (case k => k_is))
    (case d__law_measure => refine' Cz.def_at ?a ?l ?c ?k; (case a => k_is); (case l => k_is); (case c => k_is); (case k => k_is))
    (case d__law_board => refine' Cz.def_at ?a ?l ?c ?k; (case a => k_is); (case l => k_is); (case c => k_is); (case k => k_is))
    (case d__law_reach => refine' Cz.def_at ?a ?l ?c ?k; (case a => k_is); (case l => k_is); (case c => k_is); (case k => k_is))
    (case d_law => refine' Cz.def_at ?a ?l ?c ?k; (case a => k_is); (case l => k_is); (case c => k_is); (case k => k_is))
    (case b0 => k_is)
    (case b1 => k_is)
    (case b2 => k_is)
    (case b3 => k_is)
    (case b4 => k_is)
    (case b5 => k_is)
    (case b6 => k_is)
    (case b7 => k_is)
    (case b8 => k_is)
    (case b9 => k_is)
    (case b10 => k_is)
    (case b11 => k_is)
    (case b12 => k_is)
    (case b13 => k_is)
    (case b14 => k_is)
    (case c0 => k_is)
    (case c1 => k_is)
    (case c2 => k_is)
    (case c3 => k_is)
    (case c4 => k_is)
    (case c5 => k_is)
