import PyProof.Rows.All
import Wide.All
import OpenK.AllK
import Wide.FinOn
import HandS.ForMost
import HandS.IsInst
import HandS.Deep
import HandS.TupAny
import HandS.TupLe
import HandS.Style
import HandS.Wide
import HandS.SortRule
import HandS.SortInts
import HandS.Star
import HandS.Conv
import HandS.Flow
import HandS.Zip
import HandS.Small
import KE.GoesEnum
import KE.DataCmp
import KE.SortData
import KE.KTupSum
import HandS.HeadHook2
import HandS.Defaults
import PySem.Challenge.RW_idleclauses_k11_whole_halves
import PyProof.ReprRoads
import HandS.HeadEnd
import HandS.SortOrd
import KE.KSortTup
import KE.KSortAsk
import KE.LtSeq
import HandS.More
import KE.KStateDown
import HandS.Head0
import HandS.Head1
import HandS.Head2
import HandS.HeadHook1
set_option Elab.async false
set_option linter.all false
set_option maxRecDepth 100000
set_option maxHeartbeats 4000000
/-! Determinants of columns, by the first row: linear in each column, nothing where two columns are alike. -/
namespace IC

/-- the sum of f 0 .. f (n - 1) -/
def sumN : Nat → (Nat → Int) → Int
  | 0, _ => 0
  | n + 1, f => sumN n f + f n
theorem sumN_congr {n : Nat} {f g : Nat → Int} (h : ∀ k, k < n → f k = g k) : sumN n f = sumN n g := by
  induction n with
  | zero => rfl
  | succ n ih =>
    show sumN n f + f n = sumN n g + g n
    rw [ih fun k hk => h k (by omega), h n (by omega)]
theorem sumN_add (n : Nat) (f g : Nat → Int) : sumN n (fun k => f k + g k) = sumN n f + sumN n g := by
  induction n with
  | zero => rfl
  | succ n ih =>
    show sumN n (fun k => f k + g k) + (f n + g n) = (sumN n f + f n) + (sumN n g + g n)
    rw [ih]; omega
theorem sumN_mul (n : Nat) (x : Int) (f : Nat → Int) : sumN n (fun k => x * f k) = x * sumN n f := by
  induction n with
  | zero => show (0 : Int) = x * 0; omega
  | succ n ih =>
    show sumN n (fun k => x * f k) + x * f n = x * (sumN n f + f n)
    rw [ih, Int.mul_add]
theorem sumN_lin (n : Nat) (x y : Int) (f g : Nat → Int) : sumN n (fun k => x * f k + y * g k) = x * sumN n f + y * sumN n g := by
  rw [sumN_add, sumN_mul, sumN_mul]
theorem sumN_zero {n : Nat} {f : Nat → Int} (h : ∀ k, k < n → f k = 0) : sumN n f = 0 := by
  induction n with
  | zero => rfl
  | succ n ih =>
    show sumN n f + f n = 0
    rw [ih fun k hk => h k (by omega), h n (by omega)]; rfl
theorem sumN_one {n p : Nat} {f : Nat → Int} (hp : p < n) (h : ∀ k, k < n → k ≠ p → f k = 0) : sumN n f = f p := by
  induction n with
  | zero => omega
  | succ n ih =>
    show sumN n f + f n = f p
    by_cases e : p = n
    · subst e
      rw [sumN_zero fun k hk => h k (by omega) (by omega)]; omega
    · rw [ih (by omega) fun k hk hne => h k (by omega) hne, h n (by omega) (fun z => e z.symm)]; omega
theorem sumN_two {n p q : Nat} {f : Nat → Int} (hp : p < n) (hq : q < n) (hpq : p ≠ q) (h : ∀ k, k < n → k ≠ p → k ≠ q → f k = 0) : sumN n f = f p + f q := by
  have e : sumN n f = sumN n (fun k => (if k = p then f p else 0) + (if k = q then f q else 0)) := sumN_congr fun k hk => by
    by_cases e1 : k = p
    · subst e1; simp [hpq]
    · by_cases e2 : k = q
      · subst e2; simp [e1]
      · simp [e1, e2, h k hk e1 e2]
  rw [e, sumN_add, sumN_one hp (fun k _ hk => by simp [hk]), sumN_one hq (fun k _ hk => by simp [hk])]
  simp
theorem sumN_nn {n : Nat} {f : Nat → Int} (h : ∀ k, k < n → 0 ≤ f k) : 0 ≤ sumN n f := by
  induction n with
  | zero => exact Int.le_refl _
  | succ n ih =>
    show 0 ≤ sumN n f + f n
    have := ih fun k hk => h k (by omega)
    have := h n (by omega)
    omega
theorem sumN_le {n : Nat} {f g : Nat → Int} (h : ∀ k, k < n → f k ≤ g k) : sumN n f ≤ sumN n g := by
  induction n with
  | zero => exact Int.le_refl _
  | succ n ih =>
    show sumN n f + f n ≤ sumN n g + g n
    have := ih fun k hk => h k (by omega)
    have := h n (by omega)
    omega
theorem sumN_pos {n : Nat} {f : Nat → Int} (h : 0 < sumN n f) : ∃ k, k < n ∧ 0 < f k := by
  induction n with
  | zero => exact absurd h (by show ¬ (0 : Int) < 0; omega)
  | succ n ih =>
    by_cases e : 0 < f n
    · exact ⟨n, by omega, e⟩
    · have h' : 0 < sumN n f + f n := h
      obtain ⟨k, hk, q⟩ := ih (by omega)
      exact ⟨k, by omega, q⟩
theorem sumN_comm (n m : Nat) (f : Nat → Nat → Int) : sumN n (fun i => sumN m (fun j => f i j)) = sumN m (fun j => sumN n (fun i => f i j)) := by
  induction n with
  | zero => exact (sumN_zero fun _ _ => rfl).symm
  | succ n ih =>
    show sumN n (fun i => sumN m (fun j => f i j)) + sumN m (fun j => f n j) = sumN m (fun j => sumN n (fun i => f i j) + f n j)
    rw [ih, sumN_add]

/-! ### columns -/
abbrev Vec := Nat → Int
abbrev Cols := Nat → Vec
def setC (c : Cols) (p : Nat) (v : Vec) : Cols := fun k => if k = p then v else c k
theorem setC_same {c : Cols} {p : Nat} {v : Vec} : setC c p v p = v := by simp [setC]
theorem setC_ne {c : Cols} {p k : Nat} {v : Vec} (h : k ≠ p) : setC c p v k = c k := by simp [setC, h]
theorem setC_self (c : Cols) (p : Nat) : setC c p (c p) = c := by
  funext k; unfold setC; split
  · rename_i e; rw [e]
  · rfl
theorem setC_setC (c : Cols) (p : Nat) (u v : Vec) : setC (setC c p u) p v = setC c p v := by
  funext k; unfold setC; split <;> rfl
theorem setC_comm (c : Cols) {p q : Nat} (u v : Vec) (h : p ≠ q) : setC (setC c p u) q v = setC (setC c q v) p u := by
  funext k; unfold setC
  by_cases e1 : k = q
  · subst e1; rw [if_pos rfl, if_neg (Ne.symm h), if_pos rfl]
  · rw [if_neg e1, if_neg e1]

def skip (k k' : Nat) : Nat := if k' < k then k' else k' + 1
def unskip (k p : Nat) : Nat := if p < k then p else p - 1
def down (v : Vec) : Vec := fun q => v (q + 1)
def minor (c : Cols) (k : Nat) : Cols := fun k' => down (c (skip k k'))
def sgn : Nat → Int
  | 0 => 1
  | n + 1 => - sgn n
def det : Nat → Cols → Int
  | 0, _ => 1
  | n + 1, c => sumN (n + 1) fun k => sgn k * (c k 0 * det n (minor c k))

theorem skip_ne (k k' : Nat) : skip k k' ≠ k := by unfold skip; split <;> omega
theorem skip_unskip {k p : Nat} (h : p ≠ k) : skip k (unskip k p) = p := by
  by_cases e : p < k
  · have e1 : unskip k p = p := if_pos e
    rw [e1]; exact if_pos e
  · have e1 : unskip k p = p - 1 := if_neg e
    rw [e1]
    have : skip k (p - 1) = p - 1 + 1 := if_neg (by omega)
    omega
theorem skip_unskip1 {k p : Nat} (h : p ≠ k) (h2 : p + 1 ≠ k) : skip k (unskip k p + 1) = p + 1 := by
  by_cases e : p < k
  · have e1 : unskip k p = p := if_pos e
    rw [e1]; exact if_pos (by omega)
  · have e1 : unskip k p = p - 1 := if_neg e
    rw [e1]
    have : skip k (p - 1 + 1) = p - 1 + 1 + 1 := if_neg (by omega)
    omega
theorem minor_set_same (c : Cols) (p : Nat) (v : Vec) : minor (setC c p v) p = minor c p := by
  funext k'; unfold minor; rw [setC_ne (skip_ne p k')]
theorem minor_set_ne (c : Cols) {p k : Nat} (v : Vec) (h : p ≠ k) : minor (setC c p v) k = setC (minor c k) (unskip k p) (down v) := by
  funext k'
  unfold minor
  by_cases e : skip k k' = p
  · have e2 : k' = unskip k p := by
      unfold skip at e; unfold unskip; split at e <;> split <;> omega
    rw [e, setC_same, ← e2, setC_same]
  · have e2 : k' ≠ unskip k p := fun z => e (by rw [z]; exact skip_unskip h)
    rw [setC_ne e, setC_ne e2]

/-- columns that are alike in the rows that count -/
theorem det_congr : ∀ {n : Nat} {c d : Cols}, (∀ k q, k < n → q < n → c k q = d k q) → det n c = det n d
  | 0, _, _, _ => rfl
  | n + 1, c, d, h => sumN_congr fun k hk => by
    rw [h k 0 hk (by omega), det_congr (n := n) (c := minor c k) (d := minor d k) fun k' q hk' hq => by
      show c (skip k k') (q + 1) = d (skip k k') (q + 1)
      exact h _ _ (by unfold skip; split <;> omega) (by omega)]

/-- linear in each column -/
theorem det_lin : ∀ {n : Nat} (c : Cols) {p : Nat} (x y : Int) (u v : Vec), p < n →
    det n (setC c p fun q => x * u q + y * v q) = x * det n (setC c p u) + y * det n (setC c p v)
  | 0, _, _, _, _, _, _, hp => by omega
  | n + 1, c, p, x, y, u, v, hp => by
    show sumN (n + 1) _ = x * sumN (n + 1) _ + y * sumN (n + 1) _
    rw [← sumN_lin]
    refine sumN_congr fun k hk => ?_
    by_cases e : p = k
    · subst e
      rw [setC_same, setC_same, setC_same, minor_set_same, minor_set_same, minor_set_same]
      grind
    · rw [setC_ne (Ne.symm e), setC_ne (Ne.symm e), setC_ne (Ne.symm e), minor_set_ne c _ e, minor_set_ne c _ e, minor_set_ne c _ e]
      have ih := det_lin (n := n) (minor c k) (p := unskip k p) x y (down u) (down v) (by unfold unskip; split <;> omega)
      have ed : (down fun q => x * u q + y * v q) = fun q => x * down u q + y * down v q := rfl
      rw [ed, ih]
      grind
theorem det_zero {n : Nat} (c : Cols) {p : Nat} (hp : p < n) : det n (setC c p fun _ => 0) = 0 := by
  have h := det_lin c (p := p) 0 0 (fun _ => 0) (fun _ => 0) hp
  have e : (fun _ : Nat => (0 : Int) * 0 + 0 * 0) = fun _ => 0 := by funext q; rfl
  rw [e] at h
  rw [h]; omega
theorem det_mulC {n : Nat} (c : Cols) {p : Nat} (x : Int) (u : Vec) (hp : p < n) : det n (setC c p fun q => x * u q) = x * det n (setC c p u) := by
  have h := det_lin c (p := p) x 0 u (fun _ => 0) hp
  have e : (fun q => x * u q + 0 * 0) = fun q => x * u q := by funext q; omega
  rw [e] at h
  rw [h]; omega
theorem det_addC {n : Nat} (c : Cols) {p : Nat} (u v : Vec) (hp : p < n) : det n (setC c p fun q => u q + v q) = det n (setC c p u) + det n (setC c p v) := by
  have h := det_lin c (p := p) 1 1 u v hp
  have e : (fun q => 1 * u q + 1 * v q) = fun q => u q + v q := by funext q; omega
  rw [e] at h
  rw [h]; omega
theorem det_sum {n : Nat} (c : Cols) {p : Nat} (m : Nat) (x : Nat → Int) (u : Nat → Vec) (hp : p < n) :
    det n (setC c p fun q => sumN m fun l => x l * u l q) = sumN m fun l => x l * det n (setC c p (u l)) := by
  induction m with
  | zero => exact det_zero c hp
  | succ m ih =>
    have e : (fun q => sumN (m + 1) fun l => x l * u l q) = fun q => (sumN m fun l => x l * u l q) + x m * u m q := rfl
    rw [e, det_addC c _ _ hp, ih, det_mulC c _ _ hp]
    rfl

/-- two columns alike, one beside the other -/
theorem det_adj : ∀ {n : Nat} {c : Cols} {p : Nat}, p + 1 < n → c p = c (p + 1) → det n c = 0
  | 0, _, _, h, _ => by omega
  | n + 1, c, p, h, e => by
    show sumN (n + 1) _ = 0
    rw [sumN_two (p := p) (q := p + 1) (by omega) (by omega) (by omega) fun k hk h1 h2 => ?_]
    · have em : minor c p = minor c (p + 1) := by
        funext k'
        unfold minor
        by_cases e1 : k' = p
        · subst e1
          have s1 : skip k' k' = k' + 1 := by unfold skip; simp
          have s2 : skip (k' + 1) k' = k' := by unfold skip; simp
          rw [s1, s2, e]
        · have s : skip p k' = skip (p + 1) k' := by unfold skip; split <;> split <;> omega
          rw [s]
      rw [em, e]
      show sgn p * _ + (- sgn p) * _ = 0
      grind
    · have z : det n (minor c k) = 0 := det_adj (p := unskip k p) (by unfold unskip; split <;> omega) (by
        show down (c (skip k (unskip k p))) = down (c (skip k (unskip k p + 1)))
        have s1 : skip k (unskip k p) = p := skip_unskip (fun z => h1 z.symm)
        have s2 : skip k (unskip k p + 1) = p + 1 := skip_unskip1 (fun z => h1 z.symm) (fun z => h2 z.symm)
        rw [s1, s2, e])
      rw [z]
      omega
/-- two neighbours swapped -/
theorem det_swap_adj {n : Nat} {c : Cols} {p : Nat} (u v : Vec) (hp : p + 1 < n) : det n (setC (setC c p u) (p + 1) v) = - det n (setC (setC c p v) (p + 1) u) := by
  have hne : p ≠ p + 1 := by omega
  have h0 : det n (setC (setC c p fun q => u q + v q) (p + 1) fun q => u q + v q) = 0 := det_adj hp (by rw [setC_ne hne, setC_same, setC_same])
  rw [det_addC _ _ _ hp, setC_comm c _ _ hne, det_addC _ _ _ (by omega), setC_comm c _ _ hne, det_addC _ _ _ (by omega)] at h0
  have h1 : det n (setC (setC c (p + 1) u) p u) = 0 := det_adj hp (by rw [setC_same, setC_ne (Ne.symm hne), setC_same])
  have h2 : det n (setC (setC c (p + 1) v) p v) = 0 := det_adj hp (by rw [setC_same, setC_ne (Ne.symm hne), setC_same])
  rw [setC_comm c _ _ hne, setC_comm c _ _ hne]
  omega
/-- two columns alike -/
theorem det_alt : ∀ (d : Nat) {n : Nat} {c : Cols} {p : Nat}, p + d + 1 < n → c p = c (p + d + 1) → det n c = 0
  | 0, _, _, _, h, e => det_adj h e
  | d + 1, n, c, p, h, e => by
    have e0 : setC (setC c (p + d + 1) (c (p + d + 1))) (p + d + 1 + 1) (c (p + d + 1 + 1)) = c := by rw [setC_self, setC_self]
    have sw := det_swap_adj (c := c) (n := n) (p := p + d + 1) (c (p + d + 1)) (c (p + d + 1 + 1)) (by omega)
    rw [e0] at sw
    rw [sw, det_alt d (p := p) (by omega) (by
      rw [setC_ne (by omega), setC_ne (by omega), setC_ne (by omega), setC_same]
      exact e)]
    rfl
theorem det_same {n : Nat} {c : Cols} {p q : Nat} (hp : p < n) (hq : q < n) (hpq : p ≠ q) (e : c p = c q) : det n c = 0 := by
  by_cases h : p < q
  · have z : q = p + (q - p - 1) + 1 := by omega
    exact det_alt (q - p - 1) (p := p) (by omega) (by rw [← z]; exact e)
  · have z : p = q + (p - q - 1) + 1 := by omega
    exact det_alt (p - q - 1) (p := q) (by omega) (by rw [← z]; exact e.symm)
/-- a column put in another's place, and that one in its -/
theorem det_turn {n : Nat} (c : Cols) {p q : Nat} (x : Vec) (hp : p < n) (hq : q < n) (hpq : p ≠ q) : det n (setC (setC c q x) p (c q)) = - det n (setC c p x) := by
  have h0 : det n (setC (setC c q fun r => x r + c q r) p fun r => x r + c q r) = 0 := det_same hp hq hpq (by rw [setC_same, setC_ne (Ne.symm hpq), setC_same])
  rw [det_addC _ _ _ hp, setC_comm c _ _ (Ne.symm hpq), det_addC _ _ _ hq, setC_comm c _ _ (Ne.symm hpq), det_addC _ _ _ hq] at h0
  have h1 : det n (setC (setC c p x) q x) = 0 := det_same hp hq hpq (by rw [setC_same, setC_ne hpq, setC_same])
  have h2 : det n (setC (setC c p (c q)) q (c q)) = 0 := det_same hp hq hpq (by rw [setC_same, setC_ne hpq, setC_same])
  have h3 : setC (setC c p x) q (c q) = setC c p x := by
    rw [← setC_comm c _ _ (Ne.symm hpq), setC_self]
  rw [setC_comm c _ _ (Ne.symm hpq)]
  rw [h3] at h0
  omega
def unit (p : Nat) : Vec := fun q => if q = p then 1 else 0
theorem det_id : ∀ (n : Nat), det n unit = 1
  | 0 => rfl
  | n + 1 => by
    show sumN (n + 1) _ = 1
    rw [sumN_one (p := 0) (by omega) fun k hk hne => by
      have : unit k 0 = 0 := by unfold unit; rw [if_neg (fun z => hne z.symm)]
      rw [this]; omega]
    have e : minor unit 0 = unit := by
      funext k' q
      show unit (skip 0 k') (q + 1) = unit k' q
      have : skip 0 k' = k' + 1 := by unfold skip; simp
      rw [this]; unfold unit
      by_cases h : q = k'
      · rw [if_pos h, if_pos (by omega)]
      · rw [if_neg h, if_neg (by omega)]
    rw [e, det_id n]
    show 1 * (unit 0 0 * 1) = (1 : Int)
    simp [unit]

/-! ### its size -/
def fac : Nat → Nat
  | 0 => 1
  | n + 1 => (n + 1) * fac n
theorem sgn_abs : ∀ n, (sgn n).natAbs = 1
  | 0 => rfl
  | n + 1 => by show (- sgn n).natAbs = 1; rw [Int.natAbs_neg, sgn_abs n]
theorem sumN_abs {n : Nat} {f : Nat → Int} {w : Nat} (h : ∀ k, k < n → (f k).natAbs ≤ w) : (sumN n f).natAbs ≤ n * w := by
  induction n with
  | zero => simp [sumN]
  | succ n ih =>
    show (sumN n f + f n).natAbs ≤ (n + 1) * w
    have h1 := ih fun k hk => h k (by omega)
    have h2 := h n (by omega)
    have h3 := Int.natAbs_add_le (sumN n f) (f n)
    rw [Nat.succ_mul]
    omega
theorem det_abs : ∀ {n : Nat} {c : Cols} {w : Nat}, (∀ k q, k < n → q < n → (c k q).natAbs ≤ w) → (det n c).natAbs ≤ fac n * w ^ n
  | 0, _, _, _ => by simp [det, fac]
  | n + 1, c, w, h => by
    have h1 : (det (n + 1) c).natAbs ≤ (n + 1) * (w * (fac n * w ^ n)) := sumN_abs fun k hk => by
      rw [Int.natAbs_mul, Int.natAbs_mul, sgn_abs, Nat.one_mul]
      exact Nat.mul_le_mul (h k 0 hk (by omega)) (det_abs fun k' q hk' hq => by
        show (c (skip k k') (q + 1)).natAbs ≤ w
        exact h _ _ (by unfold skip; split <;> omega) (by omega))
    refine Nat.le_trans h1 (Nat.le_of_eq ?_)
    show (n + 1) * (w * (fac n * w ^ n)) = (n + 1) * fac n * w ^ (n + 1)
    rw [Nat.pow_succ]
    grind
end IC
/-! The simplex way in whole numbers: turns are exact, Bland's rule ends. -/
namespace IC

/-- the basis' columns: bound by bound that of its number, and a unit for the last row -/
def colsOf (a : Nat → Nat → Int) (many : Nat) (b : Nat → Nat) : Cols := fun l => if l = many then unit many else fun q => a q (b l)
abbrev colA (a : Nat → Nat → Int) (j : Nat) : Vec := fun q => a q j
structure Good (a : Nat → Nat → Int) (many N : Nat) (t : Nat → Nat → Int) (b : Nat → Nat) (m : Int) : Prop where
  pos : 0 < m
  lt : ∀ l, l < many → b l < N
  ent : ∀ i j, i ≤ many → j ≤ N → t i j = det (many + 1) (setC (colsOf a many b) i (colA a j))
  mes : m = det (many + 1) (colsOf a many b)
  cols : ∀ q j, q ≤ many → j ≤ N → m * a q j = sumN (many + 1) fun l => t l j * colsOf a many b l q
  feas : ∀ i, i < many → 0 ≤ t i N

variable {a : Nat → Nat → Int} {many N : Nat} {t t' t2 : Nat → Nat → Int} {b b' b2 : Nat → Nat} {m m' m2 : Int}
theorem colsOf_lt {l : Nat} (h : l < many) : colsOf a many b l = colA a (b l) := by unfold colsOf; rw [if_neg (by omega)]
theorem colsOf_last : colsOf a many b many = unit many := by unfold colsOf; rw [if_pos rfl]
/-- at its own place a number of the basis has the measure, elsewhere 0 -/
theorem Good.base (g : Good a many N t b m) {i l : Nat} (hi : i ≤ many) (hl : l < many) : t i (b l) = if i = l then m else 0 := by
  rw [g.ent i (b l) hi (Nat.le_of_lt (g.lt l hl))]
  by_cases e : i = l
  · subst e
    rw [if_pos rfl, g.mes]
    have : colA a (b i) = colsOf a many b i := (colsOf_lt hl).symm
    rw [this, setC_self]
  · rw [if_neg e]
    refine det_same (p := i) (q := l) (by omega) (by omega) e ?_
    rw [setC_same, setC_ne (fun z => e z.symm), colsOf_lt hl]
theorem Good.inj (g : Good a many N t b m) {i l : Nat} (hi : i < many) (hl : l < many) (e : b i = b l) : i = l := by
  have h1 := g.base (Nat.le_of_lt hi) hl
  have h2 := g.base (Nat.le_of_lt hi) hi
  rw [if_pos rfl, e, h1] at h2
  split at h2
  · assumption
  · have := g.pos; omega
/-- the basis tells all -/
theorem Good.same (g : Good a many N t b m) (g2 : Good a many N t2 b2 m2) (h : ∀ l, l < many → b l = b2 l) : m = m2 ∧ ∀ i j, i ≤ many → j ≤ N → t i j = t2 i j := by
  have ec : ∀ k q, k < many + 1 → q < many + 1 → colsOf a many b k q = colsOf a many b2 k q := fun k q hk _ => by
    by_cases z : k = many
    · subst z; rw [colsOf_last, colsOf_last]
    · rw [colsOf_lt (by omega), colsOf_lt (by omega), h k (by omega)]
  refine ⟨?_, fun i j hi hj => ?_⟩
  · rw [g.mes, g2.mes]; exact det_congr ec
  · rw [g.ent i j hi hj, g2.ent i j hi hj]
    refine det_congr fun k q hk hq => ?_
    by_cases z : k = i
    · subst z; rw [setC_same, setC_same]
    · rw [setC_ne z, setC_ne z]; exact ec k q hk hq
/-- a row of one table, by the columns of another one's basis -/
theorem Good.change (g : Good a many N t b m) (g2 : Good a many N t2 b2 m2) {j : Nat} (hj : j ≤ N) :
    m * t2 many j = (sumN many fun l => t l j * t2 many (b l)) + t many j * m2 := by
  have h : m * t2 many j = sumN (many + 1) fun l => t l j * det (many + 1) (setC (colsOf a many b2) many (colsOf a many b l)) := by
    rw [g2.ent many j (Nat.le_refl _) hj, ← det_mulC _ _ _ (by omega), ← det_sum _ _ _ _ (by omega)]
    refine det_congr fun k q hk hq => ?_
    by_cases z : k = many
    · subst z
      rw [setC_same, setC_same]
      exact g.cols q j (by omega) hj
    · rw [setC_ne z, setC_ne z]
  rw [h]
  show (sumN many _) + t many j * det (many + 1) (setC (colsOf a many b2) many (colsOf a many b many)) = _
  have e2 : setC (colsOf a many b2) many (colsOf a many b many) = colsOf a many b2 := by
    have z : colsOf a many b many = colsOf a many b2 many := by rw [colsOf_last, colsOf_last]
    rw [z, setC_self]
  rw [e2, ← g2.mes]
  congr 1
  refine sumN_congr fun l hl => ?_
  rw [colsOf_lt hl, g2.ent many (b l) (Nat.le_refl _) (Nat.le_of_lt (g.lt l hl))]

/-! ### a turn -/
/-- what is in the place of an entry -/
def turned (t : Nat → Nat → Int) (m : Int) (s c : Nat) (i j : Nat) : Int := if i = s then t s j else (t i j * t s c - t i c * t s j) / m
def putB (b : Nat → Nat) (s c : Nat) : Nat → Nat := fun l => if l = s then c else b l
theorem colsOf_putB {s c : Nat} (hs : s < many) : colsOf a many (putB b s c) = setC (colsOf a many b) s (colA a c) := by
  funext l
  by_cases z : l = s
  · subst z
    rw [setC_same, colsOf_lt hs]
    show colA a (putB b l c l) = _
    unfold putB; rw [if_pos rfl]
  · rw [setC_ne z]
    unfold colsOf putB
    rw [if_neg z]
theorem Good.exact (g : Good a many N t b m) {s c i j : Nat} (hs : s < many) (hc : c < N) (hi : i ≤ many) (hj : j ≤ N) (hne : i ≠ s) :
    m * det (many + 1) (setC (colsOf a many (putB b s c)) i (colA a j)) = t i j * t s c - t i c * t s j := by
  rw [colsOf_putB hs]
  have h : m * det (many + 1) (setC (setC (colsOf a many b) s (colA a c)) i (colA a j)) =
      sumN (many + 1) fun l => t l j * det (many + 1) (setC (setC (colsOf a many b) s (colA a c)) i (colsOf a many b l)) := by
    rw [← det_mulC _ _ _ (by omega), ← det_sum _ _ _ _ (by omega)]
    refine det_congr fun k q hk hq => ?_
    by_cases z : k = i
    · subst z
      rw [setC_same, setC_same]
      exact g.cols q j (by omega) hj
    · rw [setC_ne z, setC_ne z]
  rw [h, sumN_two (p := i) (q := s) (by omega) (by omega) hne fun l hl h1 h2 => ?_]
  · have e1 : setC (setC (colsOf a many b) s (colA a c)) i (colsOf a many b i) = setC (colsOf a many b) s (colA a c) := by
      rw [setC_comm _ _ _ (Ne.symm hne), setC_self]
    rw [e1, ← g.ent s c (by omega) (by omega), det_turn _ _ (by omega) (by omega) hne, ← g.ent i c hi (by omega)]
    grind
  · rw [det_same (p := i) (q := l) (by omega) (by omega) (Ne.symm h1), Int.mul_zero]
    rw [setC_same, setC_ne h1, setC_ne h2]
theorem Good.turned_eq (g : Good a many N t b m) {s c i j : Nat} (hs : s < many) (hc : c < N) (hi : i ≤ many) (hj : j ≤ N) :
    turned t m s c i j = det (many + 1) (setC (colsOf a many (putB b s c)) i (colA a j)) := by
  unfold turned
  by_cases z : i = s
  · subst z
    rw [if_pos rfl, g.ent i j hi hj, colsOf_putB hs, setC_setC]
  · rw [if_neg z, ← g.exact hs hc hi hj z]
    exact Int.mul_ediv_cancel_left _ (by have := g.pos; omega)
theorem Good.turned_mul (g : Good a many N t b m) {s c i j : Nat} (hs : s < many) (hc : c < N) (hi : i ≤ many) (hj : j ≤ N) (hne : i ≠ s) :
    m * turned t m s c i j = t i j * t s c - t i c * t s j := by
  rw [g.turned_eq hs hc hi hj, g.exact hs hc hi hj hne]
/-- the bound that is reached first -/
def First (t : Nat → Nat → Int) (b : Nat → Nat) (many N s c : Nat) : Prop :=
  ∀ l, l < many → 0 < t l c → t s N * t l c < t l N * t s c ∨ (t s N * t l c = t l N * t s c ∧ b s ≤ b l)
theorem Good.turn (g : Good a many N t b m) {s c : Nat} (hs : s < many) (hc : c < N) (he : 0 < t s c) (hr : First t b many N s c) :
    Good a many N (turned t m s c) (putB b s c) (t s c) where
  pos := he
  lt := fun l hl => by
    unfold putB; split
    · exact hc
    · exact g.lt l hl
  ent := fun i j hi hj => g.turned_eq hs hc hi hj
  mes := by rw [colsOf_putB hs]; exact g.ent s c (by omega) (by omega)
  cols := fun q j hq hj => by
    have hm := g.pos
    refine Int.eq_of_mul_eq_mul_left (a := m) (by omega) ?_
    rw [colsOf_putB hs, ← sumN_mul]
    have e : (sumN (many + 1) fun l => m * (turned t m s c l j * setC (colsOf a many b) s (colA a c) l q)) =
        sumN (many + 1) fun l => (t s c * (t l j * colsOf a many b l q) + (- t s j) * (t l c * colsOf a many b l q)) + (if l = s then m * (t s j * a q c) else 0) :=
      sumN_congr fun l hl => by
        by_cases z : l = s
        · subst z
          rw [if_pos rfl, setC_same]
          have : turned t m l c l j = t l j := by unfold turned; rw [if_pos rfl]
          rw [this]
          show m * (t l j * a q c) = _
          grind
        · rw [if_neg z, setC_ne z, ← Int.mul_assoc, g.turned_mul hs hc (by omega) hj z]
          grind
    rw [e, sumN_add, sumN_lin, ← g.cols q j hq hj, ← g.cols q c hq (by omega), sumN_one (p := s) (by omega) fun k _ hk => by rw [if_neg hk], if_pos rfl]
    grind
  feas := fun i hi => by
    by_cases z : i = s
    · subst z
      unfold turned; rw [if_pos rfl]; exact g.feas i hi
    · have e := g.turned_mul hs hc (Nat.le_of_lt hi) (Nat.le_refl N) z
      have hm := g.pos
      have h0 : 0 ≤ t i N * t s c - t i c * t s N := by
        by_cases p : 0 < t i c
        · have hh := hr i hi p
          have cm : t i c * t s N = t s N * t i c := Int.mul_comm _ _
          rcases hh with hh | ⟨hh, _⟩ <;> omega
        · have h1 : 0 ≤ t i N * t s c := Int.mul_nonneg (g.feas i hi) (Int.le_of_lt he)
          have h2 : t i c * t s N ≤ 0 := Int.mul_nonpos_of_nonpos_of_nonneg (by omega) (g.feas s hs)
          omega
      rw [← e] at h0
      exact Int.nonneg_of_mul_nonneg_right h0 hm

/-! ### Bland's rule ends -/
/-- among M + 1 numbers below M two are alike -/
theorem pigeon : ∀ (M : Nat) (f : Nat → Nat), (∀ k, k ≤ M → f k < M) → ∃ i j, i < j ∧ j ≤ M ∧ f i = f j
  | 0, f, h => absurd (h 0 (Nat.le_refl _)) (by omega)
  | M + 1, f, h => by
    by_cases e : ∃ i, i ≤ M ∧ f i = f (M + 1)
    · obtain ⟨i, hi, q⟩ := e
      exact ⟨i, M + 1, by omega, Nat.le_refl _, q⟩
    · have hne : ∀ i, i ≤ M → f i ≠ f (M + 1) := fun i hi q => e ⟨i, hi, q⟩
      obtain ⟨i, j, hij, hj, q⟩ := pigeon M (fun k => if f k < f (M + 1) then f k else f k - 1) fun k hk => by
        have h1 := h k (by omega)
        have h2 := h (M + 1) (by omega)
        have h3 := hne k hk
        show (if f k < f (M + 1) then f k else f k - 1) < M
        split <;> omega
      refine ⟨i, j, hij, by omega, ?_⟩
      have h1 := hne i (by omega)
      have h2 := hne j (by omega)
      have q' : (if f i < f (M + 1) then f i else f i - 1) = (if f j < f (M + 1) then f j else f j - 1) := q
      split at q' <;> split at q' <;> omega
/-- a basis as a number -/
def codeB (N : Nat) : Nat → (Nat → Nat) → Nat
  | 0, _ => 0
  | n + 1, b => b n + N * codeB N n b
theorem codeB_lt {N : Nat} : ∀ {n : Nat} {b : Nat → Nat}, (∀ l, l < n → b l < N) → codeB N n b < N ^ n
  | 0, _, _ => by show 0 < N ^ 0; rw [Nat.pow_zero]; omega
  | n + 1, b, h => by
    have ih := codeB_lt (n := n) (b := b) fun l hl => h l (by omega)
    have h1 := h n (by omega)
    show b n + N * codeB N n b < N ^ (n + 1)
    rw [Nat.pow_succ, Nat.mul_comm (N ^ n)]
    have h2 : N * codeB N n b + N ≤ N * N ^ n := by
      rw [← Nat.mul_succ]; exact Nat.mul_le_mul_left N ih
    omega
theorem codeB_inj {N : Nat} : ∀ {n : Nat} {b b' : Nat → Nat}, (∀ l, l < n → b l < N) → (∀ l, l < n → b' l < N) → codeB N n b = codeB N n b' → ∀ l, l < n → b l = b' l
  | 0, _, _, _, _, _, l, hl => by omega
  | n + 1, b, b', h, h', e, l, hl => by
    have h1 := h n (by omega)
    have h2 := h' n (by omega)
    have e' : b n + N * codeB N n b = b' n + N * codeB N n b' := e
    have m1 : (b n + N * codeB N n b) % N = b n := by rw [Nat.add_mul_mod_self_left]; exact Nat.mod_eq_of_lt h1
    have m2 : (b' n + N * codeB N n b') % N = b' n := by rw [Nat.add_mul_mod_self_left]; exact Nat.mod_eq_of_lt h2
    have e1 : b n = b' n := by rw [← m1, ← m2, e']
    have e2 : codeB N n b = codeB N n b' := by
      have : N * codeB N n b = N * codeB N n b' := by omega
      exact Nat.eq_of_mul_eq_mul_left (by omega) this
    by_cases z : l = n
    · rw [z]; exact e1
    · exact codeB_inj (n := n) (fun l hl => h l (by omega)) (fun l hl => h' l (by omega)) e2 l (by omega)

/-- a row of turns by Bland's rule -/
structure Way (a : Nat → Nat → Int) (many N K : Nat) (T : Nat → Nat → Nat → Int) (B : Nat → Nat → Nat) (M : Nat → Int) (C S : Nat → Nat) : Prop where
  good : ∀ k, k ≤ K → Good a many N (T k) (B k) (M k)
  inC : ∀ k, k < K → C k < N ∧ T k many (C k) < 0 ∧ ∀ j, j < C k → 0 ≤ T k many j
  inS : ∀ k, k < K → S k < many ∧ 0 < T k (S k) (C k) ∧ First (T k) (B k) many N (S k) (C k)
  stepT : ∀ k, k < K → ∀ i j, i ≤ many → j ≤ N → T (k + 1) i j = turned (T k) (M k) (S k) (C k) i j
  stepB : ∀ k, k < K → ∀ l, l < many → B (k + 1) l = putB (B k) (S k) (C k) l
  stepM : ∀ k, k < K → M (k + 1) = T k (S k) (C k)

variable {K : Nat} {T : Nat → Nat → Nat → Int} {B : Nat → Nat → Nat} {M : Nat → Int} {C S : Nat → Nat}
theorem Way.up (w : Way a many N K T B M C S) {k : Nat} (hk : k < K) :
    T (k + 1) many N * M k = T k many N * M (k + 1) + (- T k many (C k)) * T k (S k) N := by
  obtain ⟨c1, c2, c3⟩ := w.inC k hk
  obtain ⟨s1, s2, s3⟩ := w.inS k hk
  have g := w.good k (Nat.le_of_lt hk)
  rw [w.stepT k hk many N (Nat.le_refl _) (Nat.le_refl _), w.stepM k hk]
  have e := g.turned_mul s1 c1 (Nat.le_refl many) (Nat.le_refl N) (by omega)
  grind
/-- no less -/
theorem Way.le (w : Way a many N K T B M C S) {i : Nat} : ∀ (d : Nat), i + d ≤ K → T i many N * M (i + d) ≤ T (i + d) many N * M i
  | 0, _ => Int.le_refl _
  | d + 1, h => by
    have ih := w.le (i := i) d (by omega)
    have hk : i + d < K := by omega
    have u := w.up hk
    obtain ⟨c1, c2, c3⟩ := w.inC _ hk
    obtain ⟨s1, s2, s3⟩ := w.inS _ hk
    have hb : 0 ≤ (- T (i + d) many (C (i + d))) * T (i + d) (S (i + d)) N := Int.mul_nonneg (by omega) ((w.good _ (by omega)).feas _ s1)
    have p0 := (w.good i (by omega)).pos
    have p1 := (w.good (i + d) (by omega)).pos
    have p2 := (w.good (i + (d + 1)) h).pos
    have e3 : i + (d + 1) = i + d + 1 := by omega
    rw [e3] at p2 ⊢
    -- cancel M (i + d)
    refine Int.le_of_mul_le_mul_left (a := M (i + d)) ?_ p1
    have x1 : (T i many N * M (i + d)) * M (i + d + 1) ≤ (T (i + d) many N * M i) * M (i + d + 1) := Int.mul_le_mul_of_nonneg_right ih (Int.le_of_lt p2)
    have x2 : (T (i + d) many N * M (i + d + 1)) * M i ≤ (T (i + d + 1) many N * M (i + d)) * M i := Int.mul_le_mul_of_nonneg_right (by omega) (Int.le_of_lt p0)
    have y1 : M (i + d) * (T i many N * M (i + d + 1)) = (T i many N * M (i + d)) * M (i + d + 1) := by grind
    have y2 : M (i + d) * (T (i + d + 1) many N * M i) = (T (i + d + 1) many N * M (i + d)) * M i := by grind
    have y3 : (T (i + d) many N * M i) * M (i + d + 1) = (T (i + d) many N * M (i + d + 1)) * M i := by grind
    omega

def InB (B : Nat → Nat → Nat) (many k v : Nat) : Prop := ∃ l, l < many ∧ B k l = v
def ZeroAt (T : Nat → Nat → Nat → Int) (B : Nat → Nat → Nat) (many N k v : Nat) : Prop := ∀ l, l < many → B k l = v → T k l N = 0

/-- the greatest of some numbers -/
theorem greatest (C : Nat → Nat) : ∀ (d i : Nat), ∃ k, i ≤ k ∧ k < i + (d + 1) ∧ ∀ k', i ≤ k' → k' < i + (d + 1) → C k' ≤ C k
  | 0, i => ⟨i, Nat.le_refl _, by omega, fun k' h1 h2 => by rw [show k' = i by omega]; exact Nat.le_refl _⟩
  | d + 1, i => by
    obtain ⟨k, h1, h2, h3⟩ := greatest C d i
    by_cases e : C k ≤ C (i + (d + 1))
    · refine ⟨i + (d + 1), by omega, by omega, fun k' q1 q2 => ?_⟩
      by_cases z : k' = i + (d + 1)
      · rw [z]; exact Nat.le_refl _
      · exact Nat.le_trans (h3 k' q1 (by omega)) e
    · refine ⟨k, h1, by omega, fun k' q1 q2 => ?_⟩
      by_cases z : k' = i + (d + 1)
      · rw [z]; omega
      · exact h3 k' q1 (by omega)
/-- what holds on goes from turn to turn -/
theorem along {P : Nat → Prop} {i : Nat} : ∀ (d : Nat), (∀ k, i ≤ k → k < i + d → P k → P (k + 1)) → P i → P (i + d)
  | 0, _, p => p
  | d + 1, h, p => h (i + d) (by omega) (by omega) (along d (fun k h1 h2 => h k h1 (by omega)) p)
theorem back {P : Nat → Prop} {i : Nat} : ∀ (d : Nat), (∀ k, i ≤ k → k < i + d → P (k + 1) → P k) → P (i + d) → P i
  | 0, _, p => p
  | d + 1, h, p => back d (fun k h1 h2 => h k h1 (by omega)) (h (i + d) (by omega) (by omega) p)

/-- no basis comes twice -/
theorem Way.no_cycle (w : Way a many N K T B M C S) {i j : Nat} (hij : i < j) (hj : j ≤ K) (hb : ∀ l, l < many → B i l = B j l) : False := by
  have gi := w.good i (by omega)
  have gj := w.good j hj
  obtain ⟨em, et⟩ := gi.same gj hb
  have ez : T i many N = T j many N := et many N (Nat.le_refl _) (Nat.le_refl _)
  -- each turn is at 0
  have deg : ∀ k, i ≤ k → k < j → T k (S k) N = 0 := fun k h1 h2 => by
    have hk : k < K := by omega
    have pi := gi.pos
    have pk := (w.good k (by omega)).pos
    have pk1 := (w.good (k + 1) (by omega)).pos
    have a1 := w.le (i := i) (k - i) (by omega)
    have a2 := w.le (i := k + 1) (j - (k + 1)) (by omega)
    rw [show i + (k - i) = k by omega] at a1
    rw [show k + 1 + (j - (k + 1)) = j by omega, ← em, ← ez] at a2
    have u := w.up hk
    obtain ⟨c1, c2, c3⟩ := w.inC k hk
    obtain ⟨s1, s2, s3⟩ := w.inS k hk
    have f := (w.good k (by omega)).feas (S k) s1
    -- zi Mk ≤ zk Mi; zk' Mi ≤ zi Mk'; zk' Mk = zk Mk' + x
    have x1 : (T i many N * M k) * M (k + 1) ≤ (T k many N * M i) * M (k + 1) := Int.mul_le_mul_of_nonneg_right a1 (Int.le_of_lt pk1)
    have x2 : (T (k + 1) many N * M i) * M k ≤ (T i many N * M (k + 1)) * M k := Int.mul_le_mul_of_nonneg_right a2 (Int.le_of_lt pk)
    have x3 : (T (k + 1) many N * M k) * M i = (T k many N * M (k + 1)) * M i + ((- T k many (C k)) * T k (S k) N) * M i := by rw [u, Int.add_mul]
    have y1 : (T (k + 1) many N * M i) * M k = (T (k + 1) many N * M k) * M i := by grind
    have y2 : (T i many N * M (k + 1)) * M k = (T i many N * M k) * M (k + 1) := by grind
    have y3 : (T k many N * M i) * M (k + 1) = (T k many N * M (k + 1)) * M i := by grind
    have z0 : ((- T k many (C k)) * T k (S k) N) * M i ≤ 0 := by omega
    by_cases q : T k (S k) N = 0
    · exact q
    · exfalso
      have p1 : 0 < (- T k many (C k)) * T k (S k) N := Int.mul_pos (by omega) (by omega)
      have p2 : 0 < ((- T k many (C k)) * T k (S k) N) * M i := Int.mul_pos p1 pi
      omega
  -- how a turn changes the basis
  have old : ∀ k l, i ≤ k → k < j → l < many → l ≠ S k → B (k + 1) l = B k l := fun k l h1 h2 hl hne => by
    rw [w.stepB k (by omega) l hl]; unfold putB; rw [if_neg hne]
  have new : ∀ k, i ≤ k → k < j → B (k + 1) (S k) = C k := fun k h1 h2 => by
    rw [w.stepB k (by omega) _ (w.inS k (by omega)).1]; unfold putB; rw [if_pos rfl]
  have tS : ∀ k, i ≤ k → k < j → T (k + 1) (S k) N = 0 := fun k h1 h2 => by
    rw [w.stepT k (by omega) _ N (Nat.le_of_lt (w.inS k (by omega)).1) (Nat.le_refl _)]
    unfold turned; rw [if_pos rfl]; exact deg k h1 h2
  have tO : ∀ k l, i ≤ k → k < j → l < many → l ≠ S k → (T (k + 1) l N = 0 ↔ T k l N = 0) := fun k l h1 h2 hl hne => by
    obtain ⟨c1, c2, c3⟩ := w.inC k (by omega)
    obtain ⟨s1, s2, s3⟩ := w.inS k (by omega)
    have g := w.good k (by omega)
    have e := g.turned_mul s1 c1 (Nat.le_of_lt hl) (Nat.le_refl N) hne
    rw [← w.stepT k (by omega) l N (Nat.le_of_lt hl) (Nat.le_refl _), deg k h1 h2, Int.mul_zero, Int.sub_zero] at e
    have hm := g.pos
    constructor
    · intro z
      rw [z, Int.mul_zero] at e
      rcases Int.mul_eq_zero.mp e.symm with h | h
      · exact h
      · omega
    · intro z
      rw [z, Int.zero_mul] at e
      rcases Int.mul_eq_zero.mp e with h | h
      · omega
      · exact h
  have zUp : ∀ v k, i ≤ k → k < j → ZeroAt T B many N k v → ZeroAt T B many N (k + 1) v := fun v k h1 h2 z l hl e => by
    by_cases hne : l = S k
    · rw [hne]; exact tS k h1 h2
    · exact (tO k l h1 h2 hl hne).mpr (z l hl (by rw [← old k l h1 h2 hl hne]; exact e))
  have zDn : ∀ v k, i ≤ k → k < j → ZeroAt T B many N (k + 1) v → ZeroAt T B many N k v := fun v k h1 h2 z l hl e => by
    by_cases hne : l = S k
    · rw [hne]; exact deg k h1 h2
    · exact (tO k l h1 h2 hl hne).mp (z l hl (by rw [old k l h1 h2 hl hne]; exact e))
  have zAll : ∀ v k k', i ≤ k → k ≤ j → i ≤ k' → k' ≤ j → ZeroAt T B many N k v → ZeroAt T B many N k' v := fun v k k' h1 h2 h3 h4 z => by
    have zi : ZeroAt T B many N i v := back (P := fun k => ZeroAt T B many N k v) (k - i) (fun k q1 q2 => zDn v k q1 (by omega)) (by rw [show i + (k - i) = k by omega]; exact z)
    have := along (P := fun k => ZeroAt T B many N k v) (i := i) (k' - i) (fun k q1 q2 => zUp v k q1 (by omega)) zi
    rw [show i + (k' - i) = k' by omega] at this
    exact this
  -- what never comes in, what never goes out
  have inDn : ∀ v k, i ≤ k → k < j → C k ≠ v → InB B many (k + 1) v → InB B many k v := fun v k h1 h2 hc ⟨l, hl, e⟩ => by
    by_cases hne : l = S k
    · rw [hne, new k h1 h2] at e; exact absurd e hc
    · exact ⟨l, hl, by rw [← old k l h1 h2 hl hne]; exact e⟩
  have inUp : ∀ v k, i ≤ k → k < j → B k (S k) ≠ v → InB B many k v → InB B many (k + 1) v := fun v k h1 h2 hc ⟨l, hl, e⟩ => by
    by_cases hne : l = S k
    · rw [hne] at e; exact absurd e hc
    · exact ⟨l, hl, by rw [old k l h1 h2 hl hne]; exact e⟩
  have inIJ : ∀ v, InB B many i v → InB B many j v := fun v ⟨l, hl, e⟩ => ⟨l, hl, by rw [← hb l hl]; exact e⟩
  have inJI : ∀ v, InB B many j v → InB B many i v := fun v ⟨l, hl, e⟩ => ⟨l, hl, by rw [hb l hl]; exact e⟩
  have notIn : ∀ v k k', (∀ q, i ≤ q → q < j → C q ≠ v) → i ≤ k → k ≤ j → i ≤ k' → k' ≤ j → InB B many k v → InB B many k' v := fun v k k' hn h1 h2 h3 h4 z => by
    have zi : InB B many i v := back (P := fun k => InB B many k v) (k - i) (fun k q1 q2 => inDn v k q1 (by omega) (hn k q1 (by omega))) (by rw [show i + (k - i) = k by omega]; exact z)
    have zj := inIJ v zi
    have := back (P := fun k => InB B many k v) (i := k') (j - k') (fun k q1 q2 => inDn v k (by omega) (by omega) (hn k (by omega) (by omega))) (by rw [show k' + (j - k') = j by omega]; exact zj)
    exact this
  have notOut : ∀ v k k', (∀ q, i ≤ q → q < j → B q (S q) ≠ v) → i ≤ k → k ≤ j → i ≤ k' → k' ≤ j → InB B many k v → InB B many k' v := fun v k k' hn h1 h2 h3 h4 z => by
    have zj : InB B many j v := by
      have := along (P := fun k => InB B many k v) (i := k) (j - k) (fun k q1 q2 => inUp v k (by omega) (by omega) (hn k (by omega) (by omega))) z
      rw [show k + (j - k) = j by omega] at this
      exact this
    have zi := inJI v zj
    have := along (P := fun k => InB B many k v) (i := i) (k' - i) (fun k q1 q2 => inUp v k q1 (by omega) (hn k q1 (by omega))) zi
    rw [show i + (k' - i) = k' by omega] at this
    exact this
  -- the greatest number that comes in
  obtain ⟨k0, k1, k2, k3⟩ := greatest C (j - i - 1) i
  have k2' : k0 < j := by omega
  have k3' : ∀ k, i ≤ k → k < j → C k ≤ C k0 := fun k h1 h2 => k3 k h1 (by omega)
  obtain ⟨cA, cB, cC⟩ := w.inC k0 (by omega)
  have g0 := w.good k0 (by omega)
  -- it goes out somewhere
  have goes : ∃ k, i ≤ k ∧ k < j ∧ B k (S k) = C k0 := by
    refine Classical.byContradiction fun hno => ?_
    have hn : ∀ q, i ≤ q → q < j → B q (S q) ≠ C k0 := fun q h1 h2 e => hno ⟨q, h1, h2, e⟩
    have at1 : InB B many (k0 + 1) (C k0) := ⟨S k0, (w.inS k0 (by omega)).1, new k0 k1 k2'⟩
    obtain ⟨l, hl, e⟩ := notOut (C k0) (k0 + 1) k0 hn (by omega) (by omega) k1 (by omega) at1
    have z := g0.base (Nat.le_refl many) hl
    rw [e, if_neg (by omega)] at z
    omega
  obtain ⟨k, h1, h2, eT⟩ := goes
  have g := w.good k (by omega)
  obtain ⟨c1, c2, c3⟩ := w.inC k (by omega)
  obtain ⟨s1, s2, s3⟩ := w.inS k (by omega)
  have hcl : C k < C k0 := by
    have h3 := k3' k h1 h2
    by_cases e : C k = C k0
    · exfalso
      have z := g.base (Nat.le_refl many) s1
      rw [eT, ← e, if_neg (by omega)] at z
      omega
    · omega
  have ch := g.change g0 (j := C k) (Nat.le_of_lt c1)
  have r0 : 0 ≤ T k0 many (C k) := cC _ hcl
  have hpos : 0 < sumN many fun l => T k l (C k) * T k0 many (B k l) := by
    have p1 : 0 ≤ M k * T k0 many (C k) := Int.mul_nonneg (Int.le_of_lt g.pos) r0
    have p2 : T k many (C k) * M k0 < 0 := Int.mul_neg_of_neg_of_pos c2 g0.pos
    omega
  obtain ⟨l, hl, hp⟩ := sumN_pos hpos
  have hls : l ≠ S k := fun e => by
    rw [e, eT] at hp
    have : T k (S k) (C k) * T k0 many (C k0) < 0 := Int.mul_neg_of_pos_of_neg s2 cB
    omega
  have hbl : B k l ≠ C k0 := fun e => hls (g.inj hl s1 (by rw [e, eT]))
  have hout : ¬ InB B many k0 (B k l) := fun ⟨l', hl', e'⟩ => by
    have z := g0.base (Nat.le_refl many) hl'
    rw [e', if_neg (by omega)] at z
    rw [z, Int.mul_zero] at hp
    omega
  have hin : ∃ q, i ≤ q ∧ q < j ∧ C q = B k l := by
    refine Classical.byContradiction fun hno => hout ?_
    exact notIn (B k l) k k0 (fun q h1 h2 e => hno ⟨q, h1, h2, e⟩) h1 (by omega) k1 (by omega) ⟨l, hl, rfl⟩
  obtain ⟨q, q1, q2, q3⟩ := hin
  have hlt : B k l < C k0 := by
    have := k3' q q1 q2
    omega
  have rr : 0 ≤ T k0 many (B k l) := cC _ hlt
  have tp : 0 < T k l (C k) := by
    refine Classical.byContradiction fun hno => ?_
    have : T k l (C k) * T k0 many (B k l) ≤ 0 := Int.mul_nonpos_of_nonpos_of_nonneg (by omega) rr
    omega
  have z0 : ZeroAt T B many N k0 (B k l) := fun l' hl' e' => absurd ⟨l', hl', e'⟩ hout
  have zk : T k l N = 0 := zAll (B k l) k0 k k1 (by omega) h1 (by omega) z0 l hl rfl
  have fr := s3 l hl tp
  rw [deg k h1 h2, zk, Int.zero_mul, Int.zero_mul, eT] at fr
  rcases fr with fr | ⟨_, fr⟩ <;> omega
/-- so a way has no more turns than there are bases -/
theorem Way.short (w : Way a many N K T B M C S) : K < N ^ many := by
  refine Classical.byContradiction fun hno => ?_
  obtain ⟨i, j, hij, hj, e⟩ := pigeon (N ^ many) (fun k => codeB N many (B k)) fun k hk => codeB_lt fun l hl => (w.good k (by omega)).lt l hl
  exact w.no_cycle hij (by omega) (codeB_inj (fun l hl => (w.good i (by omega)).lt l hl) (fun l hl => (w.good j (by omega)).lt l hl) e)
end IC
/-! The table of some bounds: its start, that a bound is always met, what holds at the end. -/
namespace IC

/-- the first table: bounds, one column a bound, the limits; behind them the row of what is to be great -/
def tab (size many n : Nat) (bd : Nat → Nat → Int) (lim : Nat → Int) (q j : Nat) : Int :=
  if q < many then (if j < size then bd q j else if j < size + many then (if j = size + q then 1 else 0) else lim q)
  else (if j < size then (if j = n then -1 else 0) else 0)
section
variable {size many n : Nat} {bd : Nat → Nat → Int} {lim : Nat → Int}
theorem tab_bd {q j : Nat} (hq : q < many) (hj : j < size) : tab size many n bd lim q j = bd q j := by unfold tab; rw [if_pos hq, if_pos hj]
theorem tab_slack {q p : Nat} (hq : q < many) (hp : p < many) : tab size many n bd lim q (size + p) = if p = q then 1 else 0 := by
  unfold tab; rw [if_pos hq, if_neg (by omega), if_pos (by omega)]
  by_cases e : p = q
  · rw [if_pos e, if_pos (by omega)]
  · rw [if_neg e, if_neg (by omega)]
theorem tab_lim {q : Nat} (hq : q < many) : tab size many n bd lim q (size + many) = lim q := by
  unfold tab; rw [if_pos hq, if_neg (by omega), if_neg (by omega)]
theorem tab_last {j : Nat} (hj : j < size) : tab size many n bd lim many j = if j = n then -1 else 0 := by
  unfold tab; rw [if_neg (by omega), if_pos hj]
theorem tab_last0 {j : Nat} (hj : size ≤ j) : tab size many n bd lim many j = 0 := by
  unfold tab; rw [if_neg (by omega), if_neg (by omega)]

theorem det_unit_set {r i : Nat} (v : Vec) (hi : i < r) : det r (setC unit i v) = v i := by
  have h : det r (setC unit i v) = sumN r fun q => v q * det r (setC unit i (unit q)) := by
    rw [← det_sum _ _ _ _ hi]
    refine det_congr fun k q hk hq => ?_
    by_cases z : k = i
    · subst z
      rw [setC_same, setC_same]
      rw [sumN_one (p := q) hq fun l _ hl => by
        have : unit l q = 0 := by unfold unit; rw [if_neg (fun e => hl e.symm)]
        rw [this, Int.mul_zero]]
      have : unit q q = 1 := by unfold unit; rw [if_pos rfl]
      rw [this, Int.mul_one]
    · rw [setC_ne z, setC_ne z]
  rw [h, sumN_one hi fun l hl hne => by
    rw [det_same (p := i) (q := l) hi hl (fun e => hne e.symm) (by rw [setC_same, setC_ne hne]), Int.mul_zero]]
  rw [setC_self, det_id, Int.mul_one]
/-- the first table is good -/
theorem start_good (hl : ∀ q, q < many → 0 ≤ lim q) : Good (tab size many n bd lim) many (size + many) (tab size many n bd lim) (fun l => size + l) 1 := by
  have e : ∀ k q, k < many + 1 → q < many + 1 → colsOf (tab size many n bd lim) many (fun l => size + l) k q = unit k q := fun k q hk hq => by
    by_cases z : k = many
    · subst z; rw [colsOf_last]
    · rw [colsOf_lt (by omega)]
      show tab size many n bd lim q (size + k) = _
      by_cases zq : q = many
      · subst zq
        rw [tab_last0 (by omega)]
        unfold unit; rw [if_neg (by omega)]
      · rw [tab_slack (by omega) (by omega)]
        unfold unit
        by_cases y : k = q
        · rw [if_pos y, if_pos y.symm]
        · rw [if_neg y, if_neg (fun w => y w.symm)]
  refine ⟨by omega, fun l hl => by omega, fun i j hi hj => ?_, ?_, fun q j hq hj => ?_, fun i hi => ?_⟩
  · have : det (many + 1) (setC (colsOf (tab size many n bd lim) many fun l => size + l) i (colA (tab size many n bd lim) j)) = det (many + 1) (setC unit i (colA (tab size many n bd lim) j)) :=
      det_congr fun k q hk hq => by
        by_cases z : k = i
        · subst z; rw [setC_same, setC_same]
        · rw [setC_ne z, setC_ne z]; exact e k q hk hq
    rw [this, det_unit_set _ (by omega)]
  · rw [det_congr e, det_id]
  · rw [Int.one_mul, sumN_one (p := q) (by omega) fun l hl' hne => by
      rw [e l q hl' (by omega)]
      have : unit l q = 0 := by unfold unit; rw [if_neg (fun w => hne w.symm)]
      rw [this, Int.mul_zero]]
    rw [e q q (by omega) (by omega)]
    have : unit q q = 1 := by unfold unit; rw [if_pos rfl]
    rw [this, Int.mul_one]
  · rw [tab_lim hi]; exact hl i hi

/-- what the basis gives a number -/
def valOf (many : Nat) (b : Nat → Nat) (x : Nat → Int) (v : Nat) : Int := sumN many fun l => if b l = v then x l else 0
theorem spread {N : Nat} {b : Nat → Nat} {x : Nat → Int} {f : Nat → Int} (hb : ∀ l, l < many → b l < N) :
    (sumN N fun v => f v * valOf many b x v) = sumN many fun l => x l * f (b l) := by
  have e1 : (sumN N fun v => f v * valOf many b x v) = sumN N fun v => sumN many fun l => f v * (if b l = v then x l else 0) :=
    sumN_congr fun v _ => by unfold valOf; rw [sumN_mul]
  rw [e1, sumN_comm]
  refine sumN_congr fun l hl => ?_
  rw [sumN_one (p := b l) (hb l hl) fun v _ hv => by rw [if_neg (fun e => hv e.symm), Int.mul_zero], if_pos rfl, Int.mul_comm]
theorem valOf_nn {b : Nat → Nat} {x : Nat → Int} {v : Nat} (h : ∀ l, l < many → 0 ≤ x l) : 0 ≤ valOf many b x v :=
  sumN_nn fun l hl => by split; exact h l hl; exact Int.le_refl _
theorem sumN_split (f : Nat → Int) (p : Nat) : ∀ q, sumN (p + q) f = sumN p f + sumN q fun k => f (p + k)
  | 0 => by show sumN p f = sumN p f + 0; omega
  | q + 1 => by
    show sumN (p + q) f + f (p + q) = sumN p f + (sumN q (fun k => f (p + k)) + f (p + q))
    rw [sumN_split f p q]; omega

variable {t : Nat → Nat → Int} {b : Nat → Nat} {m : Int}
/-- a row of the first table, over the numbers and its own column -/
theorem row_sum {x : Nat → Int} {q : Nat} (hq : q < many) :
    (sumN (size + many) fun v => tab size many n bd lim q v * x v) = (sumN size fun v => bd q v * x v) + x (size + q) := by
  rw [sumN_split]
  congr 1
  · exact sumN_congr fun v hv => by rw [tab_bd hq hv]
  · rw [sumN_one (p := q) hq fun k hk hne => by rw [tab_slack hq hk, if_neg hne, Int.zero_mul], tab_slack hq hq, if_pos rfl, Int.one_mul]
/-- a column's shares, row by row -/
theorem Good.col_sum (g : Good (tab size many n bd lim) many (size + many) t b m) {q j : Nat} (hq : q < many) (hj : j ≤ size + many) :
    m * tab size many n bd lim q j = (sumN size fun v => bd q v * valOf many b (fun l => t l j) v) + valOf many b (fun l => t l j) (size + q) := by
  rw [g.cols q j (Nat.le_of_lt hq) hj, ← row_sum hq, spread g.lt]
  show (sumN many _) + t many j * colsOf (tab size many n bd lim) many b many q = _
  rw [colsOf_last]
  have : unit many q = 0 := by unfold unit; rw [if_neg (by omega)]
  rw [this, Int.mul_zero, Int.add_zero]
  exact sumN_congr fun l hl => by rw [colsOf_lt hl]
theorem Good.col_last (g : Good (tab size many n bd lim) many (size + many) t b m) (hn : n < size) {j : Nat} (hj : j ≤ size + many) :
    m * tab size many n bd lim many j = t many j - valOf many b (fun l => t l j) n := by
  rw [g.cols many j (Nat.le_refl _) hj]
  show (sumN many _) + t many j * colsOf (tab size many n bd lim) many b many many = _
  rw [colsOf_last]
  have : unit many many = 1 := by unfold unit; rw [if_pos rfl]
  rw [this, Int.mul_one]
  have e : (sumN many fun l => t l j * colsOf (tab size many n bd lim) many b l many) = sumN many fun l => t l j * (fun v => if v = n then (-1 : Int) else 0) (b l) :=
    sumN_congr fun l hl => by
      rw [colsOf_lt hl]
      show t l j * tab size many n bd lim many (b l) = _
      by_cases z : b l < size
      · rw [tab_last z]
      · rw [tab_last0 (by omega)]
        show _ = t l j * (if b l = n then (-1 : Int) else 0)
        rw [if_neg (by omega)]
  rw [e.trans (spread (N := size + many) (x := fun l => t l j) (f := fun v => if v = n then (-1 : Int) else 0) g.lt).symm, sumN_one (p := n) (by omega) fun k _ hk => by rw [if_neg hk, Int.zero_mul], if_pos rfl]
  omega
/-- every number has a bound of its own -/
def Bounded (size many : Nat) (bd : Nat → Nat → Int) : Prop := ∀ v, v < size → ∃ q, q < many ∧ ∀ v', v' < size → bd q v' = if v' = v then 1 else 0
/-- a column that may come in meets a bound -/
theorem Good.meets (g : Good (tab size many n bd lim) many (size + many) t b m) (hB : Bounded size many bd) {c : Nat} (hc : c < size + many) (hr : t many c < 0) : ∃ l, l < many ∧ 0 < t l c := by
  refine Classical.byContradiction fun hno => ?_
  have hle : ∀ l, l < many → t l c ≤ 0 := fun l hl => by
    refine Classical.byContradiction fun z => hno ⟨l, hl, by omega⟩
  have hm := g.pos
  -- d v = m at c, less what the basis gives
  have dn : ∀ v, 0 ≤ (if v = c then m else 0) - valOf many b (fun l => t l c) v := fun v => by
    have h1 : valOf many b (fun l => t l c) v ≤ 0 := by
      have : (sumN many fun l => if b l = v then t l c else 0) ≤ sumN many fun _ => 0 := sumN_le fun l hl => by
        split
        · exact hle l hl
        · exact Int.le_refl _
      rw [sumN_zero (f := fun _ => 0) fun _ _ => rfl] at this
      exact this
    split <;> omega
  have row : ∀ q, q < many → (sumN size fun v => bd q v * ((if v = c then m else 0) - valOf many b (fun l => t l c) v)) + ((if size + q = c then m else 0) - valOf many b (fun l => t l c) (size + q)) = 0 := fun q hq => by
    have h := g.col_sum hq (j := c) (by omega)
    have e1 : (sumN (size + many) fun v => tab size many n bd lim q v * (if v = c then m else 0)) = tab size many n bd lim q c * m := by
      rw [sumN_one (p := c) hc fun k _ hk => by rw [if_neg hk, Int.mul_zero], if_pos rfl]
    rw [row_sum hq] at e1
    have e2 : (sumN size fun v => bd q v * ((if v = c then m else 0) - valOf many b (fun l => t l c) v)) = (sumN size fun v => bd q v * (if v = c then m else 0)) - (sumN size fun v => bd q v * valOf many b (fun l => t l c) v) := by
      have := sumN_lin size 1 (-1) (fun v => bd q v * (if v = c then m else 0)) (fun v => bd q v * valOf many b (fun l => t l c) v)
      have e3 : (sumN size fun v => bd q v * ((if v = c then m else 0) - valOf many b (fun l => t l c) v)) = sumN size fun v => 1 * (bd q v * (if v = c then m else 0)) + (-1) * (bd q v * valOf many b (fun l => t l c) v) :=
        sumN_congr fun v _ => by rw [Int.mul_sub]; omega
      rw [e3, this]; omega
    rw [e2]
    have cm : tab size many n bd lim q c * m = m * tab size many n bd lim q c := Int.mul_comm _ _
    omega
  have z1 : ∀ v, v < size → (if v = c then m else 0) - valOf many b (fun l => t l c) v = 0 := fun v hv => by
    obtain ⟨q, hq, hb⟩ := hB v hv
    have h := row q hq
    rw [sumN_one (p := v) hv fun k hk hne => by rw [hb k hk, if_neg hne, Int.zero_mul], hb v hv, if_pos rfl, Int.one_mul] at h
    have h1 := dn v
    have h2 := dn (size + q)
    omega
  have z2 : ∀ q, q < many → (if size + q = c then m else 0) - valOf many b (fun l => t l c) (size + q) = 0 := fun q hq => by
    have h := row q hq
    rw [sumN_zero fun v hv => by rw [z1 v hv, Int.mul_zero]] at h
    omega
  have zc : (if c = c then m else 0) - valOf many b (fun l => t l c) c = 0 := by
    by_cases h : c < size
    · exact z1 c h
    · have := z2 (c - size) (by omega)
      rw [show size + (c - size) = c by omega] at this
      exact this
  have h1 : valOf many b (fun l => t l c) c ≤ 0 := by
    have : (sumN many fun l => if b l = c then t l c else 0) ≤ sumN many fun _ => 0 := sumN_le fun l hl => by
      split
      · exact hle l hl
      · exact Int.le_refl _
    rw [sumN_zero (f := fun _ => 0) fun _ _ => rfl] at this
    exact this
  rw [if_pos rfl] at zc
  omega

/-! ### the end -/
theorem Good.val_nn (g : Good (tab size many n bd lim) many (size + many) t b m) (v : Nat) : 0 ≤ valOf many b (fun l => t l (size + many)) v := valOf_nn fun l hl => g.feas l hl
/-- the numbers keep the bounds -/
theorem Good.keeps (g : Good (tab size many n bd lim) many (size + many) t b m) {q : Nat} (hq : q < many) :
    (sumN size fun v => bd q v * valOf many b (fun l => t l (size + many)) v) ≤ m * lim q := by
  have h := g.col_sum hq (j := size + many) (Nat.le_refl _)
  rw [tab_lim hq] at h
  have := g.val_nn (size + q)
  omega
/-- the value -/
theorem Good.value (g : Good (tab size many n bd lim) many (size + many) t b m) (hn : n < size) : t many (size + many) = valOf many b (fun l => t l (size + many)) n := by
  have h := g.col_last hn (j := size + many) (Nat.le_refl _)
  rw [tab_last0 (by omega), Int.mul_zero] at h
  omega
/-- the last row is made of the rows by the prices -/
theorem Good.priced (g : Good (tab size many n bd lim) many (size + many) t b m) {j : Nat} (hj : j ≤ size + many) :
    t many j = (sumN many fun q => t many (size + q) * tab size many n bd lim q j) + m * tab size many n bd lim many j := by
  have h : t many j = sumN (many + 1) fun q => tab size many n bd lim q j * det (many + 1) (setC (colsOf (tab size many n bd lim) many b) many (unit q)) := by
    rw [g.ent many j (Nat.le_refl _) hj, ← det_sum _ _ _ _ (by omega)]
    refine det_congr fun k q hk hq => ?_
    by_cases z : k = many
    · subst z
      rw [setC_same, setC_same, sumN_one (p := q) hq fun l _ hl => by
        have : unit l q = 0 := by unfold unit; rw [if_neg (fun e => hl e.symm)]
        rw [this, Int.mul_zero]]
      have : unit q q = 1 := by unfold unit; rw [if_pos rfl]
      rw [this, Int.mul_one]
    · rw [setC_ne z, setC_ne z]
  rw [h]
  show (sumN many _) + tab size many n bd lim many j * det (many + 1) (setC (colsOf (tab size many n bd lim) many b) many (unit many)) = _
  have e1 : setC (colsOf (tab size many n bd lim) many b) many (unit many) = colsOf (tab size many n bd lim) many b := by
    rw [← colsOf_last (a := tab size many n bd lim) (b := b), setC_self]
  rw [e1, ← g.mes, Int.mul_comm m]
  congr 1
  refine sumN_congr fun q hq => ?_
  rw [g.ent many (size + q) (Nat.le_refl _) (by omega), Int.mul_comm]
  congr 1
  refine det_congr fun k r hk hr => ?_
  by_cases z : k = many
  · subst z
    rw [setC_same, setC_same]
    show unit q r = tab size k n bd lim r (size + q)
    by_cases y : r = k
    · subst y
      rw [tab_last0 (by omega)]
      unfold unit; rw [if_neg (by omega)]
    · rw [tab_slack (by omega) hq]
      unfold unit
      by_cases x : q = r
      · rw [if_pos x, if_pos x.symm]
      · rw [if_neg x, if_neg (fun w => x w.symm)]
  · rw [setC_ne z, setC_ne z]
/-- no entry is great -/
theorem Good.small (g : Good (tab size many n bd lim) many (size + many) t b m) {w : Nat} (h1 : 1 ≤ w) (hb : ∀ q v, q < many → v < size → (bd q v).natAbs ≤ w) (hl : ∀ q, q < many → (lim q).natAbs ≤ w) :
    (∀ i j, i ≤ many → j ≤ size + many → (t i j).natAbs ≤ fac (many + 1) * w ^ (many + 1)) ∧ m.natAbs ≤ fac (many + 1) * w ^ (many + 1) := by
  have ha : ∀ q j, (tab size many n bd lim q j).natAbs ≤ w := fun q j => by
    unfold tab
    split
    · rename_i hq
      split
      · rename_i hj; exact hb q j hq hj
      · split
        · split
          · simpa using h1
          · simp
        · exact hl q hq
    · split
      · split
        · simpa using h1
        · simp
      · simp
  have hc : ∀ k q, (colsOf (tab size many n bd lim) many b k q).natAbs ≤ w := fun k q => by
    unfold colsOf
    split
    · unfold unit; split
      · simpa using h1
      · simp
    · exact ha q _
  refine ⟨fun i j hi hj => ?_, ?_⟩
  · rw [g.ent i j hi hj]
    refine det_abs fun k q hk hq => ?_
    by_cases z : k = i
    · subst z; rw [setC_same]; exact ha q j
    · rw [setC_ne z]; exact hc k q
  · rw [g.mes]
    exact det_abs fun k q hk hq => hc k q
end
end IC
/-! What the program's pivots compute, as plain functions over lists; that it ends, and how. -/
namespace IC
def b2 (b : Bool) : Int := if b then 1 else 0
/-- an entry of a table -/
def ent (T : List (List Int)) (i j : Nat) : Int := (T.getD i []).getD j 0
def atB (base : List Nat) (l : Nat) : Nat := base.getD l 0
def turnedT (T : List (List Int)) (m : Int) (s c : Nat) : List (List Int) :=
  T.zipIdx.map fun p => if p.2 = s then p.1 else List.zipWith (fun one other => (one * ent T s c - p.1.getD c 0 * other) / m) p.1 (T.getD s [])
/-- whether a bound is reached ahead of the best so far -/
def ahead (T : List (List Int)) (base : List Nat) (c best spot : Nat) : Bool :=
  decide ((T.getD spot []).getLastD 0 * ent T best c < (T.getD best []).getLastD 0 * ent T spot c) ||
    (decide ((T.getD spot []).getLastD 0 * ent T best c = (T.getD best []).getLastD 0 * ent T spot c) && decide (atB base spot < atB base best))
def firstB (T : List (List Int)) (base : List Nat) (spots : List Nat) (c : Nat) : Nat :=
  spots.tail.foldl (fun best spot => if ahead T base c best spot = true then spot else best) (spots.getD 0 0)
def firstT (bs : List (List Int)) (ls : List Int) (col : Nat) : List (List Int) :=
  (bs.zipIdx.map fun p => (p.1 ++ (List.range bs.length).map fun far : Nat => b2 (decide ((far : Int) = (p.2 : Int)))) ++ [ls.getD p.2 0]) ++
    [((List.range (bs.getD 0 []).length).map fun far : Nat => 0 - b2 (decide ((far : Int) = (col : Int)))) ++ List.replicate (bs.length + 1) 0]
/-- the columns that may come in -/
def downT (w : Nat) (T : List (List Int)) : List Nat := (List.range w).filter fun far => decide ((T.getLastD []).getD far 0 < 0)
def spotsT (many : Nat) (T : List (List Int)) (c : Nat) : List Nat := (List.range many).filter fun s => decide (0 < ent T s c)
/-- a state of the loop -/
structure PS where
  T : List (List Int)
  base : List Nat
  m : Int
def colS (w : Nat) (st : PS) : Nat := (downT w st.T).getD 0 0
def spotS (w many : Nat) (st : PS) : Nat := firstB st.T st.base (spotsT many st.T (colS w st)) (colS w st)
def nextS (w many : Nat) (st : PS) : PS := ⟨turnedT st.T st.m (spotS w many st) (colS w st), st.base.set (spotS w many st) (colS w st), ent st.T (spotS w many st) (colS w st)⟩
def iterS (w many : Nat) (st : PS) : Nat → PS
  | 0 => st
  | k + 1 => nextS w many (iterS w many st k)

/-! ### entries -/
theorem getD_lt {α : Type} {l : List α} {i : Nat} {d : α} (h : i < l.length) : l.getD i d = l[i] := by
  rw [List.getD_eq_getElem?_getD, List.getElem?_eq_getElem h]; rfl
theorem getD_ge {α : Type} {l : List α} {i : Nat} {d : α} (h : l.length ≤ i) : l.getD i d = d := by
  rw [List.getD_eq_getElem?_getD, List.getElem?_eq_none h]; rfl
theorem getD_map {α β : Type} (f : α → β) {l : List α} {i : Nat} {d : α} {e : β} (h : i < l.length) : (l.map f).getD i e = f (l.getD i d) := by
  rw [getD_lt h, getD_lt (by rw [List.length_map]; exact h), List.getElem_map]
theorem getD_range {n i : Nat} {d : Nat} (h : i < n) : (List.range n).getD i d = i := by
  rw [getD_lt (by rw [List.length_range]; exact h), List.getElem_range]
theorem getLastD_eq {α : Type} {l : List α} {d : α} {k : Nat} (h : l.length = k + 1) : l.getLastD d = l.getD k d := by
  have hne : l ≠ [] := fun e => by rw [e] at h; simp at h
  rw [List.getLastD_eq_getLast?, List.getLast?_eq_getElem?, h, List.getD_eq_getElem?_getD]
  rfl
theorem getD_zipIdx {α : Type} {l : List α} {i : Nat} {d : α} (h : i < l.length) : l.zipIdx.getD i (d, 0) = (l.getD i d, i) := by
  rw [getD_lt (by rw [List.length_zipIdx]; exact h), getD_lt h, List.getElem_zipIdx, Nat.zero_add]
theorem getD_append_l {α : Type} {a b : List α} {i : Nat} {d : α} (h : i < a.length) : (a ++ b).getD i d = a.getD i d := by
  rw [List.getD_eq_getElem?_getD, List.getElem?_append_left h, ← List.getD_eq_getElem?_getD]
theorem getD_append_r {α : Type} {a b : List α} {i : Nat} {d : α} : (a ++ b).getD (a.length + i) d = b.getD i d := by
  rw [List.getD_eq_getElem?_getD, List.getElem?_append_right (by omega), Nat.add_sub_cancel_left, ← List.getD_eq_getElem?_getD]
theorem getD_zipWith {f : Int → Int → Int} {a b : List Int} {j : Nat} (h1 : j < a.length) (h2 : j < b.length) : (List.zipWith f a b).getD j 0 = f (a.getD j 0) (b.getD j 0) := by
  rw [getD_lt (by rw [List.length_zipWith]; omega), getD_lt h1, getD_lt h2, List.getElem_zipWith]

/-- a table of so many rows, each so long -/
structure Shape (T : List (List Int)) (many w : Nat) : Prop where
  len : T.length = many + 1
  row : ∀ r ∈ T, r.length = w + 1
variable {T : List (List Int)} {many w : Nat}
theorem Shape.at (h : Shape T many w) {i : Nat} (hi : i ≤ many) : (T.getD i []).length = w + 1 := by
  rw [getD_lt (by rw [h.len]; omega)]
  exact h.row _ (List.getElem_mem _)
theorem Shape.last (h : Shape T many w) {i : Nat} (hi : i ≤ many) : (T.getD i []).getLastD 0 = ent T i w := getLastD_eq (h.at hi)
theorem Shape.lastRow (h : Shape T many w) : T.getLastD [] = T.getD many [] := getLastD_eq h.len

theorem turnedT_at (h : Shape T many w) {m : Int} {s c i : Nat} (hi : i ≤ many) :
    (turnedT T m s c).getD i [] = if i = s then T.getD i [] else List.zipWith (fun one other => (one * ent T s c - (T.getD i []).getD c 0 * other) / m) (T.getD i []) (T.getD s []) := by
  have hl : i < T.length := by rw [h.len]; omega
  unfold turnedT
  rw [getD_map (d := ([], 0)) _ (by rw [List.length_zipIdx]; exact hl), getD_zipIdx hl]
theorem turnedT_shape (h : Shape T many w) {m : Int} {s c : Nat} (hs : s ≤ many) : Shape (turnedT T m s c) many w where
  len := by unfold turnedT; rw [List.length_map, List.length_zipIdx, h.len]
  row := fun r hr => by
    obtain ⟨i, hi, e⟩ := List.getElem_of_mem hr
    have hi' : i ≤ many := by
      have : (turnedT T m s c).length = many + 1 := by unfold turnedT; rw [List.length_map, List.length_zipIdx, h.len]
      omega
    have := turnedT_at h (m := m) (s := s) (c := c) hi'
    rw [getD_lt hi, e] at this
    rw [this]
    split
    · exact h.at hi'
    · rw [List.length_zipWith, h.at hi', h.at hs, Nat.min_self]
theorem turnedT_ent (h : Shape T many w) {m : Int} {s c i j : Nat} (hs : s ≤ many) (hi : i ≤ many) (hj : j ≤ w) : ent (turnedT T m s c) i j = turned (ent T) m s c i j := by
  unfold turned
  show ((turnedT T m s c).getD i []).getD j 0 = _
  rw [turnedT_at h hi]
  by_cases e : i = s
  · rw [if_pos e, if_pos e, e]; rfl
  · rw [if_neg e, if_neg e, getD_zipWith (by rw [h.at hi]; omega) (by rw [h.at hs]; omega)]
    rfl

/-- the first bound of some: no other one is ahead of it -/
theorem firstB_mem (base : List Nat) (c : Nat) : ∀ (l : List Nat) (b0 : Nat), (l.foldl (fun best spot => if ahead T base c best spot = true then spot else best) b0) ∈ b0 :: l
  | [], b0 => List.mem_cons_self
  | x :: l, b0 => by
    have ih := firstB_mem base c l (if ahead T base c b0 x = true then x else b0)
    rw [List.foldl_cons]
    rcases List.mem_cons.mp ih with e | e
    · rw [e]
      split
      · exact List.mem_cons_of_mem _ List.mem_cons_self
      · exact List.mem_cons_self
    · exact List.mem_cons_of_mem _ (List.mem_cons_of_mem _ e)
/-- x is no later than y -/
def NoLater (T : List (List Int)) (base : List Nat) (w c x y : Nat) : Prop :=
  ent T x w * ent T y c < ent T y w * ent T x c ∨ (ent T x w * ent T y c = ent T y w * ent T x c ∧ atB base x ≤ atB base y)
theorem noLater_trans {base : List Nat} {c x y z : Nat} (px : 0 < ent T x c) (py : 0 < ent T y c) (pz : 0 < ent T z c) (h1 : NoLater T base w c x y) (h2 : NoLater T base w c y z) : NoLater T base w c x z := by
  have e1 : ent T y c * (ent T x w * ent T z c) = (ent T x w * ent T y c) * ent T z c := by grind
  have e2 : ent T y c * (ent T z w * ent T x c) = (ent T z w * ent T y c) * ent T x c := by grind
  have e3 : (ent T y w * ent T x c) * ent T z c = (ent T y w * ent T z c) * ent T x c := by grind
  have m1 : ∀ {a b : Int}, a < b → a * ent T z c < b * ent T z c := fun h => Int.mul_lt_mul_of_pos_right h pz
  have m2 : ∀ {a b : Int}, a < b → a * ent T x c < b * ent T x c := fun h => Int.mul_lt_mul_of_pos_right h px
  have fin : ent T y c * (ent T x w * ent T z c) < ent T y c * (ent T z w * ent T x c) → NoLater T base w c x z := fun h => .inl (Int.lt_of_mul_lt_mul_left h (Int.le_of_lt py))
  rcases h1 with h1 | ⟨h1, l1⟩ <;> rcases h2 with h2 | ⟨h2, l2⟩
  · refine fin ?_
    have a := m1 h1; have b := m2 h2
    omega
  · refine fin ?_
    have a := m1 h1
    have b : (ent T y w * ent T z c) * ent T x c = (ent T z w * ent T y c) * ent T x c := by rw [h2]
    omega
  · refine fin ?_
    have a : (ent T x w * ent T y c) * ent T z c = (ent T y w * ent T x c) * ent T z c := by rw [h1]
    have b := m2 h2
    omega
  · refine .inr ⟨?_, Nat.le_trans l1 l2⟩
    have a : (ent T x w * ent T y c) * ent T z c = (ent T y w * ent T x c) * ent T z c := by rw [h1]
    have b : (ent T y w * ent T z c) * ent T x c = (ent T z w * ent T y c) * ent T x c := by rw [h2]
    exact Int.eq_of_mul_eq_mul_left (a := ent T y c) (by omega) (by omega)
theorem ahead_iff (h : Shape T many w) {base : List Nat} {c x y : Nat} (hx : x ≤ many) (hy : y ≤ many) :
    (ahead T base c x y = true → NoLater T base w c y x) ∧ (ahead T base c x y = false → NoLater T base w c x y) := by
  unfold ahead NoLater
  rw [h.last hx, h.last hy]
  constructor
  · intro e
    rcases Bool.or_eq_true_iff.mp e with e | e
    · exact .inl (of_decide_eq_true e)
    · obtain ⟨e1, e2⟩ := Bool.and_eq_true_iff.mp e
      exact .inr ⟨of_decide_eq_true e1, Nat.le_of_lt (of_decide_eq_true e2)⟩
  · intro e
    obtain ⟨e1, e2⟩ := Bool.or_eq_false_iff.mp e
    have n1 := of_decide_eq_false e1
    by_cases q : ent T y w * ent T x c = ent T x w * ent T y c
    · rw [decide_eq_true q, Bool.true_and] at e2
      have n2 := of_decide_eq_false e2
      exact .inr ⟨q.symm, by omega⟩
    · exact .inl (by omega)
theorem foldl_first (h : Shape T many w) {base : List Nat} {c : Nat} : ∀ (l : List Nat) (b0 : Nat), (∀ x ∈ b0 :: l, x ≤ many ∧ 0 < ent T x c) →
    ∀ x ∈ b0 :: l, NoLater T base w c (l.foldl (fun best spot => if ahead T base c best spot = true then spot else best) b0) x
  | [], b0, _, x, hx => by
    rcases List.mem_cons.mp hx with e | e
    · rw [e]; exact .inr ⟨rfl, Nat.le_refl _⟩
    · cases e
  | y :: l, b0, hp, x, hx => by
    obtain ⟨b1, b2'⟩ := hp b0 List.mem_cons_self
    obtain ⟨y1, y2⟩ := hp y (List.mem_cons_of_mem _ List.mem_cons_self)
    have ai := ahead_iff h (base := base) (c := c) b1 y1
    rw [List.foldl_cons]
    have hp' : ∀ x ∈ (if ahead T base c b0 y = true then y else b0) :: l, x ≤ many ∧ 0 < ent T x c := fun x hx => by
      rcases List.mem_cons.mp hx with e | e
      · rw [e]; split
        · exact ⟨y1, y2⟩
        · exact ⟨b1, b2'⟩
      · exact hp x (List.mem_cons_of_mem _ (List.mem_cons_of_mem _ e))
    have ih := foldl_first h (base := base) (c := c) l _ hp'
    have mem := firstB_mem (T := T) base c l (if ahead T base c b0 y = true then y else b0)
    obtain ⟨r1, r2⟩ := hp' _ mem
    have i0 := ih _ List.mem_cons_self
    rcases List.mem_cons.mp hx with e | hx
    · rw [e]
      by_cases q : ahead T base c b0 y = true
      · rw [if_pos q] at i0 r2 ⊢
        exact noLater_trans r2 y2 b2' i0 (ai.1 q)
      · rw [if_neg q] at i0 ⊢; exact i0
    · rcases List.mem_cons.mp hx with e | hx
      · rw [e]
        by_cases q : ahead T base c b0 y = true
        · rw [if_pos q] at i0 ⊢; exact i0
        · rw [if_neg q] at i0 r2 ⊢
          exact noLater_trans r2 b2' y2 i0 (ai.2 (by simpa using q))
      · exact ih x (List.mem_cons_of_mem _ hx)

/-! ### the first of a filtered range -/
theorem filter_range_getD {p : Nat → Bool} {n : Nat} (h : (List.range n).filter p ≠ []) :
    ((List.range n).filter p).getD 0 0 < n ∧ p (((List.range n).filter p).getD 0 0) = true ∧ ∀ j, j < ((List.range n).filter p).getD 0 0 → p j = false := by
  obtain ⟨x, r, e⟩ : ∃ x r, (List.range n).filter p = x :: r := by
    cases q : (List.range n).filter p with
    | nil => exact absurd q h
    | cons x r => exact ⟨x, r, rfl⟩
  have mx : x ∈ (List.range n).filter p := by rw [e]; exact List.mem_cons_self
  obtain ⟨m1, m2⟩ := List.mem_filter.mp mx
  rw [e]
  show x < n ∧ p x = true ∧ ∀ j, j < x → p j = false
  refine ⟨List.mem_range.mp m1, m2, fun j hj => ?_⟩
  cases q : p j with
  | false => rfl
  | true =>
    exfalso
    have mj : j ∈ (List.range n).filter p := List.mem_filter.mpr ⟨List.mem_range.mpr (Nat.lt_trans hj (List.mem_range.mp m1)), q⟩
    have pw : ((List.range n).filter p).Pairwise (· < ·) := List.Pairwise.filter p List.pairwise_lt_range
    rw [e] at mj pw
    rcases List.mem_cons.mp mj with z | z
    · omega
    · have := (List.pairwise_cons.mp pw).1 j z
      omega

/-! ### the run -/
section
variable {size n : Nat} {bd : Nat → Nat → Int} {lim : Nat → Int}
structure StOk (size many n : Nat) (bd : Nat → Nat → Int) (lim : Nat → Int) (st : PS) : Prop where
  shape : Shape st.T many (size + many)
  base : st.base.length = many
  good : Good (tab size many n bd lim) many (size + many) (ent st.T) (atB st.base) st.m
variable {st : PS}
theorem downT_eq (h : StOk size many n bd lim st) : downT (size + many) st.T = (List.range (size + many)).filter fun far => decide (ent st.T many far < 0) := by
  unfold downT; rw [h.shape.lastRow]; rfl
theorem colS_ok (h : StOk size many n bd lim st) (hd : downT (size + many) st.T ≠ []) :
    colS (size + many) st < size + many ∧ ent st.T many (colS (size + many) st) < 0 ∧ ∀ j, j < colS (size + many) st → 0 ≤ ent st.T many j := by
  have e := downT_eq h
  rw [e] at hd
  obtain ⟨h1, h2, h3⟩ := filter_range_getD hd
  unfold colS
  rw [e]
  refine ⟨h1, of_decide_eq_true h2, fun j hj => ?_⟩
  have := of_decide_eq_false (h3 j hj)
  omega
theorem spots_ok (h : StOk size many n bd lim st) (hB : Bounded size many bd) (hd : downT (size + many) st.T ≠ []) : spotsT many st.T (colS (size + many) st) ≠ [] := by
  obtain ⟨c1, c2, c3⟩ := colS_ok h hd
  obtain ⟨l, hl, hp⟩ := h.good.meets hB c1 c2
  intro e
  have : l ∈ spotsT many st.T (colS (size + many) st) := List.mem_filter.mpr ⟨List.mem_range.mpr hl, decide_eq_true hp⟩
  rw [e] at this
  cases this
theorem mem_spots {c s : Nat} (h : s ∈ spotsT many T c) : s < many ∧ 0 < ent T s c := by
  obtain ⟨h1, h2⟩ := List.mem_filter.mp h
  exact ⟨List.mem_range.mp h1, of_decide_eq_true h2⟩
theorem spots_cons {l : List Nat} (h : l ≠ []) : l = l.getD 0 0 :: l.tail := by
  cases l with
  | nil => exact absurd rfl h
  | cons x r => rfl
theorem spotS_ok (h : StOk size many n bd lim st) (hB : Bounded size many bd) (hd : downT (size + many) st.T ≠ []) :
    spotS (size + many) many st < many ∧ 0 < ent st.T (spotS (size + many) many st) (colS (size + many) st) ∧
      First (ent st.T) (atB st.base) many (size + many) (spotS (size + many) many st) (colS (size + many) st) := by
  have hs := spots_ok h hB hd
  have ec := spots_cons hs
  have mem : spotS (size + many) many st ∈ spotsT many st.T (colS (size + many) st) := by
    unfold spotS firstB
    have := firstB_mem (T := st.T) st.base (colS (size + many) st) (spotsT many st.T (colS (size + many) st)).tail ((spotsT many st.T (colS (size + many) st)).getD 0 0)
    rw [← ec] at this
    exact this
  obtain ⟨m1, m2⟩ := mem_spots mem
  refine ⟨m1, m2, fun l hl hp => ?_⟩
  have ml : l ∈ spotsT many st.T (colS (size + many) st) := List.mem_filter.mpr ⟨List.mem_range.mpr hl, decide_eq_true hp⟩
  rw [ec] at ml
  exact foldl_first h.shape _ _ (fun x hx => by
    rw [← ec] at hx
    obtain ⟨a, b⟩ := mem_spots hx
    exact ⟨Nat.le_of_lt a, b⟩) l ml
theorem atB_set {base : List Nat} {s c l : Nat} (hs : s < base.length) : atB (base.set s c) l = putB (atB base) s c l := by
  unfold atB putB
  rw [List.getD_eq_getElem?_getD, List.getElem?_set]
  by_cases e : l = s
  · subst e; simp [hs]
  · rw [if_neg (fun z => e z.symm), if_neg e, ← List.getD_eq_getElem?_getD]
theorem good_congr {a t t' : Nat → Nat → Int} {b b' : Nat → Nat} {many N : Nat} {m : Int} (g : Good a many N t b m) (ht : ∀ i j, i ≤ many → j ≤ N → t' i j = t i j) (hb : ∀ l, l < many → b' l = b l) : Good a many N t' b' m := by
  have ec : ∀ l, l < many + 1 → colsOf a many b' l = colsOf a many b l := fun l hl => by
    by_cases z : l = many
    · subst z; rw [colsOf_last, colsOf_last]
    · rw [colsOf_lt (by omega), colsOf_lt (by omega), hb l (by omega)]
  refine ⟨g.pos, fun l hl => by rw [hb l hl]; exact g.lt l hl, fun i j hi hj => ?_, ?_, fun q j hq hj => ?_, fun i hi => ?_⟩
  · rw [ht i j hi hj, g.ent i j hi hj]
    refine det_congr fun k q hk hq => ?_
    by_cases z : k = i
    · subst z; rw [setC_same, setC_same]
    · rw [setC_ne z, setC_ne z, ec k hk]
  · rw [g.mes]; exact det_congr fun k q hk hq => by rw [ec k hk]
  · rw [g.cols q j hq hj]; exact sumN_congr fun l hl => by rw [ht l j (by omega) hj, ec l hl]
  · rw [ht i N (by omega) (Nat.le_refl _)]; exact g.feas i hi
theorem StOk.next (h : StOk size many n bd lim st) (hB : Bounded size many bd) (hd : downT (size + many) st.T ≠ []) : StOk size many n bd lim (nextS (size + many) many st) := by
  obtain ⟨c1, c2, c3⟩ := colS_ok h hd
  obtain ⟨s1, s2, s3⟩ := spotS_ok h hB hd
  refine ⟨turnedT_shape h.shape (Nat.le_of_lt s1), by show (st.base.set _ _).length = many; rw [List.length_set]; exact h.base, ?_⟩
  exact good_congr (h.good.turn s1 c1 s2 s3) (fun i j hi hj => turnedT_ent h.shape (Nat.le_of_lt s1) hi hj) fun l hl => atB_set (by rw [h.base]; exact s1)
/-- the run from a good state: it comes to its end, and is good all the way -/
theorem run_ends (h0 : StOk size many n bd lim st) (hB : Bounded size many bd) :
    ∃ k, downT (size + many) (iterS (size + many) many st k).T = [] ∧ (∀ i, i < k → downT (size + many) (iterS (size + many) many st i).T ≠ []) ∧ ∀ i, i ≤ k → StOk size many n bd lim (iterS (size + many) many st i) := by
  -- so far as it goes on it is good
  have all : ∀ k, (∀ i, i < k → downT (size + many) (iterS (size + many) many st i).T ≠ []) → ∀ i, i ≤ k → StOk size many n bd lim (iterS (size + many) many st i) := fun k hk i => by
    induction i with
    | zero => exact fun _ => h0
    | succ i ih => exact fun hi => (ih (by omega)).next hB (hk i (by omega))
  have stops : ∃ k, downT (size + many) (iterS (size + many) many st k).T = [] := by
    refine Classical.byContradiction fun hno => ?_
    have hd : ∀ k, downT (size + many) (iterS (size + many) many st k).T ≠ [] := fun k e => hno ⟨k, e⟩
    have ok : ∀ k, StOk size many n bd lim (iterS (size + many) many st k) := fun k => all k (fun i _ => hd i) k (Nat.le_refl _)
    have W : Way (tab size many n bd lim) many (size + many) ((size + many) ^ many) (fun k => ent (iterS (size + many) many st k).T) (fun k => atB (iterS (size + many) many st k).base) (fun k => (iterS (size + many) many st k).m)
        (fun k => colS (size + many) (iterS (size + many) many st k)) (fun k => spotS (size + many) many (iterS (size + many) many st k)) := by
      refine ⟨fun k _ => (ok k).good, fun k _ => colS_ok (ok k) (hd k), fun k _ => spotS_ok (ok k) hB (hd k), fun k _ i j hi hj => ?_, fun k _ l hl => ?_, fun k _ => rfl⟩
      · exact turnedT_ent (ok k).shape (Nat.le_of_lt (spotS_ok (ok k) hB (hd k)).1) hi hj
      · exact atB_set (by rw [(ok k).base]; exact (spotS_ok (ok k) hB (hd k)).1)
    exact absurd W.short (Nat.lt_irrefl _)
  obtain ⟨k, hk⟩ := stops
  -- the first one
  have least : ∀ k, downT (size + many) (iterS (size + many) many st k).T = [] → ∃ k', downT (size + many) (iterS (size + many) many st k').T = [] ∧ ∀ i, i < k' → downT (size + many) (iterS (size + many) many st i).T ≠ [] := by
    intro k
    induction k using Nat.strongRecOn with
    | ind k ih =>
      intro hk
      by_cases e : ∃ i, i < k ∧ downT (size + many) (iterS (size + many) many st i).T = []
      · obtain ⟨i, hi, q⟩ := e
        exact ih i hi q
      · exact ⟨k, hk, fun i hi q => e ⟨i, hi, q⟩⟩
  obtain ⟨k', h1, h2⟩ := least k hk
  exact ⟨k', h1, h2, all k' h2⟩
end

/-! ### the start -/
/-- the bounds are rows of one length -/
structure BdOk (bs : List (List Int)) (ls : List Int) (size : Nat) : Prop where
  row : ∀ r ∈ bs, r.length = size
  pos : 0 < bs.length
  ls : ls.length = bs.length
def bdOf (bs : List (List Int)) (q v : Nat) : Int := (bs.getD q []).getD v 0
def limOf (ls : List Int) (q : Nat) : Int := ls.getD q 0
theorem getD_one {α : Type} (x : α) {i : Nat} {d : α} (h : i = 0) : [x].getD i d = x := by subst h; rfl
theorem firstT_at {bs : List (List Int)} {ls : List Int} {col i : Nat} (hi : i < bs.length) : (firstT bs ls col).getD i [] = (bs.getD i [] ++ (List.range bs.length).map fun far : Nat => b2 (decide ((far : Int) = (i : Int)))) ++ [ls.getD i 0] := by
  unfold firstT
  rw [getD_append_l (by rw [List.length_map, List.length_zipIdx]; exact hi), getD_map (d := ([], 0)) _ (by rw [List.length_zipIdx]; exact hi), getD_zipIdx hi]
theorem firstT_last {bs : List (List Int)} {ls : List Int} {col : Nat} : (firstT bs ls col).getD bs.length [] = ((List.range (bs.getD 0 []).length).map fun far : Nat => 0 - b2 (decide ((far : Int) = (col : Int)))) ++ List.replicate (bs.length + 1) 0 := by
  unfold firstT
  have := getD_append_r (a := bs.zipIdx.map fun p => (p.1 ++ (List.range bs.length).map fun far : Nat => b2 (decide ((far : Int) = (p.2 : Int)))) ++ [ls.getD p.2 0])
    (b := [((List.range (bs.getD 0 []).length).map fun far : Nat => 0 - b2 (decide ((far : Int) = (col : Int)))) ++ List.replicate (bs.length + 1) 0]) (i := 0) (d := [])
  rw [List.length_map, List.length_zipIdx] at this
  exact this
theorem firstT_shape {bs : List (List Int)} {ls : List Int} {size col : Nat} (h : BdOk bs ls size) : Shape (firstT bs ls col) bs.length (size + bs.length) where
  len := by unfold firstT; rw [List.length_append, List.length_map, List.length_zipIdx]; rfl
  row := fun r hr => by
    have len : (firstT bs ls col).length = bs.length + 1 := by unfold firstT; rw [List.length_append, List.length_map, List.length_zipIdx]; rfl
    obtain ⟨i, hi, e⟩ := List.getElem_of_mem hr
    have e' := e
    rw [← getD_lt (d := []) hi] at e'
    have hs : ∀ k, k < bs.length → (bs.getD k []).length = size := fun k hk => by rw [getD_lt hk]; exact h.row _ (List.getElem_mem _)
    by_cases z : i < bs.length
    · rw [firstT_at z] at e'
      rw [← e', List.length_append, List.length_append, List.length_map, List.length_range, hs i z]
      rfl
    · have : i = bs.length := by omega
      rw [this, firstT_last] at e'
      rw [← e', List.length_append, List.length_map, List.length_range, List.length_replicate, hs 0 h.pos]
      omega
theorem firstT_ent {bs : List (List Int)} {ls : List Int} {size col i j : Nat} (h : BdOk bs ls size) (hi : i ≤ bs.length) (hj : j ≤ size + bs.length) :
    ent (firstT bs ls col) i j = tab size bs.length col (bdOf bs) (limOf ls) i j := by
  have hs : ∀ k, k < bs.length → (bs.getD k []).length = size := fun k hk => by rw [getD_lt hk]; exact h.row _ (List.getElem_mem _)
  unfold ent
  by_cases z : i < bs.length
  · rw [firstT_at z]
    by_cases j1 : j < size
    · rw [getD_append_l (by rw [List.length_append, hs i z]; omega), getD_append_l (by rw [hs i z]; exact j1), tab_bd z j1]
      rfl
    · by_cases j2 : j < size + bs.length
      · have e : j = size + (j - size) := by omega
        rw [e, tab_slack z (by omega), getD_append_l (by rw [List.length_append, hs i z, List.length_map, List.length_range]; omega)]
        have r := getD_append_r (a := bs.getD i []) (b := (List.range bs.length).map fun far : Nat => b2 (decide ((far : Int) = (i : Int)))) (i := j - size) (d := 0)
        rw [hs i z] at r
        rw [r, getD_map (d := 0) _ (by rw [List.length_range]; omega), getD_range (by omega)]
        unfold b2
        by_cases y : j - size = i
        · rw [if_pos y, decide_eq_true (by omega)]; rfl
        · rw [if_neg y, decide_eq_false (by omega)]; rfl
      · have e : j = size + bs.length := by omega
        rw [e, tab_lim z]
        have r := getD_append_r (a := bs.getD i [] ++ (List.range bs.length).map fun far : Nat => b2 (decide ((far : Int) = (i : Int)))) (b := [ls.getD i 0]) (i := 0) (d := 0)
        rw [List.length_append, hs i z, List.length_map, List.length_range, Nat.add_zero] at r
        rw [r]; rfl
  · have e : i = bs.length := by omega
    rw [e, firstT_last, hs 0 h.pos]
    by_cases j1 : j < size
    · rw [getD_append_l (by rw [List.length_map, List.length_range]; exact j1), tab_last j1, getD_map (d := 0) _ (by rw [List.length_range]; exact j1), getD_range j1]
      unfold b2
      by_cases y : j = col
      · rw [if_pos y, decide_eq_true (by omega)]; rfl
      · rw [if_neg y, decide_eq_false (by omega)]; rfl
    · rw [tab_last0 (by omega)]
      have e : j = size + (j - size) := by omega
      rw [e]
      have r := getD_append_r (a := (List.range size).map fun far : Nat => 0 - b2 (decide ((far : Int) = (col : Int)))) (b := List.replicate (bs.length + 1) (0 : Int)) (i := j - size) (d := 0)
      rw [List.length_map, List.length_range] at r
      rw [r, getD_lt (by rw [List.length_replicate]; omega), List.getElem_replicate]
/-- the loop's first state -/
def startS (bs : List (List Int)) (ls : List Int) (size col : Nat) : PS := ⟨firstT bs ls col, (List.range bs.length).map fun spot => size + spot, 1⟩
theorem startS_ok {bs : List (List Int)} {ls : List Int} {size col : Nat} (h : BdOk bs ls size) (hl : ∀ q, q < bs.length → 0 ≤ limOf ls q) : StOk size bs.length col (bdOf bs) (limOf ls) (startS bs ls size col) where
  shape := firstT_shape h
  base := by show ((List.range bs.length).map _).length = _; rw [List.length_map, List.length_range]
  good := good_congr (start_good hl) (fun i j hi hj => firstT_ent h hi hj) fun l hl' => by
    show ((List.range bs.length).map _).getD l 0 = _
    rw [getD_map (d := 0) _ (by rw [List.length_range]; exact hl'), getD_range hl']
end IC
/-! What the program's halves compute, and that it is right. -/
namespace IC
theorem b2_nn (b : Bool) : 0 ≤ b2 b := by cases b <;> decide
theorem b2_le (b : Bool) : b2 b ≤ 1 := by cases b <;> decide
theorem b2_abs (b : Bool) : (b2 b).natAbs ≤ 1 := by cases b <;> decide
/-- what a literal weighs -/
def weight (w : Int) (row : List Int) (l : Int) : Int := if 0 < l then row.getD (l - 1).toNat 0 else w - row.getD (0 - l - 1).toNat 0
def heavy (w : Int) (row : List Int) (c : List Int) : Int := (c.map (weight w row)).sum
def doesW (w : Int) (row : List Int) (cs : List (List Int)) : Bool := cs.all fun c => decide (heavy w row c ≤ w)
def rnd (w x : Int) : Int := 1 + b2 (decide (w < 2 * x)) - b2 (decide (2 * x < w))
def roundRow (w : Int) (row : List Int) : List Int := row.map (rnd w)
def between (a b x : Int) : Bool := decide (a ≤ x) && decide (x ≤ b)
def isRow (n : Nat) (w : Int) (row : List Int) : Bool := decide (row.length = n) && row.all (between 0 w)
def areHalves (n : Nat) (cs : List (List Int)) (row : List Int) : Bool := isRow n 2 row && doesW 2 row cs
def signIn (c : List Int) (x : Int) : Int := b2 (decide (x ∈ c)) - b2 (decide (0 - x ∈ c))
def negs (c : List Int) : Nat := (c.filter fun l => decide (l < 0)).length
def overOf (cs : List (List Int)) : Int := (cs.map fun c => (c.length : Int) - 1).foldr max 0
def boundsOf (n : Nat) (cs : List (List Int)) : List (List Int) :=
  (cs.map fun c => ((List.range n).map fun v : Nat => signIn c (1 + (v : Int))) ++ [1]) ++ (List.range (n + 1)).map fun v : Nat => (List.range (n + 1)).map fun far : Nat => b2 (decide ((far : Int) = (v : Int)))
def limitsOf (n : Nat) (cs : List (List Int)) : List Int :=
  (cs.map fun c => 1 + overOf cs - (negs c : Int)) ++ (List.range (n + 1)).map fun v : Nat => if (v : Int) < (n : Int) then 1 else overOf cs
def heftAt (hs : List Int) (cs : List (List Int)) (l : Int) : Int := (((hs.zip cs).filter fun p => decide (l ∈ p.2)).map fun p => p.1).sum
def minI (a b : Int) : Int := if b < a then b else a
def takenOf (n : Nat) (cs : List (List Int)) (hs : List Int) : Int := ((List.range n).map fun v : Nat => minI (heftAt hs cs (1 + (v : Int))) (heftAt hs cs (0 - (1 + (v : Int))))).sum
def clashes (n : Nat) (cs : List (List Int)) (hs : List Int) : Bool := decide (hs.sum < takenOf n cs hs)
structure ClOk (n : Nat) (c : List Int) : Prop where
  lit : ∀ l ∈ c, 1 ≤ l.natAbs ∧ l.natAbs ≤ n
  asc : (c.map Int.natAbs).Pairwise (· < ·)

/-! ### rounding -/
theorem rnd_nn {w x : Int} (hw : 1 ≤ w) : 0 ≤ rnd w x ∧ rnd w x ≤ 2 := by
  unfold rnd b2
  by_cases h1 : w < 2 * x
  · rw [decide_eq_true h1, decide_eq_false (by omega)]; decide
  · by_cases h2 : 2 * x < w
    · rw [decide_eq_false h1, decide_eq_true h2]; decide
    · rw [decide_eq_false h1, decide_eq_false h2]; decide
theorem rnd_cases (w x : Int) : (w < 2 * x ∧ rnd w x = 2) ∨ (2 * x < w ∧ rnd w x = 0) ∨ (2 * x = w ∧ rnd w x = 1) := by
  unfold rnd b2
  by_cases h1 : w < 2 * x
  · left; rw [decide_eq_true h1, decide_eq_false (by omega)]; exact ⟨h1, rfl⟩
  · by_cases h2 : 2 * x < w
    · right; left; rw [decide_eq_false h1, decide_eq_true h2]; exact ⟨h2, rfl⟩
    · right; right; rw [decide_eq_false h1, decide_eq_false h2]; exact ⟨by omega, rfl⟩
theorem rnd_sum {w : Int} (hw : 1 ≤ w) : ∀ {xs : List Int}, (∀ x ∈ xs, 0 ≤ x) → 0 ≤ xs.sum ∧ (2 * xs.sum < w → (xs.map (rnd w)).sum = 0) ∧ (2 * xs.sum ≤ w → (xs.map (rnd w)).sum ≤ 1) ∧ (xs.sum ≤ w → (xs.map (rnd w)).sum ≤ 2)
  | [], _ => ⟨Int.le_refl 0, fun _ => rfl, fun _ => (by decide : (0 : Int) ≤ 1), fun _ => (by decide : (0 : Int) ≤ 2)⟩
  | x :: xs, h => by
    obtain ⟨i0, i1, i2, i3⟩ := rnd_sum hw (xs := xs) fun y hy => h y (List.mem_cons_of_mem _ hy)
    have hx := h x List.mem_cons_self
    rw [List.map_cons, List.sum_cons, List.sum_cons]
    rcases rnd_cases w x with ⟨a, e⟩ | ⟨a, e⟩ | ⟨a, e⟩
    · rw [e]
      refine ⟨by omega, fun q => by omega, fun q => by omega, fun q => ?_⟩
      have := i1 (by omega)
      omega
    · rw [e]
      refine ⟨by omega, fun q => ?_, fun q => ?_, fun q => ?_⟩
      · have := i1 (by omega); omega
      · have := i2 (by omega); omega
      · have := i3 (by omega); omega
    · rw [e]
      refine ⟨by omega, fun q => by omega, fun q => ?_, fun q => ?_⟩
      · have := i1 (by omega); omega
      · have := i2 (by omega); omega
/-- a literal's place in a row -/
theorem lit_ix {n : Nat} {l : Int} (h : 1 ≤ l.natAbs ∧ l.natAbs ≤ n) : (0 < l → (l - 1).toNat < n) ∧ (¬ 0 < l → (0 - l - 1).toNat < n) := by omega
theorem weight_round {w : Int} {row : List Int} {l : Int} (h : 1 ≤ l.natAbs ∧ l.natAbs ≤ row.length) : weight 2 (roundRow w row) l = rnd w (weight w row l) := by
  unfold weight roundRow
  obtain ⟨h1, h2⟩ := lit_ix h
  by_cases e : 0 < l
  · rw [if_pos e, if_pos e, getD_map (d := 0) _ (h1 e)]
  · rw [if_neg e, if_neg e, getD_map (d := 0) _ (h2 e)]
    rcases rnd_cases w (row.getD (0 - l - 1).toNat 0) with ⟨a, q⟩ | ⟨a, q⟩ | ⟨a, q⟩ <;>
    rcases rnd_cases w (w - row.getD (0 - l - 1).toNat 0) with ⟨a', q'⟩ | ⟨a', q'⟩ | ⟨a', q'⟩ <;> omega
theorem between_iff {a b x : Int} : between a b x = true ↔ a ≤ x ∧ x ≤ b := by unfold between; simp
theorem row_nn {row : List Int} {w : Int} (h : row.all (between 0 w) = true) (i : Nat) (hi : i < row.length) : 0 ≤ row.getD i 0 ∧ row.getD i 0 ≤ w := by
  rw [getD_lt hi]
  exact between_iff.mp (List.all_eq_true.mp h _ (List.getElem_mem _))
theorem weight_nn {w : Int} {row : List Int} {l : Int} (h : 1 ≤ l.natAbs ∧ l.natAbs ≤ row.length) (hr : row.all (between 0 w) = true) : 0 ≤ weight w row l := by
  unfold weight
  obtain ⟨h1, h2⟩ := lit_ix h
  split
  · rename_i e; exact (row_nn hr _ (h1 e)).1
  · rename_i e; have := (row_nn hr _ (h2 e)).2; omega
/-- a weighing rounded is halves -/
theorem round_halves {n : Nat} {cs : List (List Int)} {w : Int} {row : List Int} (hc : ∀ c ∈ cs, ClOk n c) (hw : 1 ≤ w) (hr : isRow n w row = true) (hd : doesW w row cs = true) : areHalves n cs (roundRow w row) = true := by
  obtain ⟨h1, h2⟩ := Bool.and_eq_true_iff.mp hr
  have hl := of_decide_eq_true h1
  refine Bool.and_eq_true_iff.mpr ⟨Bool.and_eq_true_iff.mpr ⟨decide_eq_true (by unfold roundRow; rw [List.length_map]; exact hl), ?_⟩, ?_⟩
  · refine List.all_eq_true.mpr fun x hx => ?_
    obtain ⟨y, _, e⟩ := List.mem_map.mp hx
    rw [← e]
    exact between_iff.mpr (rnd_nn hw)
  · refine List.all_eq_true.mpr fun c hcm => decide_eq_true ?_
    have hs := of_decide_eq_true (List.all_eq_true.mp hd c hcm)
    have e : heavy 2 (roundRow w row) c = ((c.map (weight w row)).map (rnd w)).sum := by
      unfold heavy
      rw [List.map_map]
      congr 1
      refine List.map_congr_left fun l hl' => ?_
      exact weight_round (by rw [hl]; exact (hc c hcm).lit l hl')
    rw [e]
    refine (rnd_sum hw fun x hx => ?_).2.2.2 hs
    obtain ⟨l, hl', e⟩ := List.mem_map.mp hx
    rw [← e]
    exact weight_nn (by rw [hl]; exact (hc c hcm).lit l hl') h2

/-! ### a clause by names -/
theorem ClOk.tail {n : Nat} {l : Int} {c : List Int} (h : ClOk n (l :: c)) : ClOk n c := ⟨fun x hx => h.lit x (List.mem_cons_of_mem _ hx), (List.pairwise_cons.mp h.asc).2⟩
theorem ClOk.notin {n : Nat} {l : Int} {c : List Int} (h : ClOk n (l :: c)) : ∀ x ∈ c, x.natAbs ≠ l.natAbs := fun x hx => by
  have := (List.pairwise_cons.mp h.asc).1 _ (List.mem_map_of_mem hx)
  omega
theorem mem_b2 {n : Nat} {l : Int} {c : List Int} (h : ClOk n (l :: c)) (x : Int) : b2 (decide (x ∈ l :: c)) = b2 (decide (x = l)) + b2 (decide (x ∈ c)) := by
  by_cases e : x = l
  · have : x ∉ c := fun hx => h.notin x hx (by rw [e])
    rw [e] at this ⊢
    rw [decide_eq_true (List.mem_cons_self), decide_eq_true rfl, decide_eq_false this]
    rfl
  · simp [e, b2]
/-- one literal's part of a sum over the names -/
theorem lit_sum {n : Nat} {l : Int} (hl : 1 ≤ l.natAbs ∧ l.natAbs ≤ n) (f : Nat → Int) :
    (sumN n fun v => (b2 (decide ((1 : Int) + v = l)) - b2 (decide (0 - ((1 : Int) + v) = l))) * f v) = if 0 < l then f (l - 1).toNat else - f (0 - l - 1).toNat := by
  by_cases e : 0 < l
  · rw [if_pos e, sumN_one (p := (l - 1).toNat) (by omega) fun k _ hk => by
      rw [decide_eq_false (by omega), decide_eq_false (by omega)]; simp [b2]]
    rw [decide_eq_true (by omega), decide_eq_false (by omega)]; simp [b2]
  · rw [if_neg e, sumN_one (p := (0 - l - 1).toNat) (by omega) fun k _ hk => by
      rw [decide_eq_false (by omega), decide_eq_false (by omega)]; simp [b2]]
    rw [decide_eq_false (by omega), decide_eq_true (by omega)]; simp [b2]
theorem signIn_cons {n : Nat} {l : Int} {c : List Int} (h : ClOk n (l :: c)) (x : Int) : signIn (l :: c) x = signIn c x + (b2 (decide (x = l)) - b2 (decide (0 - x = l))) := by
  unfold signIn
  rw [mem_b2 h, mem_b2 h]
  omega
theorem negs_cons (l : Int) (c : List Int) : (negs (l :: c) : Int) = negs c + b2 (decide (l < 0)) := by
  unfold negs
  rw [List.filter_cons]
  by_cases e : l < 0
  · rw [decide_eq_true e, if_pos rfl, List.length_cons]; simp [b2]
  · rw [decide_eq_false e, if_neg Bool.false_ne_true]; simp [b2]
/-- a clause's weight by names -/
theorem heavy_eq {n : Nat} {w : Int} {row : List Int} : ∀ {c : List Int}, ClOk n c → heavy w row c = (sumN n fun v => signIn c (1 + (v : Int)) * row.getD v 0) + w * negs c
  | [], _ => by
    show (0 : Int) = _
    rw [sumN_zero fun k _ => by simp [signIn, b2]]
    simp [negs]
  | l :: c, h => by
    have ih := heavy_eq (w := w) (row := row) h.tail
    show weight w row l + heavy w row c = _
    have e : (sumN n fun v => signIn (l :: c) (1 + (v : Int)) * row.getD v 0) = (sumN n fun v => signIn c (1 + (v : Int)) * row.getD v 0) + sumN n fun v => (b2 (decide ((1 : Int) + v = l)) - b2 (decide (0 - ((1 : Int) + v) = l))) * row.getD v 0 := by
      rw [← sumN_add]
      exact sumN_congr fun v _ => by rw [signIn_cons h, Int.add_mul]
    have hl := h.lit l List.mem_cons_self
    rw [ih, e, lit_sum hl (fun v => row.getD v 0), negs_cons, Int.mul_add]
    unfold weight
    by_cases q : 0 < l
    · rw [if_pos q, if_pos q, decide_eq_false (by omega)]
      simp only [b2]
      simp
      omega
    · rw [if_neg q, if_neg q, decide_eq_true (by omega)]
      simp only [b2]
      simp
      omega
theorem negs_eq {n : Nat} : ∀ {c : List Int}, ClOk n c → (negs c : Int) = sumN n fun v => b2 (decide (0 - ((1 : Int) + v) ∈ c))
  | [], _ => by rw [sumN_zero fun k _ => by simp [b2]]; rfl
  | l :: c, h => by
    have ih := negs_eq h.tail
    have hl := h.lit l List.mem_cons_self
    rw [negs_cons, ih]
    have e : (sumN n fun v => b2 (decide (0 - ((1 : Int) + v) ∈ l :: c))) = (sumN n fun v => b2 (decide (0 - ((1 : Int) + v) ∈ c))) + sumN n fun v => b2 (decide (0 - ((1 : Int) + v) = l)) := by
      rw [← sumN_add]
      exact sumN_congr fun v _ => by rw [mem_b2 h]; omega
    rw [e]
    congr 1
    by_cases q : l < 0
    · rw [sumN_one (p := (0 - l - 1).toNat) (by omega) fun k _ hk => by rw [decide_eq_false (by omega)]; rfl]
      rw [decide_eq_true q, decide_eq_true (by omega)]
    · rw [sumN_zero fun k _ => by rw [decide_eq_false (by omega)]; rfl, decide_eq_false q]; rfl

/-! ### sums of lists -/
theorem sumN_front (n : Nat) (f : Nat → Int) : sumN (n + 1) f = f 0 + sumN n fun k => f (k + 1) := by
  have := sumN_split f 1 n
  rw [Nat.add_comm] at this
  rw [this]
  have e : sumN 1 f = f 0 := by show 0 + f 0 = f 0; omega
  rw [e]
  congr 1
  exact sumN_congr fun k _ => by rw [Nat.add_comm]
theorem sum_eq : ∀ (l : List Int), l.sum = sumN l.length fun q => l.getD q 0
  | [] => rfl
  | x :: l => by
    rw [List.sum_cons, List.length_cons, sumN_front, sum_eq l]
    rfl
theorem heftAt_eq (l : Int) : ∀ {hs : List Int} {cs : List (List Int)}, hs.length = cs.length → heftAt hs cs l = sumN cs.length fun q => b2 (decide (l ∈ cs.getD q [])) * hs.getD q 0
  | [], [], _ => rfl
  | [], _ :: _, h => by simp at h
  | _ :: _, [], h => by simp at h
  | x :: hs, c :: cs, h => by
    have ih := heftAt_eq l (hs := hs) (cs := cs) (by simpa using h)
    rw [List.length_cons, sumN_front]
    show ((((x, c) :: hs.zip cs).filter fun p => decide (l ∈ p.2)).map fun p => p.1).sum = b2 (decide (l ∈ c)) * x + sumN cs.length fun q => b2 (decide (l ∈ cs.getD q [])) * hs.getD q 0
    rw [← ih, List.filter_cons]
    by_cases e : l ∈ c
    · rw [decide_eq_true e]
      show x + heftAt hs cs l = b2 true * x + heftAt hs cs l
      simp [b2]
    · rw [decide_eq_false e]
      show heftAt hs cs l = b2 false * x + heftAt hs cs l
      simp [b2]
theorem range_sum (n : Nat) (f : Nat → Int) : ((List.range n).map f).sum = sumN n f := by
  rw [sum_eq, List.length_map, List.length_range]
  exact sumN_congr fun k hk => by rw [getD_map (d := 0) _ (by rw [List.length_range]; exact hk), getD_range hk]
theorem minI_le (a b : Int) : minI a b ≤ a ∧ minI a b ≤ b ∧ (minI a b = a ∨ minI a b = b) := by
  unfold minI; split <;> omega

/-- hefts that clash leave no halves -/
theorem clash_no {n : Nat} {cs : List (List Int)} {hs row : List Int} (hc : ∀ c ∈ cs, ClOk n c) (hl : hs.length = cs.length) (hp : ∀ h ∈ hs, 0 ≤ h) (hcl : clashes n cs hs = true) (hh : areHalves n cs row = true) : False := by
  obtain ⟨hr, hd⟩ := Bool.and_eq_true_iff.mp hh
  obtain ⟨r1, r2⟩ := Bool.and_eq_true_iff.mp hr
  have hrl := of_decide_eq_true r1
  have hlt := of_decide_eq_true hcl
  have hget : ∀ q, q < cs.length → ClOk n (cs.getD q []) := fun q hq => by rw [getD_lt hq]; exact hc _ (List.getElem_mem _)
  have hnn : ∀ q, q < cs.length → 0 ≤ hs.getD q 0 := fun q hq => by rw [getD_lt (by omega)]; exact hp _ (List.getElem_mem _)
  -- each clause's weight, by its heft
  have each : ∀ q, q < cs.length → hs.getD q 0 * (sumN n fun v => b2 (decide ((1 : Int) + v ∈ cs.getD q [])) * row.getD v 0 + b2 (decide (0 - ((1 : Int) + v) ∈ cs.getD q [])) * (2 - row.getD v 0)) ≤ hs.getD q 0 * 2 := fun q hq => by
    refine Int.mul_le_mul_of_nonneg_left ?_ (hnn q hq)
    have h1 : heavy 2 row (cs.getD q []) ≤ 2 := by
      have : cs.getD q [] ∈ cs := by rw [getD_lt hq]; exact List.getElem_mem _
      exact of_decide_eq_true (List.all_eq_true.mp hd _ this)
    rw [heavy_eq (hget q hq), negs_eq (hget q hq), ← sumN_mul, ← sumN_add] at h1
    refine Int.le_trans (Int.le_of_eq (sumN_congr fun v _ => ?_)) h1
    unfold signIn
    grind
  have tot : (sumN cs.length fun q => hs.getD q 0 * (sumN n fun v => b2 (decide ((1 : Int) + v ∈ cs.getD q [])) * row.getD v 0 + b2 (decide (0 - ((1 : Int) + v) ∈ cs.getD q [])) * (2 - row.getD v 0))) ≤ sumN cs.length fun q => hs.getD q 0 * 2 := sumN_le each
  have e1 : (sumN cs.length fun q => hs.getD q 0 * 2) = 2 * hs.sum := by
    rw [sum_eq, hl, ← sumN_mul]
    exact sumN_congr fun q _ => Int.mul_comm _ _
  have e2 : (sumN cs.length fun q => hs.getD q 0 * (sumN n fun v => b2 (decide ((1 : Int) + v ∈ cs.getD q [])) * row.getD v 0 + b2 (decide (0 - ((1 : Int) + v) ∈ cs.getD q [])) * (2 - row.getD v 0))) =
      sumN n fun v => heftAt hs cs (1 + (v : Int)) * row.getD v 0 + heftAt hs cs (0 - (1 + (v : Int))) * (2 - row.getD v 0) := by
    have : (sumN cs.length fun q => hs.getD q 0 * (sumN n fun v => b2 (decide ((1 : Int) + v ∈ cs.getD q [])) * row.getD v 0 + b2 (decide (0 - ((1 : Int) + v) ∈ cs.getD q [])) * (2 - row.getD v 0))) =
        sumN cs.length fun q => sumN n fun v => hs.getD q 0 * (b2 (decide ((1 : Int) + v ∈ cs.getD q [])) * row.getD v 0 + b2 (decide (0 - ((1 : Int) + v) ∈ cs.getD q [])) * (2 - row.getD v 0)) :=
      sumN_congr fun q _ => by rw [sumN_mul]
    rw [this, sumN_comm]
    refine sumN_congr fun v _ => ?_
    rw [heftAt_eq _ hl, heftAt_eq _ hl]
    have : (sumN cs.length fun q => hs.getD q 0 * (b2 (decide ((1 : Int) + v ∈ cs.getD q [])) * row.getD v 0 + b2 (decide (0 - ((1 : Int) + v) ∈ cs.getD q [])) * (2 - row.getD v 0))) =
        sumN cs.length fun q => row.getD v 0 * (b2 (decide ((1 : Int) + v ∈ cs.getD q [])) * hs.getD q 0) + (2 - row.getD v 0) * (b2 (decide (0 - ((1 : Int) + v) ∈ cs.getD q [])) * hs.getD q 0) :=
      sumN_congr fun q _ => by grind
    rw [this, sumN_lin]
    grind
  have e3 : 2 * takenOf n cs hs ≤ sumN n fun v => heftAt hs cs (1 + (v : Int)) * row.getD v 0 + heftAt hs cs (0 - (1 + (v : Int))) * (2 - row.getD v 0) := by
    unfold takenOf
    rw [range_sum, ← sumN_mul]
    refine sumN_le fun v hv => ?_
    have hrv := row_nn r2 v (by omega)
    obtain ⟨m1, m2, _⟩ := minI_le (heftAt hs cs (1 + (v : Int))) (heftAt hs cs (0 - (1 + (v : Int))))
    have a1 : minI (heftAt hs cs (1 + (v : Int))) (heftAt hs cs (0 - (1 + (v : Int)))) * row.getD v 0 ≤ heftAt hs cs (1 + (v : Int)) * row.getD v 0 := Int.mul_le_mul_of_nonneg_right m1 hrv.1
    have a2 : minI (heftAt hs cs (1 + (v : Int))) (heftAt hs cs (0 - (1 + (v : Int)))) * (2 - row.getD v 0) ≤ heftAt hs cs (0 - (1 + (v : Int))) * (2 - row.getD v 0) := Int.mul_le_mul_of_nonneg_right m2 (by omega)
    have e : 2 * minI (heftAt hs cs (1 + (v : Int))) (heftAt hs cs (0 - (1 + (v : Int)))) = minI (heftAt hs cs (1 + (v : Int))) (heftAt hs cs (0 - (1 + (v : Int)))) * row.getD v 0 + minI (heftAt hs cs (1 + (v : Int))) (heftAt hs cs (0 - (1 + (v : Int)))) * (2 - row.getD v 0) := by grind
    omega
  omega
end IC
/-! The weighing of a bundle by the simplex way: it is right. -/
namespace IC
/-- the loop's last state -/
def EndOf (w many : Nat) (st0 st : PS) : Prop := ∃ k, st = iterS w many st0 k ∧ downT w st.T = [] ∧ ∀ i, i < k → downT w (iterS w many st0 i).T ≠ []
theorem EndOf.uniq {w many : Nat} {st0 a b : PS} (ha : EndOf w many st0 a) (hb : EndOf w many st0 b) : a = b := by
  obtain ⟨k, e1, d1, n1⟩ := ha
  obtain ⟨j, e2, d2, n2⟩ := hb
  have : k = j := by
    rcases Nat.lt_trichotomy k j with h | h | h
    · exact absurd (by rw [← e1]; exact d1) (n2 k h)
    · exact h
    · exact absurd (by rw [← e2]; exact d2) (n1 j h)
  rw [e1, e2, this]
open Classical in
noncomputable def endS (w many : Nat) (st0 : PS) : PS := if h : ∃ st, EndOf w many st0 st then Classical.choose h else st0
theorem endS_eq {w many : Nat} {st0 st : PS} (h : EndOf w many st0 st) : endS w many st0 = st := by
  have hx : ∃ st, EndOf w many st0 st := ⟨st, h⟩
  unfold endS
  rw [dif_pos hx]
  exact (Classical.choose_spec hx).uniq h

theorem overOf_ge : ∀ {cs : List (List Int)}, 0 ≤ overOf cs ∧ ∀ c ∈ cs, (c.length : Int) - 1 ≤ overOf cs
  | [] => ⟨Int.le_refl 0, fun _ h => nomatch h⟩
  | c :: cs => by
    obtain ⟨h1, h2⟩ := overOf_ge (cs := cs)
    have e : overOf (c :: cs) = max ((c.length : Int) - 1) (overOf cs) := rfl
    rw [e]
    refine ⟨by omega, fun x hx => ?_⟩
    rcases List.mem_cons.mp hx with z | z
    · rw [z]; omega
    · have := h2 x z; omega
theorem overOf_mem : ∀ (cs : List (List Int)), overOf cs ∈ (0 : Int) :: cs.map fun c => (c.length : Int) - 1
  | [] => List.mem_cons_self
  | c :: cs => by
    have ih := overOf_mem cs
    have e : overOf (c :: cs) = max ((c.length : Int) - 1) (overOf cs) := rfl
    rw [e, List.map_cons]
    by_cases h : (c.length : Int) - 1 ≤ overOf cs
    · rw [Int.max_eq_right h]
      rcases List.mem_cons.mp ih with z | z
      · rw [z]; exact List.mem_cons_self
      · exact List.mem_cons_of_mem _ (List.mem_cons_of_mem _ z)
    · rw [Int.max_eq_left (by omega)]
      exact List.mem_cons_of_mem _ List.mem_cons_self
theorem clause_len {n : Nat} : ∀ {c : List Int}, ClOk n c → c.length ≤ n := fun {c} h => by
  have h1 : ∀ (l : List Nat) (k m : Nat), l.Pairwise (· < ·) → (∀ x ∈ l, k ≤ x ∧ x < k + m) → l.length ≤ m := by
    intro l
    induction l with
    | nil => intros; exact Nat.zero_le _
    | cons x l ih =>
      intro k m hp hb
      obtain ⟨p1, p2⟩ := List.pairwise_cons.mp hp
      have hx := hb x List.mem_cons_self
      have := ih (x + 1) (k + m - x - 1) p2 fun y hy => by
        have a := p1 y hy
        have b := hb y (List.mem_cons_of_mem _ hy)
        omega
      rw [List.length_cons]
      omega
  have := h1 (c.map Int.natAbs) 1 n h.asc fun x hx => by
    obtain ⟨l, hl, e⟩ := List.mem_map.mp hx
    have := h.lit l hl
    omega
  rw [List.length_map] at this
  exact this
theorem negs_le (c : List Int) : negs c ≤ c.length := List.length_filter_le _ _
theorem overOf_le {n : Nat} {cs : List (List Int)} (hn : 1 ≤ n) (hc : ∀ c ∈ cs, ClOk n c) : overOf cs ≤ n - 1 := by
  have := overOf_mem cs
  rcases List.mem_cons.mp this with e | e
  · omega
  · obtain ⟨c, hcm, e⟩ := List.mem_map.mp e
    have := clause_len (hc c hcm)
    omega

section
variable {n : Nat} {cs : List (List Int)}
theorem bounds_len : (boundsOf n cs).length = cs.length + (n + 1) := by unfold boundsOf; simp
theorem limits_len : (limitsOf n cs).length = cs.length + (n + 1) := by unfold limitsOf; simp
theorem bounds_row : ∀ r ∈ boundsOf n cs, r.length = n + 1 := fun r hr => by
  unfold boundsOf at hr
  rcases List.mem_append.mp hr with h | h
  · obtain ⟨c, _, e⟩ := List.mem_map.mp h; rw [← e]; simp
  · obtain ⟨c, _, e⟩ := List.mem_map.mp h; rw [← e]; simp
theorem bd_clause {q v : Nat} (hq : q < cs.length) (hv : v < n) : bdOf (boundsOf n cs) q v = signIn (cs.getD q []) (1 + (v : Int)) := by
  unfold bdOf boundsOf
  rw [getD_append_l (by rw [List.length_map]; exact hq), getD_map (d := []) _ hq, getD_append_l (by rw [List.length_map, List.length_range]; exact hv), getD_map (d := 0) _ (by rw [List.length_range]; exact hv), getD_range hv]
theorem bd_clauseN {q : Nat} (hq : q < cs.length) : bdOf (boundsOf n cs) q n = 1 := by
  unfold bdOf boundsOf
  rw [getD_append_l (by rw [List.length_map]; exact hq), getD_map (d := []) _ hq]
  have r := getD_append_r (a := (List.range n).map fun v : Nat => signIn (cs.getD q []) (1 + (v : Int))) (b := [1]) (i := 0) (d := 0)
  rw [List.length_map, List.length_range] at r
  exact r
theorem bd_name {p v : Nat} (hp : p < n + 1) (hv : v < n + 1) : bdOf (boundsOf n cs) (cs.length + p) v = if v = p then 1 else 0 := by
  unfold bdOf boundsOf
  have r := getD_append_r (a := cs.map fun c => ((List.range n).map fun v : Nat => signIn c (1 + (v : Int))) ++ [1])
    (b := (List.range (n + 1)).map fun v : Nat => (List.range (n + 1)).map fun far : Nat => b2 (decide ((far : Int) = (v : Int)))) (i := p) (d := [])
  rw [List.length_map] at r
  rw [r, getD_map (d := 0) _ (by rw [List.length_range]; exact hp), getD_range hp, getD_map (d := 0) _ (by rw [List.length_range]; exact hv), getD_range hv]
  by_cases e : v = p
  · rw [if_pos e, decide_eq_true (by omega)]; rfl
  · rw [if_neg e, decide_eq_false (by omega)]; rfl
theorem lim_clause {q : Nat} (hq : q < cs.length) : limOf (limitsOf n cs) q = 1 + overOf cs - negs (cs.getD q []) := by
  unfold limOf limitsOf
  rw [getD_append_l (by rw [List.length_map]; exact hq), getD_map (d := []) _ hq]
theorem lim_name {p : Nat} (hp : p < n + 1) : limOf (limitsOf n cs) (cs.length + p) = if p < n then 1 else overOf cs := by
  unfold limOf limitsOf
  have r := getD_append_r (a := cs.map fun c => 1 + overOf cs - (negs c : Int)) (b := (List.range (n + 1)).map fun v : Nat => if (v : Int) < (n : Int) then 1 else overOf cs) (i := p) (d := 0)
  rw [List.length_map] at r
  rw [r, getD_map (d := 0) _ (by rw [List.length_range]; exact hp), getD_range hp]
  by_cases e : p < n
  · rw [if_pos e, if_pos (by omega)]
  · rw [if_neg e, if_neg (by omega)]
theorem bounds_ok : BdOk (boundsOf n cs) (limitsOf n cs) (n + 1) := ⟨bounds_row, by rw [bounds_len]; omega, by rw [bounds_len, limits_len]⟩
theorem limits_nn : ∀ q, q < (boundsOf n cs).length → 0 ≤ limOf (limitsOf n cs) q := fun q hq => by
  rw [bounds_len] at hq
  obtain ⟨o1, o2⟩ := overOf_ge (cs := cs)
  by_cases h : q < cs.length
  · rw [lim_clause h]
    have h1 := negs_le (cs.getD q [])
    have h2 := o2 (cs.getD q []) (by rw [getD_lt h]; exact List.getElem_mem _)
    omega
  · rw [show q = cs.length + (q - cs.length) by omega, lim_name (by omega)]
    split <;> omega
theorem bounds_bounded : Bounded (n + 1) (boundsOf n cs).length (bdOf (boundsOf n cs)) := fun v hv =>
  ⟨cs.length + v, by rw [bounds_len]; omega, fun v' hv' => bd_name hv hv'⟩
theorem bounds_small : ∀ q v, q < (boundsOf n cs).length → v < n + 1 → (bdOf (boundsOf n cs) q v).natAbs ≤ 1 := fun q v hq hv => by
  rw [bounds_len] at hq
  by_cases h : q < cs.length
  · by_cases e : v = n
    · rw [e, bd_clauseN h]; decide
    · rw [bd_clause h (by omega)]
      unfold signIn
      have a1 := b2_nn (decide ((1 : Int) + v ∈ cs.getD q [])); have a2 := b2_le (decide ((1 : Int) + v ∈ cs.getD q []))
      have a3 := b2_nn (decide (0 - ((1 : Int) + v) ∈ cs.getD q [])); have a4 := b2_le (decide (0 - ((1 : Int) + v) ∈ cs.getD q []))
      omega
  · rw [show q = cs.length + (q - cs.length) by omega, bd_name (by omega) hv]
    split <;> decide
theorem limits_small (hn : 1 ≤ n) (h7 : n ≤ 7) (hc : ∀ c ∈ cs, ClOk n c) : ∀ q, q < (boundsOf n cs).length → (limOf (limitsOf n cs) q).natAbs ≤ 7 := fun q hq => by
  have nn := limits_nn (n := n) (cs := cs) q hq
  have ov := overOf_le hn hc
  rw [bounds_len] at hq
  by_cases h : q < cs.length
  · rw [lim_clause h] at nn ⊢
    omega
  · rw [show q = cs.length + (q - cs.length) by omega, lim_name (by omega)] at nn ⊢
    split <;> omega
/-! ### the end of the run -/
noncomputable def endW (n : Nat) (cs : List (List Int)) : PS := endS (n + 1 + (boundsOf n cs).length) (boundsOf n cs).length (startS (boundsOf n cs) (limitsOf n cs) (n + 1) n)
theorem run_w (n : Nat) (cs : List (List Int)) : ∃ k, downT (n + 1 + (boundsOf n cs).length) (iterS (n + 1 + (boundsOf n cs).length) (boundsOf n cs).length (startS (boundsOf n cs) (limitsOf n cs) (n + 1) n) k).T = [] ∧
    (∀ i, i < k → downT (n + 1 + (boundsOf n cs).length) (iterS (n + 1 + (boundsOf n cs).length) (boundsOf n cs).length (startS (boundsOf n cs) (limitsOf n cs) (n + 1) n) i).T ≠ []) ∧
    ∀ i, i ≤ k → StOk (n + 1) (boundsOf n cs).length n (bdOf (boundsOf n cs)) (limOf (limitsOf n cs)) (iterS (n + 1 + (boundsOf n cs).length) (boundsOf n cs).length (startS (boundsOf n cs) (limitsOf n cs) (n + 1) n) i) :=
  run_ends (startS_ok bounds_ok limits_nn) bounds_bounded
theorem endW_ok : StOk (n + 1) (boundsOf n cs).length n (bdOf (boundsOf n cs)) (limOf (limitsOf n cs)) (endW n cs) ∧ downT (n + 1 + (boundsOf n cs).length) (endW n cs).T = [] := by
  obtain ⟨k, h1, h2, h3⟩ := run_w n cs
  have e : endW n cs = _ := endS_eq ⟨k, rfl, h1, h2⟩
  rw [e]
  exact ⟨h3 k (Nat.le_refl _), h1⟩
theorem fac_mono : ∀ {a b : Nat}, a ≤ b → fac a ≤ fac b
  | a, 0, h => by rw [show a = 0 by omega]; exact Nat.le_refl _
  | a, b + 1, h => by
    by_cases e : a = b + 1
    · rw [e]; exact Nat.le_refl _
    · have := fac_mono (a := a) (b := b) (by omega)
      show fac a ≤ (b + 1) * fac b
      exact Nat.le_trans this (Nat.le_mul_of_pos_left _ (by omega))
/-- all that stands in the tables is small -/
def bigZ : Nat := fac 25 * 7 ^ 25
theorem st_small {st : PS} (hn : 1 ≤ n) (h7 : n ≤ 7) (h16 : cs.length ≤ 16) (hc : ∀ c ∈ cs, ClOk n c) (h : StOk (n + 1) (boundsOf n cs).length n (bdOf (boundsOf n cs)) (limOf (limitsOf n cs)) st) :
    (∀ i j, i ≤ (boundsOf n cs).length → j ≤ n + 1 + (boundsOf n cs).length → (ent st.T i j).natAbs ≤ bigZ) ∧ st.m.natAbs ≤ bigZ := by
  obtain ⟨h1, h2⟩ := h.good.small (w := 7) (by decide) (fun q v hq hv => Nat.le_trans (bounds_small q v hq hv) (by decide)) (limits_small hn h7 hc)
  have hb : fac ((boundsOf n cs).length + 1) * 7 ^ ((boundsOf n cs).length + 1) ≤ bigZ := by
    rw [bounds_len]
    exact Nat.mul_le_mul (fac_mono (by omega)) (Nat.pow_le_pow_right (by decide) (by omega))
  exact ⟨fun i j hi hj => Nat.le_trans (h1 i j hi hj) hb, Nat.le_trans h2 hb⟩

/-! ### what is told of the end -/
/-- the numbers' values -/
def valuesOf (size w : Nat) (st : PS) : List Int := st.base.zipIdx.foldl (fun vs p => if p.1 < size then vs.set p.1 ((st.T.getD p.2 []).getLastD 0) else vs) (List.replicate size 0)
def pricesOf (size many : Nat) (st : PS) : List Int := ((st.T.getLastD []).drop size).take many
theorem foldl_vals_len {f : Nat → Int} {size : Nat} : ∀ (l : List (Nat × Nat)) (vs : List Int), (l.foldl (fun vs p => if p.1 < size then vs.set p.1 (f p.2) else vs) vs).length = vs.length
  | [], vs => rfl
  | p :: l, vs => by
    rw [List.foldl_cons, foldl_vals_len l]
    split
    · rw [List.length_set]
    · rfl
theorem foldl_vals_no {f : Nat → Int} {size v : Nat} : ∀ (l : List (Nat × Nat)) (vs : List Int), (∀ p ∈ l, p.1 ≠ v) → (l.foldl (fun vs p => if p.1 < size then vs.set p.1 (f p.2) else vs) vs).getD v 0 = vs.getD v 0
  | [], vs, _ => rfl
  | p :: l, vs, h => by
    rw [List.foldl_cons, foldl_vals_no l _ fun q hq => h q (List.mem_cons_of_mem _ hq)]
    split
    · rw [List.getD_eq_getElem?_getD, List.getElem?_set_ne (h p List.mem_cons_self), ← List.getD_eq_getElem?_getD]
    · rfl
theorem foldl_vals_at {f : Nat → Int} {size v : Nat} (hv : v < size) : ∀ (l : List (Nat × Nat)) (vs : List Int) (i : Nat), vs.length = size → (v, i) ∈ l → (∀ p ∈ l, p.1 = v → p.2 = i) →
    (l.foldl (fun vs p => if p.1 < size then vs.set p.1 (f p.2) else vs) vs).getD v 0 = f i
  | [], vs, i, _, h, _ => nomatch h
  | p :: l, vs, i, hl, h, hu => by
    rw [List.foldl_cons]
    by_cases e : (v, i) ∈ l
    · refine foldl_vals_at hv l _ i ?_ e fun q hq => hu q (List.mem_cons_of_mem _ hq)
      split
      · rw [List.length_set]; exact hl
      · exact hl
    · have hp : p = (v, i) := by
        rcases List.mem_cons.mp h with z | z
        · exact z.symm
        · exact absurd z e
      rw [foldl_vals_no l _ fun q hq hqv => e (by
        have : q = (v, i) := by
          have h2 := hu q (List.mem_cons_of_mem _ hq) hqv
          cases q; simp only at hqv h2; rw [hqv, h2]
        rw [← this]; exact hq)]
      rw [hp]
      show (if v < size then vs.set v (f i) else vs).getD v 0 = f i
      rw [if_pos hv, List.getD_eq_getElem?_getD, List.getElem?_set_self (by omega)]
      rfl
theorem values_at {size many : Nat} {bd : Nat → Nat → Int} {lim : Nat → Int} {k : Nat} {st : PS} (h : StOk size many k bd lim st) {v : Nat} (hv : v < size) :
    (valuesOf size (size + many) st).getD v 0 = valOf many (atB st.base) (fun l => ent st.T l (size + many)) v := by
  have gl : ∀ l, l < many → (st.T.getD l []).getLastD 0 = ent st.T l (size + many) := fun l hl => h.shape.last (Nat.le_of_lt hl)
  unfold valuesOf valOf
  by_cases e : ∃ l, l < many ∧ atB st.base l = v
  · obtain ⟨l, hl, q⟩ := e
    have hmem : (v, l) ∈ st.base.zipIdx := by
      have : (st.base.zipIdx)[l]? = some (v, l) := by
        have hl' : l < st.base.zipIdx.length := by rw [List.length_zipIdx, h.base]; exact hl
        rw [List.getElem?_eq_getElem hl', List.getElem_zipIdx, Nat.zero_add]
        have : st.base[l]'(by rw [h.base]; exact hl) = v := by
          rw [← q]; unfold atB; rw [getD_lt (by rw [h.base]; exact hl)]
        rw [this]
      exact List.mem_of_getElem? this
    rw [foldl_vals_at (f := fun i => (st.T.getD i []).getLastD 0) hv _ _ l (List.length_replicate) hmem fun p hp hpv => ?_]
    · rw [sumN_one hl fun k hk hne => by
        rw [if_neg fun z => hne (h.good.inj hk hl (z.trans q.symm))], if_pos q]
      exact gl l hl
    · obtain ⟨i, hi, ei⟩ := List.getElem_of_mem hp
      rw [List.getElem_zipIdx, Nat.zero_add] at ei
      rw [List.length_zipIdx, h.base] at hi
      have h1 : atB st.base i = v := by
        unfold atB; rw [getD_lt (by rw [h.base]; exact hi)]
        rw [← ei] at hpv; exact hpv
      have : i = l := h.good.inj hi hl (h1.trans q.symm)
      rw [← ei]; exact this
  · rw [foldl_vals_no (f := fun i => (st.T.getD i []).getLastD 0) _ _ fun p hp hpv => ?_]
    · rw [getD_lt (by rw [List.length_replicate]; exact hv), List.getElem_replicate, sumN_zero fun l hl => by rw [if_neg fun z => e ⟨l, hl, z⟩]]
    · obtain ⟨i, hi, ei⟩ := List.getElem_of_mem hp
      rw [List.getElem_zipIdx, Nat.zero_add] at ei
      rw [List.length_zipIdx, h.base] at hi
      exact e ⟨i, hi, by
        unfold atB; rw [getD_lt (by rw [h.base]; exact hi)]
        rw [← ei] at hpv; exact hpv⟩
theorem values_len {size w : Nat} {st : PS} : (valuesOf size w st).length = size := by
  unfold valuesOf
  rw [foldl_vals_len (f := fun i => (st.T.getD i []).getLastD 0), List.length_replicate]
theorem prices_at {size many : Nat} {T : List (List Int)} {base : List Nat} {m : Int} (h : Shape T many (size + many)) {q : Nat} (hq : q < many) : (pricesOf size many ⟨T, base, m⟩).getD q 0 = ent T many (size + q) := by
  unfold pricesOf
  show (((T.getLastD []).drop size).take many).getD q 0 = _
  rw [h.lastRow, List.getD_eq_getElem?_getD, List.getElem?_take_of_lt hq, List.getElem?_drop, ← List.getD_eq_getElem?_getD]
  rfl
theorem prices_len {size many : Nat} {T : List (List Int)} {base : List Nat} {m : Int} (h : Shape T many (size + many)) : (pricesOf size many ⟨T, base, m⟩).length = many := by
  unfold pricesOf
  show (((T.getLastD []).drop size).take many).length = many
  rw [h.lastRow, List.length_take, List.length_drop, h.at (Nat.le_refl _)]
  omega
/-- the value, the rounded row, the hefts -/
noncomputable def bestW (n : Nat) (cs : List (List Int)) : Int := ((endW n cs).T.getLastD []).getLastD 0
noncomputable def rowW (n : Nat) (cs : List (List Int)) : List Int := roundRow (endW n cs).m ((valuesOf (n + 1) (n + 1 + (boundsOf n cs).length) (endW n cs)).take n)
noncomputable def heftsW (n : Nat) (cs : List (List Int)) : List Int := (pricesOf (n + 1) (boundsOf n cs).length (endW n cs)).take cs.length
theorem bestW_eq : bestW n cs = ent (endW n cs).T (boundsOf n cs).length (n + 1 + (boundsOf n cs).length) := by
  obtain ⟨h, _⟩ := endW_ok (n := n) (cs := cs)
  unfold bestW
  rw [h.shape.lastRow, h.shape.last (Nat.le_refl _)]
/-- where the value is as great as can be, the row is halves -/
theorem halves_of (hn : 1 ≤ n) (hc : ∀ c ∈ cs, ClOk n c) (e : bestW n cs = overOf cs * (endW n cs).m) : areHalves n cs (rowW n cs) = true := by
  obtain ⟨h, hd⟩ := endW_ok (n := n) (cs := cs)
  have hm := h.good.pos
  have hX : ∀ v, v < n + 1 → (valuesOf (n + 1) (n + 1 + (boundsOf n cs).length) (endW n cs)).getD v 0 = valOf (boundsOf n cs).length (atB (endW n cs).base) (fun l => ent (endW n cs).T l (n + 1 + (boundsOf n cs).length)) v := fun v hv => values_at h hv
  have hT : ∀ v, v < n → ((valuesOf (n + 1) (n + 1 + (boundsOf n cs).length) (endW n cs)).take n).getD v 0 = valOf (boundsOf n cs).length (atB (endW n cs).base) (fun l => ent (endW n cs).T l (n + 1 + (boundsOf n cs).length)) v := fun v hv => by
    rw [List.getD_eq_getElem?_getD, List.getElem?_take_of_lt hv, ← List.getD_eq_getElem?_getD]
    exact hX v (by omega)
  have hval := h.good.value (Nat.lt_succ_self n)
  rw [← bestW_eq, e] at hval
  unfold rowW
  refine round_halves hc (w := (endW n cs).m) (by omega) ?_ ?_
  · refine Bool.and_eq_true_iff.mpr ⟨decide_eq_true (by rw [List.length_take, values_len]; omega), List.all_eq_true.mpr fun x hx => ?_⟩
    obtain ⟨v, hv, ev⟩ := List.getElem_of_mem hx
    have hv' : v < n := by rw [List.length_take, values_len] at hv; omega
    have e1 := hT v hv'
    rw [getD_lt hv, ev] at e1
    rw [e1]
    refine between_iff.mpr ⟨h.good.val_nn v, ?_⟩
    have k := h.good.keeps (q := cs.length + v) (by rw [bounds_len]; omega)
    rw [sumN_one (p := v) (by omega) fun k hk hne => by rw [bd_name (by omega) hk, if_neg hne, Int.zero_mul], bd_name (by omega) (by omega), if_pos rfl, lim_name (by omega), if_pos hv'] at k
    omega
  · refine List.all_eq_true.mpr fun c hcm => decide_eq_true ?_
    obtain ⟨q, hq, eq⟩ := List.getElem_of_mem hcm
    have hcq : cs.getD q [] = c := by rw [getD_lt hq]; exact eq
    rw [heavy_eq (hc c hcm)]
    have k := h.good.keeps (q := q) (by rw [bounds_len]; omega)
    rw [lim_clause hq, hcq] at k
    have es : (sumN (n + 1) fun v => bdOf (boundsOf n cs) q v * valOf (boundsOf n cs).length (atB (endW n cs).base) (fun l => ent (endW n cs).T l (n + 1 + (boundsOf n cs).length)) v) =
        (sumN n fun v => signIn c (1 + (v : Int)) * ((valuesOf (n + 1) (n + 1 + (boundsOf n cs).length) (endW n cs)).take n).getD v 0) + overOf cs * (endW n cs).m := by
      show (sumN n _) + bdOf (boundsOf n cs) q n * _ = _
      rw [bd_clauseN hq, ← hval, Int.one_mul]
      congr 1
      exact sumN_congr fun v hv => by rw [bd_clause hq hv, hcq, hT v hv]
    rw [es] at k
    have : (endW n cs).m * (1 + overOf cs - (negs c : Int)) = (endW n cs).m + overOf cs * (endW n cs).m - (endW n cs).m * negs c := by grind
    omega
/-- the hefts: as many as clauses, from 0 on, not great -/
theorem hefts_ok (hn : 1 ≤ n) (h7 : n ≤ 7) (h16 : cs.length ≤ 16) (hc : ∀ c ∈ cs, ClOk n c) : (heftsW n cs).length = cs.length ∧ ∀ x ∈ heftsW n cs, 0 ≤ x ∧ x.natAbs ≤ bigZ := by
  obtain ⟨h, hd⟩ := endW_ok (n := n) (cs := cs)
  have hlen : (heftsW n cs).length = cs.length := by
    unfold heftsW
    rw [List.length_take, prices_len h.shape, bounds_len]
    omega
  refine ⟨hlen, fun x hx => ?_⟩
  obtain ⟨q, hq, eq⟩ := List.getElem_of_mem hx
  rw [hlen] at hq
  have e1 : (heftsW n cs).getD q 0 = ent (endW n cs).T (boundsOf n cs).length (n + 1 + q) := by
    unfold heftsW
    rw [List.getD_eq_getElem?_getD, List.getElem?_take_of_lt hq, ← List.getD_eq_getElem?_getD]
    exact prices_at h.shape (by rw [bounds_len]; omega)
  rw [getD_lt (by rw [hlen]; exact hq), eq] at e1
  have hqb : n + 1 + q < n + 1 + (boundsOf n cs).length := by rw [bounds_len]; omega
  constructor
  · rw [e1]
    have d := downT_eq h
    rw [hd] at d
    refine Classical.byContradiction fun hneg => ?_
    have : n + 1 + q ∈ (List.range (n + 1 + (boundsOf n cs).length)).filter fun far => decide (ent (endW n cs).T (boundsOf n cs).length far < 0) :=
      List.mem_filter.mpr ⟨List.mem_range.mpr hqb, decide_eq_true (by omega)⟩
    rw [← d] at this
    cases this
  · rw [e1]
    exact (st_small hn h7 h16 hc h).1 _ _ (Nat.le_refl _) (Nat.le_of_lt hqb)
/-- where it is not, they clash -/
theorem clash_of (hn : 1 ≤ n) (h7 : n ≤ 7) (h16 : cs.length ≤ 16) (hc : ∀ c ∈ cs, ClOk n c) (ne : bestW n cs ≠ overOf cs * (endW n cs).m) : clashes n cs (heftsW n cs) = true := by
  obtain ⟨h, hd⟩ := endW_ok (n := n) (cs := cs)
  obtain ⟨hlen, hpos⟩ := hefts_ok hn h7 h16 hc
  have hm := h.good.pos
  have ov := (overOf_ge (cs := cs)).1
  have blen : (boundsOf n cs).length = cs.length + (n + 1) := bounds_len
  have nn : ∀ j, j < n + 1 + (boundsOf n cs).length → 0 ≤ ent (endW n cs).T (boundsOf n cs).length j := fun j hj => by
    have d := downT_eq h
    rw [hd] at d
    refine Classical.byContradiction fun hneg => ?_
    have : j ∈ (List.range (n + 1 + (boundsOf n cs).length)).filter fun far => decide (ent (endW n cs).T (boundsOf n cs).length far < 0) :=
      List.mem_filter.mpr ⟨List.mem_range.mpr hj, decide_eq_true (by omega)⟩
    rw [← d] at this
    cases this
  -- the prices
  have hy : ∀ q, q < cs.length → (heftsW n cs).getD q 0 = ent (endW n cs).T (boundsOf n cs).length (n + 1 + q) := fun q hq => by
    unfold heftsW
    rw [List.getD_eq_getElem?_getD, List.getElem?_take_of_lt hq, ← List.getD_eq_getElem?_getD]
    exact prices_at h.shape (by omega)
  -- the sum over all rows, by clauses and names
  have parts : ∀ j, j ≤ n + 1 + (boundsOf n cs).length → ent (endW n cs).T (boundsOf n cs).length j =
      (sumN cs.length fun q => (heftsW n cs).getD q 0 * tab (n + 1) (boundsOf n cs).length n (bdOf (boundsOf n cs)) (limOf (limitsOf n cs)) q j) +
      (sumN (n + 1) fun p => ent (endW n cs).T (boundsOf n cs).length (n + 1 + (cs.length + p)) * tab (n + 1) (boundsOf n cs).length n (bdOf (boundsOf n cs)) (limOf (limitsOf n cs)) (cs.length + p) j) +
      (endW n cs).m * tab (n + 1) (boundsOf n cs).length n (bdOf (boundsOf n cs)) (limOf (limitsOf n cs)) (boundsOf n cs).length j := fun j hj => by
    rw [h.good.priced hj]
    have es : (sumN (boundsOf n cs).length fun q => ent (endW n cs).T (boundsOf n cs).length (n + 1 + q) * tab (n + 1) (boundsOf n cs).length n (bdOf (boundsOf n cs)) (limOf (limitsOf n cs)) q j) =
        sumN (cs.length + (n + 1)) fun q => ent (endW n cs).T (boundsOf n cs).length (n + 1 + q) * tab (n + 1) (boundsOf n cs).length n (bdOf (boundsOf n cs)) (limOf (limitsOf n cs)) q j := by
      congr 1
    rw [es, sumN_split]
    congr 2
    exact sumN_congr fun q hq => by rw [hy q hq]
  -- names' columns
  have cName : ∀ v, v < n → 0 ≤ (heftAt (heftsW n cs) cs (1 + (v : Int)) - heftAt (heftsW n cs) cs (0 - (1 + (v : Int)))) + ent (endW n cs).T (boundsOf n cs).length (n + 1 + (cs.length + v)) := fun v hv => by
    have p := parts v (by omega)
    have n0 := nn v (by omega)
    rw [p, tab_last (by omega), if_neg (by omega), Int.mul_zero, Int.add_zero] at n0
    rw [sumN_one (n := n + 1) (p := v) (by omega) fun k hk hne => by rw [tab_bd (by omega) (by omega), bd_name hk (by omega), if_neg (Ne.symm hne), Int.mul_zero], tab_bd (by omega) (by omega), bd_name (by omega) (by omega), if_pos rfl, Int.mul_one] at n0
    have e1 : (sumN cs.length fun q => (heftsW n cs).getD q 0 * tab (n + 1) (boundsOf n cs).length n (bdOf (boundsOf n cs)) (limOf (limitsOf n cs)) q v) =
        heftAt (heftsW n cs) cs (1 + (v : Int)) - heftAt (heftsW n cs) cs (0 - (1 + (v : Int))) := by
      rw [heftAt_eq _ hlen, heftAt_eq _ hlen]
      have : (sumN cs.length fun q => (heftsW n cs).getD q 0 * tab (n + 1) (boundsOf n cs).length n (bdOf (boundsOf n cs)) (limOf (limitsOf n cs)) q v) =
          sumN cs.length fun q => 1 * (b2 (decide ((1 : Int) + v ∈ cs.getD q [])) * (heftsW n cs).getD q 0) + (-1) * (b2 (decide (0 - ((1 : Int) + v) ∈ cs.getD q [])) * (heftsW n cs).getD q 0) :=
        sumN_congr fun q hq => by
          rw [tab_bd (by omega) (by omega), bd_clause hq hv]
          unfold signIn
          grind
      rw [this, sumN_lin]
      omega
    rw [e1] at n0
    exact n0
  -- the last column of the numbers
  have cLast : (endW n cs).m ≤ (heftsW n cs).sum + ent (endW n cs).T (boundsOf n cs).length (n + 1 + (cs.length + n)) := by
    have p := parts n (by omega)
    have n0 := nn n (by omega)
    rw [p, tab_last (by omega), if_pos rfl] at n0
    rw [sumN_one (n := n + 1) (p := n) (by omega) fun k hk hne => by rw [tab_bd (by omega) (by omega), bd_name hk (by omega), if_neg (Ne.symm hne), Int.mul_zero], tab_bd (by omega) (by omega), bd_name (by omega) (by omega), if_pos rfl, Int.mul_one] at n0
    have e1 : (sumN cs.length fun q => (heftsW n cs).getD q 0 * tab (n + 1) (boundsOf n cs).length n (bdOf (boundsOf n cs)) (limOf (limitsOf n cs)) q n) = (heftsW n cs).sum := by
      rw [sum_eq, hlen]
      exact sumN_congr fun q hq => by rw [tab_bd (by omega) (by omega), bd_clauseN hq, Int.mul_one]
    rw [e1] at n0
    omega
  -- the value
  have cVal : bestW n cs = (sumN cs.length fun q => (heftsW n cs).getD q 0 * (1 + overOf cs - negs (cs.getD q []))) + (sumN n fun p => ent (endW n cs).T (boundsOf n cs).length (n + 1 + (cs.length + p))) +
      ent (endW n cs).T (boundsOf n cs).length (n + 1 + (cs.length + n)) * overOf cs := by
    rw [bestW_eq, parts _ (Nat.le_refl _), tab_last0 (by omega), Int.mul_zero, Int.add_zero]
    have e1 : (sumN cs.length fun q => (heftsW n cs).getD q 0 * tab (n + 1) (boundsOf n cs).length n (bdOf (boundsOf n cs)) (limOf (limitsOf n cs)) q (n + 1 + (boundsOf n cs).length)) =
        sumN cs.length fun q => (heftsW n cs).getD q 0 * (1 + overOf cs - negs (cs.getD q [])) := sumN_congr fun q hq => by rw [tab_lim (by omega), lim_clause hq]
    have e2 : (sumN (n + 1) fun p => ent (endW n cs).T (boundsOf n cs).length (n + 1 + (cs.length + p)) * tab (n + 1) (boundsOf n cs).length n (bdOf (boundsOf n cs)) (limOf (limitsOf n cs)) (cs.length + p) (n + 1 + (boundsOf n cs).length)) =
        (sumN n fun p => ent (endW n cs).T (boundsOf n cs).length (n + 1 + (cs.length + p))) + ent (endW n cs).T (boundsOf n cs).length (n + 1 + (cs.length + n)) * overOf cs := by
      show (sumN n _) + _ * _ = _
      rw [tab_lim (by omega), lim_name (by omega), if_neg (by omega)]
      congr 1
      exact sumN_congr fun p hp => by rw [tab_lim (by omega), lim_name (by omega), if_pos hp, Int.mul_one]
    rw [e1, e2]
    omega
  -- the value is no greater than it can be
  have le : bestW n cs ≤ overOf cs * (endW n cs).m := by
    have hv := h.good.value (Nat.lt_succ_self n)
    rw [← bestW_eq] at hv
    have k := h.good.keeps (q := cs.length + n) (by omega)
    rw [sumN_one (p := n) (by omega) fun k hk hne => by rw [bd_name (by omega) hk, if_neg hne, Int.zero_mul], bd_name (by omega) (by omega), if_pos rfl, lim_name (by omega), if_neg (by omega)] at k
    have : overOf cs * (endW n cs).m = (endW n cs).m * overOf cs := Int.mul_comm _ _
    omega
  -- what is against it
  have eneg : (sumN cs.length fun q => (heftsW n cs).getD q 0 * negs (cs.getD q [])) = sumN n fun v => heftAt (heftsW n cs) cs (0 - (1 + (v : Int))) := by
    have : (sumN cs.length fun q => (heftsW n cs).getD q 0 * negs (cs.getD q [])) = sumN cs.length fun q => sumN n fun v => (heftsW n cs).getD q 0 * b2 (decide (0 - ((1 : Int) + v) ∈ cs.getD q [])) :=
      sumN_congr fun q hq => by
        rw [sumN_mul, ← negs_eq (n := n) (by rw [getD_lt hq]; exact hc _ (List.getElem_mem _))]
    rw [this, sumN_comm]
    refine sumN_congr fun v _ => ?_
    rw [heftAt_eq _ hlen]
    exact sumN_congr fun q _ => Int.mul_comm _ _
  have e4 : (sumN cs.length fun q => (heftsW n cs).getD q 0 * (1 + overOf cs - negs (cs.getD q []))) = (1 + overOf cs) * (heftsW n cs).sum - sumN n fun v => heftAt (heftsW n cs) cs (0 - (1 + (v : Int))) := by
    rw [← eneg, sum_eq, hlen]
    have : (sumN cs.length fun q => (heftsW n cs).getD q 0 * (1 + overOf cs - negs (cs.getD q []))) = sumN cs.length fun q => (1 + overOf cs) * (heftsW n cs).getD q 0 + (-1) * ((heftsW n cs).getD q 0 * negs (cs.getD q [])) :=
      sumN_congr fun q _ => by grind
    rw [this, sumN_lin]
    omega
  have taken : (sumN n fun v => heftAt (heftsW n cs) cs (0 - (1 + (v : Int)))) - (sumN n fun p => ent (endW n cs).T (boundsOf n cs).length (n + 1 + (cs.length + p))) ≤ takenOf n cs (heftsW n cs) := by
    unfold takenOf
    rw [range_sum]
    have : (sumN n fun v => heftAt (heftsW n cs) cs (0 - (1 + (v : Int)))) - (sumN n fun p => ent (endW n cs).T (boundsOf n cs).length (n + 1 + (cs.length + p))) =
        sumN n fun v => 1 * heftAt (heftsW n cs) cs (0 - (1 + (v : Int))) + (-1) * ent (endW n cs).T (boundsOf n cs).length (n + 1 + (cs.length + v)) := by
      rw [sumN_lin]; omega
    rw [this]
    refine sumN_le fun v hv => ?_
    have c1 := cName v hv
    have c2 := nn (n + 1 + (cs.length + v)) (by omega)
    obtain ⟨_, _, m3⟩ := minI_le (heftAt (heftsW n cs) cs (1 + (v : Int))) (heftAt (heftsW n cs) cs (0 - (1 + (v : Int))))
    rcases m3 with m3 | m3 <;> rw [m3] <;> omega
  have hov : overOf cs * (endW n cs).m ≤ overOf cs * ((heftsW n cs).sum + ent (endW n cs).T (boundsOf n cs).length (n + 1 + (cs.length + n))) := Int.mul_le_mul_of_nonneg_left cLast ov
  refine decide_eq_true ?_
  rw [e4] at cVal
  have x1 : (1 + overOf cs) * (heftsW n cs).sum = (heftsW n cs).sum + overOf cs * (heftsW n cs).sum := by grind
  have x2 : overOf cs * ((heftsW n cs).sum + ent (endW n cs).T (boundsOf n cs).length (n + 1 + (cs.length + n))) = overOf cs * (heftsW n cs).sum + ent (endW n cs).T (boundsOf n cs).length (n + 1 + (cs.length + n)) * overOf cs := by grind
  omega
end
end IC
/-! A layer of data over HandS: what an expression is worth, as data; what a statement does, over slots of data and the things that change. -/
namespace DL
open PySem PySem.Spec PyProof.Rows L2

/-- a slot's content: data, or a thing that changes -/
inductive S where
  | d (x : PyData)
  | m (a : Addr)
abbrev En := List (Option S)
/-- a thing that changes -/
inductive MO where
  | lst (xs : List PyData)
  | dK (kvs : List (Key × S))
  | dT (kvs : List (List Key × PyData))
  | scr (xs : List PyData)
abbrev Mu := Addr → Option MO
def mup (M : Mu) (a : Addr) (o : MO) : Mu := fun b => if b = a then some o else M b
theorem mup_same {M : Mu} {a : Addr} {o : MO} : mup M a o a = some o := by unfold mup; rw [if_pos rfl]
theorem mup_ne {M : Mu} {a b : Addr} {o : MO} (h : b ≠ a) : mup M a o b = M b := by unfold mup; rw [if_neg h]
theorem mup_mup {M : Mu} {a : Addr} {o u : MO} : mup (mup M a o) a u = mup M a u := by funext b; unfold mup; split <;> rfl
def mdel (M : Mu) (a : Addr) : Mu := fun b => if b = a then none else M b
theorem mdel_mup {M : Mu} {a : Addr} {o : MO} (h : M a = none) : mdel (mup M a o) a = M := by
  funext b; unfold mdel mup
  by_cases e : b = a
  · rw [if_pos e, e, h]
  · rw [if_neg e, if_neg e]
theorem mdel_mup_ne {M : Mu} {a b : Addr} {o : MO} (h : b ≠ a) : mdel (mup M b o) a = mup (mdel M a) b o := by
  funext c; unfold mdel mup
  by_cases e : c = a
  · have hb : ¬ c = b := fun z => h (z.symm.trans e)
    simp only [if_pos e, if_neg hb]
  · simp only [if_neg e]

def Ex (H H' : Hp) : Prop := ∀ a o, H a = some o → H' a = some o
theorem Ex.refl (H : Hp) : Ex H H := fun _ _ h => h
theorem Ex.trans {H H1 H2 : Hp} (a : Ex H H1) (b : Ex H1 H2) : Ex H H2 := fun x o h => b x o (a x o h)
theorem Ex.new {H : Hp} {p : Addr} {o : HO} (h : H p = none) : Ex H (upd H p o) := fun a u e => by
  rw [upd_ne (ne_of_none e h)]; exact e
/-! ### what stands in the heap as data that stays -/
mutual
inductive Rp (G : Hp) : V → PyData → Prop
  | non : Rp G .non .none
  | bl (b : Bool) : Rp G (.bl b) (.bool b)
  | int (i : Int) : Rp G (.int i) (.int i)
  | str (x : Str) : Rp G (.str x) (.str x)
  | lst {a : Addr} {xs : List V} {ds : List PyData} : G a = some (.lst xs) → RpA G xs ds → Rp G (.ref a) (.list ds)
  | tup {a : Addr} {xs : List V} {ds : List PyData} : G a = some (.tup xs) → RpA G xs ds → Rp G (.ref a) (.tuple ds)
inductive RpA (G : Hp) : List V → List PyData → Prop
  | nil : RpA G [] []
  | cons {v : V} {vs : List V} {d : PyData} {ds : List PyData} : Rp G v d → RpA G vs ds → RpA G (v :: vs) (d :: ds)
end
section
variable {K : PySem.W.Frag} {G G' H H' : Hp}
mutual
theorem rp_ex (e : Ex G G') : ∀ (d : PyData) (v : V), Rp G v d → Rp G' v d
  | .none, _, h => by cases h; exact .non
  | .bool b, _, h => by cases h; exact .bl b
  | .int i, _, h => by cases h; exact .int i
  | .str x, _, h => by cases h; exact .str x
  | .list ds, _, h => by
    cases h with
    | lst hs ha => exact .lst (e _ _ hs) (rps_ex e ds _ ha)
  | .tuple ds, _, h => by
    cases h with
    | tup hs ha => exact .tup (e _ _ hs) (rps_ex e ds _ ha)
  | .dict _, _, h => by cases h
theorem rps_ex (e : Ex G G') : ∀ (ds : List PyData) (vs : List V), RpA G vs ds → RpA G' vs ds
  | [], _, h => by cases h; exact .nil
  | d :: ds, _, h => by
    cases h with
    | cons a b => exact .cons (rp_ex e d _ a) (rps_ex e ds _ b)
end
mutual
theorem rp_dp (e : Ex G H) : ∀ (d : PyData) (v : V), Rp G v d → Dp K H v d
  | .none, _, h => by cases h; exact .non
  | .bool b, _, h => by cases h; exact .bl b
  | .int i, _, h => by cases h; exact .int i
  | .str x, _, h => by cases h; exact .str x
  | .list ds, _, h => by
    cases h with
    | lst hs ha => exact .lst (.inl (.inl (e _ _ hs))) (rps_dp e ds _ ha)
  | .tuple ds, _, h => by
    cases h with
    | tup hs ha => exact .tup (.inl (.inl (e _ _ hs))) (rps_dp e ds _ ha)
  | .dict _, _, h => by cases h
theorem rps_dp (e : Ex G H) : ∀ (ds : List PyData) (vs : List V), RpA G vs ds → DpAll K H vs ds
  | [], _, h => by cases h; exact .nil
  | d :: ds, _, h => by
    cases h with
    | cons a b => exact .cons (rp_dp e d _ a) (rps_dp e ds _ b)
end
theorem RpA.length : ∀ {vs : List V} {ds : List PyData}, RpA G vs ds → vs.length = ds.length
  | _, [], h => by cases h; rfl
  | _, d :: ds, h => by
    cases h with
    | cons a b => rw [List.length_cons, List.length_cons, RpA.length b]
theorem RpA.get : ∀ {vs : List V} {ds : List PyData} {i : Nat} {d : PyData}, RpA G vs ds → ds[i]? = some d → ∃ v, vs[i]? = some v ∧ Rp G v d
  | _, [], i, d, h, q => by simp at q
  | _, d0 :: ds, 0, d, h, q => by
    cases h with
    | cons a b => simp at q; subst q; exact ⟨_, rfl, a⟩
  | _, d0 :: ds, i + 1, d, h, q => by
    cases h with
    | cons a b =>
      obtain ⟨v, e, r⟩ := RpA.get b (i := i) (by simpa using q)
      exact ⟨v, by simpa using e, r⟩
theorem RpA.append : ∀ {vs ws : List V} {ds es : List PyData}, RpA G vs ds → RpA G ws es → RpA G (vs ++ ws) (ds ++ es)
  | _, _, [], _, h, k => by cases h; exact k
  | _, _, d :: ds, _, h, k => by
    cases h with
    | cons a b => exact .cons a (RpA.append b k)
theorem RpA.take : ∀ {vs : List V} {ds : List PyData} (n : Nat), RpA G vs ds → RpA G (vs.take n) (ds.take n)
  | _, [], n, h => by cases h; simp; exact .nil
  | _, d :: ds, 0, h => by simp; exact .nil
  | _, d :: ds, n + 1, h => by
    cases h with
    | cons a b => exact .cons a (RpA.take n b)
theorem RpA.drop : ∀ {vs : List V} {ds : List PyData} (n : Nat), RpA G vs ds → RpA G (vs.drop n) (ds.drop n)
  | _, [], n, h => by cases h; simp; exact .nil
  | _, d :: ds, 0, h => h
  | _, d :: ds, n + 1, h => by
    cases h with
    | cons a b => exact RpA.drop n b
theorem RpA.set {v : V} {d : PyData} (r : Rp G v d) : ∀ {vs : List V} {ds : List PyData} (i : Nat), RpA G vs ds → RpA G (vs.set i v) (ds.set i d)
  | _, [], _, h => by cases h; exact .nil
  | _, d0 :: ds, 0, h => by
    cases h with
    | cons a b => exact .cons r b
  | _, d0 :: ds, i + 1, h => by
    cases h with
    | cons a b => exact .cons a (RpA.set r i b)
theorem RpA.eraseIdx : ∀ {vs : List V} {ds : List PyData} (i : Nat), RpA G vs ds → RpA G (vs.eraseIdx i) (ds.eraseIdx i)
  | _, [], _, h => by cases h; exact .nil
  | _, d0 :: ds, 0, h => by
    cases h with
    | cons a b => exact b
  | _, d0 :: ds, i + 1, h => by
    cases h with
    | cons a b => exact .cons a (RpA.eraseIdx i b)
theorem RpA.ints : ∀ {vs : List V} {ns : List Int}, RpA G vs (ns.map PyData.int) → vs = ns.map V.int
  | _, [], h => by cases h; rfl
  | _, n :: ns, h => by
    cases h with
    | cons a b => cases a; rw [RpA.ints b]; rfl
theorem RpA.bools : ∀ {vs : List V} {ns : List Bool}, RpA G vs (ns.map PyData.bool) → vs = ns.map V.bl
  | _, [], h => by cases h; rfl
  | _, n :: ns, h => by
    cases h with
    | cons a b => cases a; rw [RpA.bools b]; rfl
end
/-- a slot's value -/
def RepS (G : Hp) (v : V) : S → Prop
  | .d x => Rp G v x
  | .m a => v = .ref a
def RepM (G : Hp) (o : HO) : MO → Prop
  | .lst ds => ∃ vs, o = .lst vs ∧ RpA G vs ds
  | .dK es => ∃ ps, o = .dK ps ∧ Paired (fun p q => p.1 = q.1 ∧ RepS G p.2 q.2) ps es
  | .dT es => ∃ ps, o = .dT ps ∧ Paired (fun p q => p.1 = q.1 ∧ Rp G p.2 q.2) ps es
  | .scr ds => ∃ ob vs, o = .frz ob (.lst vs) ∧ RpA G vs ds
theorem reps_ex {G G' : Hp} (e : Ex G G') {v : V} : ∀ {x : S}, RepS G v x → RepS G' v x
  | .d x, h => rp_ex e x v h
  | .m a, h => h
theorem repm_ex {G G' : Hp} (e : Ex G G') {o : HO} : ∀ {m : MO}, RepM G o m → RepM G' o m
  | .lst ds, ⟨vs, h, r⟩ => ⟨vs, h, rps_ex e _ _ r⟩
  | .dK es, ⟨ps, h, r⟩ => ⟨ps, h, L2.Paired.mapP r fun _ _ q => ⟨q.1, reps_ex e q.2⟩⟩
  | .dT es, ⟨ps, h, r⟩ => ⟨ps, h, L2.Paired.mapP r fun _ _ q => ⟨q.1, rp_ex e _ _ q.2⟩⟩
  | .scr ds, ⟨ob, vs, h, r⟩ => ⟨ob, vs, h, rps_ex e _ _ r⟩
/-- the slots hold what is told -/
structure SD (G : Hp) (σ : L2.St) (δ : En) : Prop where
  len : σ.length = δ.length
  at_ : ∀ (i : Nat) (x : S), δ[i]? = some (some x) → ∃ v, σ[i]? = some (some v) ∧ RepS G v x
/-- the heap: data that stays, and the things that change -/
structure Sat (G : Hp) (M : Mu) (H : Hp) : Prop where
  ex : Ex G H
  mu : ∀ a o, M a = some o → G a = none ∧ ∃ u, H a = some u ∧ RepM G u o
section
variable {G G' H H' : Hp} {M : Mu} {σ : L2.St} {δ : En}
theorem SD.mono (e : Ex G G') (h : SD G σ δ) : SD G' σ δ := ⟨h.len, fun i x q => let ⟨v, a, b⟩ := h.at_ i x q; ⟨v, a, reps_ex e b⟩⟩
theorem SD.set {v : V} {x : S} (h : SD G σ δ) (r : RepS G v x) (i : Nat) : SD G (σ.set i (some v)) (δ.set i (some x)) where
  len := by rw [List.length_set, List.length_set]; exact h.len
  at_ := fun j y q => by
    by_cases e : i = j
    · subst e
      by_cases hl : i < δ.length
      · rw [List.getElem?_set_self hl] at q
        cases q
        exact ⟨v, List.getElem?_set_self (by rw [h.len]; exact hl), r⟩
      · rw [List.getElem?_eq_none (by rw [List.length_set]; omega)] at q; cases q
    · rw [List.getElem?_set_ne e] at q
      obtain ⟨u, a, b⟩ := h.at_ j y q
      exact ⟨u, by rw [List.getElem?_set_ne e]; exact a, b⟩
theorem SD.forget (h : SD G σ δ) (i : Nat) : SD G (σ.set i none) (δ.set i none) where
  len := by rw [List.length_set, List.length_set]; exact h.len
  at_ := fun j y q => by
    by_cases e : i = j
    · subst e
      by_cases hl : i < δ.length
      · rw [List.getElem?_set_self hl] at q; cases q
      · rw [List.getElem?_eq_none (by rw [List.length_set]; omega)] at q; cases q
    · rw [List.getElem?_set_ne e] at q
      obtain ⟨u, a, b⟩ := h.at_ j y q
      exact ⟨u, by rw [List.getElem?_set_ne e]; exact a, b⟩
def wipeD (δ : En) : List Nat → En
  | [] => δ
  | v :: vs => (wipeD δ vs).set v none
theorem SD.wipe (h : SD G σ δ) : ∀ vs : List Nat, SD G (L2.wipe σ vs) (wipeD δ vs)
  | [] => h
  | v :: vs => (h.wipe vs).forget v
/-- less may be told of the slots -/
def Less (δ' δ : En) : Prop := δ'.length = δ.length ∧ ∀ (i : Nat) (x : S), δ'[i]? = some (some x) → δ[i]? = some (some x)
theorem SD.less {δ' : En} (h : SD G σ δ) (l : Less δ' δ) : SD G σ δ' := ⟨h.len.trans l.1.symm, fun i x q => h.at_ i x (l.2 i x q)⟩
theorem Sat.fresh (h : Sat G M H) {p : Addr} (hp : H p = none) : G p = none ∧ M p = none := by
  refine ⟨?_, ?_⟩
  · cases q : G p with
    | none => rfl
    | some o => rw [h.ex p o q] at hp; cases hp
  · cases q : M p with
    | none => rfl
    | some o =>
      obtain ⟨_, u, e, _⟩ := h.mu p o q
      rw [e] at hp; cases hp
/-- new data -/
theorem Sat.new (h : Sat G M H) {p : Addr} {o : HO} (hp : H p = none) : Sat (upd G p o) M (upd H p o) where
  ex := fun a u e => by
    by_cases q : a = p
    · subst q; rw [upd_same] at e ⊢; exact e
    · rw [upd_ne q] at e ⊢; exact h.ex a u e
  mu := fun a m e => by
    obtain ⟨g, u, e1, r⟩ := h.mu a m e
    have q : a ≠ p := ne_of_none e1 hp
    exact ⟨by rw [upd_ne q]; exact g, u, by rw [upd_ne q]; exact e1, repm_ex (Ex.new (h.fresh hp).1) r⟩
/-- a new thing that changes -/
theorem Sat.newM (h : Sat G M H) {p : Addr} {o : HO} {m : MO} (hp : H p = none) (r : RepM G o m) : Sat G (mup M p m) (upd H p o) where
  ex := fun a u e => by
    have q : a ≠ p := ne_of_none e (h.fresh hp).1
    rw [upd_ne q]; exact h.ex a u e
  mu := fun a m' e => by
    by_cases q : a = p
    · subst q
      rw [mup_same] at e; cases e
      exact ⟨(h.fresh hp).1, o, upd_same, r⟩
    · rw [mup_ne q] at e
      obtain ⟨g, u, e1, r'⟩ := h.mu a m' e
      exact ⟨g, u, by rw [upd_ne q]; exact e1, r'⟩
/-- a change -/
theorem Sat.put (h : Sat G M H) {p : Addr} {o : HO} {m m0 : MO} (hp : M p = some m0) (r : RepM G o m) : Sat G (mup M p m) (upd H p o) where
  ex := fun a u e => by
    have q : a ≠ p := ne_of_none e (h.mu p m0 hp).1
    rw [upd_ne q]; exact h.ex a u e
  mu := fun a m' e => by
    by_cases q : a = p
    · subst q
      rw [mup_same] at e; cases e
      exact ⟨(h.mu a m0 hp).1, o, upd_same, r⟩
    · rw [mup_ne q] at e
      obtain ⟨g, u, e1, r'⟩ := h.mu a m' e
      exact ⟨g, u, by rw [upd_ne q]; exact e1, r'⟩
/-- a list that changes no more is data -/
theorem Sat.freeze (h : Sat G M H) {p : Addr} {ds : List PyData} (hp : M p = some (.lst ds)) : ∃ G', Ex G G' ∧ Sat G' (mdel M p) H ∧ Rp G' (.ref p) (.list ds) := by
  obtain ⟨g, u, e, vs, rfl, r⟩ := h.mu p _ hp
  have ex : Ex G (upd G p (.lst vs)) := Ex.new g
  refine ⟨upd G p (.lst vs), ex, ⟨fun a o q => ?_, fun a m q => ?_⟩, .lst upd_same (rps_ex ex _ _ r)⟩
  · by_cases z : a = p
    · subst z; rw [upd_same] at q; rw [e]; exact q
    · rw [upd_ne z] at q; exact h.ex a o q
  · by_cases z : a = p
    · subst z; unfold mdel at q; rw [if_pos rfl] at q; cases q
    · unfold mdel at q; rw [if_neg z] at q
      obtain ⟨g', u', e', r''⟩ := h.mu a m q
      exact ⟨by rw [upd_ne z]; exact g', u', e', repm_ex ex r''⟩
theorem Sat.del (h : Sat G M H) (p : Addr) : Sat G (mdel M p) H := ⟨h.ex, fun a m q => by
  unfold mdel at q
  split at q
  · cases q
  · exact h.mu a m q⟩
end

/-! ### what a piece of syntax does, by its meaning -/
def SE (X : Cx) (e : Expr) : TE := fun σ H Q => ∀ (pins : List (Addr × Obj)) (s : Shared), Inv X pins σ H s → wpAny (model X.prog X.w) X.A (eval e X.env) (EP X pins σ Q) X.xe s
def ST (X : Cx) (e : Expr) : TT := fun σ H Q => ∀ (pins : List (Addr × Obj)) (s : Shared), Inv X pins σ H s → wpAny (model X.prog X.w) X.A (isTrue e X.env (eval e X.env)) (TP X pins σ Q) X.xe s
def SWh (X : Cx) (e : Expr) : TT := fun σ H Q => ∀ (whole : Sem Value) (pins : List (Addr × Obj)) (s : Shared), Inv X pins σ H s → wpAny (model X.prog X.w) X.A (isTrue e X.env whole) (TP X pins σ Q) X.xe s
def SA (X : Cx) (es : List Expr) : TA := fun σ H Q => ∀ (pos : Pos) (pins : List (Addr × Obj)) (s : Shared), Inv X pins σ H s → wpAny (model X.prog X.w) X.A (spliced (backTo pos (starEach es X.env))) (AP X pins σ Q) X.xe s
def SS1 (X : Cx) (st : Stmt) : TS := fun D σ H => ∀ (pins : List (Addr × Obj)) (s : Shared), Inv X pins σ H s → wpAny (model X.prog X.w) X.A (exec st X.env) (SP X pins D) X.xe s
def SSs (X : Cx) (st : List Stmt) : TS := fun D σ H => ∀ (pins : List (Addr × Obj)) (s : Shared), Inv X pins σ H s → wpAny (model X.prog X.w) X.A (execs st X.env) (SP X pins D) X.xe s
def SPt (X : Cx) (e : Option Expr) : TO := fun σ H Q => ∀ (pins : List (Addr × Obj)) (s : Shared), Inv X pins σ H s → wpAny (model X.prog X.w) X.A (evalPart e X.env) (fun u s' => ∃ o H', Inv X pins σ H' s' ∧ IsPart u o ∧ Q o H') X.xe s
def STs (X : Cx) (ifs : List Expr) : TT := fun σ H Q => ∀ (pins : List (Addr × Obj)) (s : Shared), Inv X pins σ H s →
  wpAny (model X.prog X.w) X.A (forIn ifs true fun c r => if r = true then do let ok ← isTrue c X.env (eval c X.env); pure (ForInStep.yield ok) else pure (ForInStep.yield r)) (TP X pins σ Q) X.xe s
section
variable {X : Cx}
theorem pe_SE {e : Expr} : PE X e (SE X e) := ⟨fun pins s _ _ _ I h => h pins s I⟩
theorem pt_ST {e : Expr} : PT X e (ST X e) := ⟨fun pins s _ _ _ I h => h pins s I⟩
theorem pw_SWh {e : Expr} : PW X e (SWh X e) := ⟨fun wh pins s _ _ _ I h => h wh pins s I⟩
theorem pa_SA {es : List Expr} : PA X es (SA X es) := ⟨fun pos pins s _ _ _ I h => h pos pins s I⟩
theorem ps_SS1 {st : Stmt} : PS X st (SS1 X st) := ⟨fun pins s _ _ _ I h => h pins s I⟩
theorem pss_SSs {st : List Stmt} : PSs X st (SSs X st) := ⟨fun pins s _ _ _ I h => h pins s I⟩
theorem po_SPt {e : Option Expr} : PO X e (SPt X e) := ⟨fun pins s _ _ _ I h => h pins s I⟩
theorem pts_STs {ifs : List Expr} : PTs X ifs (STs X ifs) := ⟨fun pins s _ _ _ I h => h pins s I⟩
variable {σ : L2.St} {H : Hp}
theorem SE.of {e : Expr} {t : TE} {Q : VK} (h : PE X e t) (q : t σ H Q) : SE X e σ H Q := fun pins s I => h.run pins s σ H Q I q
theorem ST.of {e : Expr} {t : TT} {Q : Bool → Hp → Prop} (h : PT X e t) (q : t σ H Q) : ST X e σ H Q := fun pins s I => h.run pins s σ H Q I q
theorem SWh.of {e : Expr} {t : TT} {Q : Bool → Hp → Prop} (h : PW X e t) (q : t σ H Q) : SWh X e σ H Q := fun wh pins s I => h.run wh pins s σ H Q I q
theorem SA.of {es : List Expr} {t : TA} {Q : List V → Hp → Prop} (h : PA X es t) (q : t σ H Q) : SA X es σ H Q := fun pos pins s I => h.run pos pins s σ H Q I q
theorem SS1.of {st : Stmt} {t : TS} {D : Ends} (h : PS X st t) (q : t D σ H) : SS1 X st D σ H := fun pins s I => h.run pins s σ H D I q
theorem SSs.of {st : List Stmt} {t : TS} {D : Ends} (h : PSs X st t) (q : t D σ H) : SSs X st D σ H := fun pins s I => h.run pins s σ H D I q
theorem SPt.of {e : Option Expr} {t : TO} {Q : Option Int → Hp → Prop} (h : PO X e t) (q : t σ H Q) : SPt X e σ H Q := fun pins s I => h.run pins s σ H Q I q
theorem STs.of {ifs : List Expr} {t : TT} {Q : Bool → Hp → Prop} (h : PTs X ifs t) (q : t σ H Q) : STs X ifs σ H Q := fun pins s I => h.run pins s σ H Q I q
end
/-- operations on values, by their meaning -/
def SOp (X : Cx) (f : Value → Value → Sem Value) : R2 := fun x y H Q => ∀ (pins : List (Addr × Obj)) (s : Shared) (σ : L2.St) (v u : Value), Inv X pins σ H s → RelV x v → RelV y u → wpAny (model X.prog X.w) X.A (f v u) (EP X pins σ Q) X.xe s
theorem op_SOp {X : Cx} {f : Value → Value → Sem Value} : OpR X f (SOp X f) := fun pins s σ _ _ _ v u _ I r1 r2 h => h pins s σ v u I r1 r2
theorem SOp.of {X : Cx} {f : Value → Value → Sem Value} {r : R2} {x y : V} {H : Hp} {Q : VK} (h : OpR X f r) (q : r x y H Q) : SOp X f x y H Q := fun pins s σ v u I r1 r2 => h pins s σ H x y v u Q I r1 r2 q
def SUn (X : Cx) (f : Value → Sem Value) : V → Hp → VK → Prop := fun x H Q => ∀ (pins : List (Addr × Obj)) (s : Shared) (σ : L2.St) (v : Value), Inv X pins σ H s → RelV x v → wpAny (model X.prog X.w) X.A (f v) (EP X pins σ Q) X.xe s
theorem un_SUn {X : Cx} {f : Value → Sem Value} : UnR X f (SUn X f) := fun pins s σ _ _ v _ I r1 h => h pins s σ v I r1
theorem SUn.of {X : Cx} {f : Value → Sem Value} {r : V → Hp → VK → Prop} {x : V} {H : Hp} {Q : VK} (h : UnR X f r) (q : r x H Q) : SUn X f x H Q := fun pins s σ v I r1 => h pins s σ H x v Q I r1 q
def SCl (X : Cx) (f : Value) : List V → Hp → VK → Prop := fun xs H Q => ∀ (pins : List (Addr × Obj)) (s : Shared) (σ : L2.St) (us : List Value), Inv X pins σ H s → Vals xs us → wpAny (model X.prog X.w) X.A (call f us) (EP X pins σ Q) X.xe s
theorem cl_SCl {X : Cx} {f : Value} : CallR X f (SCl X f) := fun pins s σ _ _ us _ I r1 h => h pins s σ us I r1
theorem SCl.of {X : Cx} {f : Value} {r : List V → Hp → VK → Prop} {xs : List V} {H : Hp} {Q : VK} (h : CallR X f r) (q : r xs H Q) : SCl X f xs H Q := fun pins s σ us I r1 => h pins s σ H xs us Q I r1 q
def SIx (X : Cx) : R2 := fun x y H Q => ∀ (value slice : Expr) (pins : List (Addr × Obj)) (s : Shared) (σ : L2.St) (v u : Value), Inv X pins σ H s → RelV x v → RelV y u →
  subscripted slice false v u = operate [v, u] (getItem v u) → wpAny (model X.prog X.w) X.A (subscriptTail value slice v u) (EP X pins σ Q) X.xe s
theorem ix_SIx {X : Cx} : IxR X (SIx X) := fun va sl pins s σ _ _ _ v u _ I r1 r2 h e => h va sl pins s σ v u I r1 r2 e
theorem SIx.of {X : Cx} {r : R2} {x y : V} {H : Hp} {Q : VK} (h : IxR X r) (q : r x y H Q) : SIx X x y H Q := fun va sl pins s σ v u I r1 r2 e => h va sl pins s σ H x y v u Q I r1 r2 q e

/-! ### the judgements -/
/-- an expression, by what is wanted of its worth and the things -/
def EV (X : Cx) (e : Expr) (δ : En) (M : Mu) (Ψ : S → Mu → Prop) : Prop :=
  ∀ (σ : L2.St) (G H : Hp), SD G σ δ → Sat G M H → ∀ Q : VK, (∀ v x M' G' H', Ψ x M' → Ex G G' → Sat G' M' H' → RepS G' v x → Q v H') → SE X e σ H Q
/-- .. that changes nothing and is worth d -/
def EE (X : Cx) (e : Expr) (δ : En) (d : PyData) : Prop := ∀ (M : Mu) (Ψ : S → Mu → Prop), Ψ (.d d) M → EV X e δ M Ψ
def TV (X : Cx) (e : Expr) (δ : En) (M : Mu) (Ψ : Bool → Mu → Prop) : Prop :=
  ∀ (σ : L2.St) (G H : Hp), SD G σ δ → Sat G M H → ∀ Q : Bool → Hp → Prop, (∀ b M' G' H', Ψ b M' → Ex G G' → Sat G' M' H' → Q b H') → ST X e σ H Q
def EB (X : Cx) (e : Expr) (δ : En) (b : Bool) : Prop := ∀ (M : Mu) (Ψ : Bool → Mu → Prop), Ψ b M → TV X e δ M Ψ
def WV (X : Cx) (e : Expr) (δ : En) (M : Mu) (Ψ : Bool → Mu → Prop) : Prop :=
  ∀ (σ : L2.St) (G H : Hp), SD G σ δ → Sat G M H → ∀ Q : Bool → Hp → Prop, (∀ b M' G' H', Ψ b M' → Ex G G' → Sat G' M' H' → Q b H') → SWh X e σ H Q
def EW (X : Cx) (e : Expr) (δ : En) (b : Bool) : Prop := ∀ (M : Mu) (Ψ : Bool → Mu → Prop), Ψ b M → WV X e δ M Ψ
inductive RepSs (G : Hp) : List V → List S → Prop where
  | nil : RepSs G [] []
  | cons {v : V} {x : S} {vs : List V} {xs : List S} : RepS G v x → RepSs G vs xs → RepSs G (v :: vs) (x :: xs)
theorem repss_ex {G G' : Hp} (e : Ex G G') : ∀ {vs : List V} {xs : List S}, RepSs G vs xs → RepSs G' vs xs
  | _, _, .nil => .nil
  | _, _, .cons a b => .cons (reps_ex e a) (repss_ex e b)
theorem RepSs.length {G : Hp} : ∀ {vs : List V} {xs : List S}, RepSs G vs xs → vs.length = xs.length
  | _, _, .nil => rfl
  | _, _, .cons _ b => by rw [List.length_cons, List.length_cons, b.length]
theorem RepSs.append {G : Hp} : ∀ {vs ws : List V} {xs ys : List S}, RepSs G vs xs → RepSs G ws ys → RepSs G (vs ++ ws) (xs ++ ys)
  | _, _, _, _, .nil, h => h
  | _, _, _, _, .cons a b, h => .cons a (b.append h)
theorem RepSs.data {G : Hp} : ∀ {vs : List V} {ds : List PyData}, RepSs G vs (ds.map S.d) → RpA G vs ds
  | _, [], .nil => .nil
  | _, _ :: _, .cons a b => .cons a b.data
theorem RepSs.ofData {G : Hp} : ∀ {vs : List V} {ds : List PyData}, RpA G vs ds → RepSs G vs (ds.map S.d)
  | _, _, .nil => .nil
  | _, _, .cons a b => .cons a (RepSs.ofData b)
def AV (X : Cx) (es : List Expr) (δ : En) (M : Mu) (Ψ : List S → Mu → Prop) : Prop :=
  ∀ (σ : L2.St) (G H : Hp), SD G σ δ → Sat G M H → ∀ Q : List V → Hp → Prop, (∀ vs xs M' G' H', Ψ xs M' → Ex G G' → Sat G' M' H' → RepSs G' vs xs → Q vs H') → SA X es σ H Q
def EA (X : Cx) (es : List Expr) (δ : En) (xs : List S) : Prop := ∀ (M : Mu) (Ψ : List S → Mu → Prop), Ψ xs M → AV X es δ M Ψ
/-- what is wanted behind a statement -/
structure DE where
  nx : En → Mu → Prop
  rt : S → Mu → Prop
  bk : En → Mu → Prop := fun _ _ => False
  ct : En → Mu → Prop := fun _ _ => False
structure Lift (X : Cx) (G : Hp) (D : DE) (D' : Ends) : Prop where
  nx : ∀ σ δ M G' H, D.nx δ M → Ex G G' → SD G' σ δ → Sat G' M H → D'.nx σ H
  rt : ∀ v x M G' H, D.rt x M → Ex G G' → Sat G' M H → RepS G' v x → D'.rt v H
  bk : ∀ σ δ M G' H, D.bk δ M → Ex G G' → SD G' σ δ → Sat G' M H → D'.bk σ H
  ct : ∀ σ δ M G' H, D.ct δ M → Ex G G' → SD G' σ δ → Sat G' M H → D'.ct σ H
theorem Lift.mono {X : Cx} {G G' : Hp} {D : DE} {D' : Ends} (e : Ex G G') (l : Lift X G D D') : Lift X G' D D' :=
  ⟨fun σ δ M G2 H a b => l.nx σ δ M G2 H a (e.trans b), fun v x M G2 H a b => l.rt v x M G2 H a (e.trans b), fun σ δ M G2 H a b => l.bk σ δ M G2 H a (e.trans b), fun σ δ M G2 H a b => l.ct σ δ M G2 H a (e.trans b)⟩
def W1 (X : Cx) (st : Stmt) (δ : En) (M : Mu) (D : DE) : Prop := ∀ (σ : L2.St) (G H : Hp), SD G σ δ → Sat G M H → ∀ D' : Ends, Lift X G D D' → SS1 X st D' σ H
def WS (X : Cx) (st : List Stmt) (δ : En) (M : Mu) (D : DE) : Prop := ∀ (σ : L2.St) (G H : Hp), SD G σ δ → Sat G M H → ∀ D' : Ends, Lift X G D D' → SSs X st D' σ H

/-! ### a def's promise over data -/
abbrev DS := List S → Mu → (S → Mu → Prop) → Prop
def spD (f : DS) : Sp := fun vs H Q _ => ∃ (G : Hp) (M : Mu) (xs : List S), RepSs G vs xs ∧ Sat G M H ∧ f xs M fun x M' => ∀ v G' H', Ex G G' → Sat G' M' H' → RepS G' v x → Q v H'
end DL
/-! Rules of the layer: expressions. -/
namespace DL
open PySem PySem.Spec PyProof.Rows L2
section
variable {X : Cx} {δ : En} {M : Mu} {Ψ : S → Mu → Prop} {pos : Pos}

/-! ### names, constants -/
theorem ev_var {i : Nat} {x : Str} {s : S} (hN : X.N[i]? = some x) (hv : Vis X.env.scope x) (h : δ[i]? = some (some s)) (q : Ψ s M)
    (hd : (x == ("__debug__" : Str)) = false := by decide) (hcd : (x == ("__classdict__" : Str)) = false := by decide) : EV X (.Name x pos) δ M Ψ := fun σ G H sd sat Q k =>
  SE.of (pe_var hN hv hd hcd) (let ⟨v, a, r⟩ := sd.at_ i s h; ⟨v, a, k v s M G H q (Ex.refl G) sat r⟩)
theorem ee_var {i : Nat} {x : Str} {d : PyData} (hN : X.N[i]? = some x) (hv : Vis X.env.scope x) (h : δ[i]? = some (some (.d d)))
    (hd : (x == ("__debug__" : Str)) = false := by decide) (hcd : (x == ("__classdict__" : Str)) = false := by decide) : EE X (.Name x pos) δ d := fun _ _ q => ev_var hN hv h q hd hcd
theorem EE.ev {e : Expr} {d : PyData} (h : EE X e δ d) (q : Ψ (.d d) M) : EV X e δ M Ψ := h M Ψ q
theorem EE.to {e : Expr} {d d' : PyData} (h : EE X e δ d) (q : d = d') : EE X e δ d' := q ▸ h
theorem ee_int {i : Int} {j} : EE X (.Constant (.int i) j pos) δ (.int i) := fun M Ψ q σ G H sd sat Q k => SE.of pe_int (k _ _ M G H q (Ex.refl G) sat (.int i))
theorem ee_bl {b : Bool} {j} : EE X (.Constant (.bool b) j pos) δ (.bool b) := fun M Ψ q σ G H sd sat Q k => SE.of pe_bl (k _ _ M G H q (Ex.refl G) sat (.bl b))
theorem ee_non {j} : EE X (.Constant .none j pos) δ .none := fun M Ψ q σ G H sd sat Q k => SE.of pe_non (k _ _ M G H q (Ex.refl G) sat .non)
theorem ee_str {x : Str} {j} : EE X (.Constant (.str x) j pos) δ (.str x) := fun M Ψ q σ G H sd sat Q k => SE.of pe_str (k _ _ M G H q (Ex.refl G) sat (.str x))
theorem ee_glob {x y : Str} {t : Tok} (hg : Gl X x) (hm : X.mg x = some (.str y t)) (hd : (x == ("__debug__" : Str)) = false := by decide) : EE X (.Name x pos) δ (.str y) :=
  fun M Ψ q σ G H sd sat Q k => SE.of (pe_glob hg hm (v := .str y) ⟨_, rfl⟩ hd) (k _ _ M G H q (Ex.refl G) sat (.str y))
theorem ee_globI {x : Str} {y : Int} {t : Tok} (hg : Gl X x) (hm : X.mg x = some (.int y t)) (hd : (x == ("__debug__" : Str)) = false := by decide) : EE X (.Name x pos) δ (.int y) :=
  fun M Ψ q σ G H sd sat Q k => SE.of (pe_glob hg hm (v := .int y) ⟨_, rfl⟩ hd) (k _ _ M G H q (Ex.refl G) sat (.int y))

/-! ### operations on values -/
/-- f of d1 and d2 is worth r -/
def BinV (X : Cx) (f : Value → Value → Sem Value) (d1 d2 r : PyData) : Prop := ∀ (G H : Hp) (M : Mu) (x y : V), Sat G M H → Rp G x d1 → Rp G y d2 → ∀ Q : VK,
  (∀ v G' H', Ex G G' → Sat G' M H' → Rp G' v r → Q v H') → SOp X f x y H Q
theorem ev_bin {op : Operator} {a b : Expr} (h : EV X a δ M fun x M1 => EV X b δ M1 fun y M2 => ∃ d1 d2 r, x = .d d1 ∧ y = .d d2 ∧ BinV X (binaryOp op) d1 d2 r ∧ Ψ (.d r) M2) : EV X (.BinOp a op b pos) δ M Ψ :=
  fun σ G H sd sat Q k => SE.of (pe_op op_SOp pe_SE pe_SE) (h σ G H sd sat _ fun v x M1 G1 H1 hb e1 sat1 r1 => hb σ G1 H1 (sd.mono e1) sat1 _ fun u y M2 G2 H2 ⟨d1, d2, r, ex, ey, bv, q⟩ e2 sat2 r2 => by
    subst ex; subst ey
    exact bv G2 H2 M2 v u sat2 (rp_ex e2 _ _ r1) r2 _ fun z G3 H3 e3 sat3 r3 => k z _ M2 G3 H3 q ((e1.trans e2).trans e3) sat3 r3)
theorem ee_bin {op : Operator} {a b : Expr} {d1 d2 r : PyData} (ha : EE X a δ d1) (hb : EE X b δ d2) (h : BinV X (binaryOp op) d1 d2 r) : EE X (.BinOp a op b pos) δ r :=
  fun M Ψ q => ev_bin (ha M _ (hb M _ ⟨d1, d2, r, rfl, rfl, h, q⟩))
theorem ev_cmp {op : CmpOp} {a b : Expr} (hm : behindInMarks op b = false) (h : EV X a δ M fun x M1 => EV X b δ M1 fun y M2 => ∃ d1 d2 r, x = .d d1 ∧ y = .d d2 ∧ BinV X (compareOp op) d1 d2 r ∧ Ψ (.d r) M2) : EV X (.Compare a [op] [b] pos) δ M Ψ :=
  fun σ G H sd sat Q k => SE.of (pe_cmpR op_SOp pe_SE pe_SE hm) (h σ G H sd sat _ fun v x M1 G1 H1 hb e1 sat1 r1 => hb σ G1 H1 (sd.mono e1) sat1 _ fun u y M2 G2 H2 ⟨d1, d2, r, ex, ey, bv, q⟩ e2 sat2 r2 => by
    subst ex; subst ey
    exact bv G2 H2 M2 v u sat2 (rp_ex e2 _ _ r1) r2 _ fun z G3 H3 e3 sat3 r3 => k z _ M2 G3 H3 q ((e1.trans e2).trans e3) sat3 r3)
theorem ee_cmp {op : CmpOp} {a b : Expr} {d1 d2 r : PyData} (hm : behindInMarks op b = false) (ha : EE X a δ d1) (hb : EE X b δ d2) (h : BinV X (compareOp op) d1 d2 r) : EE X (.Compare a [op] [b] pos) δ r :=
  fun M Ψ q => ev_cmp hm (ha M _ (hb M _ ⟨d1, d2, r, rfl, rfl, h, q⟩))
theorem ee_chain {op op' : CmpOp} {a b c : Expr} {d1 d2 d3 : PyData} {p p' : Bool} (ha : EE X a δ d1) (hb : EE X b δ d2) (hc : EE X c δ d3) (h : BinV X (compareOp op) d1 d2 (.bool p)) (h' : BinV X (compareOp op') d2 d3 (.bool p')) (hm : lastMarks [op, op'] [b, c] = false) : EE X (.Compare a [op, op'] [b, c] pos) δ (.bool (p && p')) :=
  fun M Ψ q σ G H sd sat Q k => SE.of (pe_chain op_SOp op_SOp pe_SE pe_SE pe_SE (hm := hm)) (ha M (fun x M1 => x = .d d1 ∧ M1 = M) ⟨rfl, rfl⟩ σ G H sd sat _ fun v x M1 G1 H1 hx e1 sat1 r1 => by
    obtain ⟨rfl, rfl⟩ := hx
    refine hb M1 (fun x M2 => x = .d d2 ∧ M2 = M1) ⟨rfl, rfl⟩ σ G1 H1 (sd.mono e1) sat1 _ fun u y M2 G2 H2 hy e2 sat2 r2 => ?_
    obtain ⟨rfl, rfl⟩ := hy
    refine h G2 H2 M2 v u sat2 (rp_ex e2 _ _ r1) r2 _ fun z G3 H3 e3 sat3 r3 => ?_
    cases r3
    refine ⟨p, rfl, ?_⟩
    cases p with
    | false => exact k _ _ M2 G3 H3 q ((e1.trans e2).trans e3) sat3 (.bl false)
    | true =>
      refine hc M2 (fun x M3 => x = .d d3 ∧ M3 = M2) ⟨rfl, rfl⟩ σ G3 H3 (sd.mono ((e1.trans e2).trans e3)) sat3 _ fun w y M3 G4 H4 hw e4 sat4 r4 => ?_
      obtain ⟨rfl, rfl⟩ := hw
      refine h' G4 H4 M3 u w sat4 (rp_ex (e3.trans e4) _ _ r2) r4 _ fun z G5 H5 e5 sat5 r5 => ?_
      exact k _ _ M3 G5 H5 q ((((e1.trans e2).trans e3).trans e4).trans e5) sat5 r5)
/-- one op -/
def UnV (X : Cx) (f : Value → Sem Value) (d r : PyData) : Prop := ∀ (G H : Hp) (M : Mu) (x : V), Sat G M H → Rp G x d → ∀ Q : VK, (∀ v G' H', Ex G G' → Sat G' M H' → Rp G' v r → Q v H') → SUn X f x H Q
theorem ee_un {op : UnaryOp} {a : Expr} {d r : PyData} (ha : EE X a δ d) (h : UnV X (unaryOp op) d r) : EE X (.UnaryOp op a pos) δ r :=
  fun M Ψ q σ G H sd sat Q k => SE.of (pe_un un_SUn pe_SE) (ha M (fun x M1 => x = .d d ∧ M1 = M) ⟨rfl, rfl⟩ σ G H sd sat _ fun v x M1 G1 H1 hx e1 sat1 r1 => by
    obtain ⟨rfl, rfl⟩ := hx
    exact h G1 H1 M1 v sat1 r1 _ fun z G2 H2 e2 sat2 r2 => k z _ M1 G2 H2 q (e1.trans e2) sat2 r2)

/-! ### which values -/
theorem un_negV {i : Int} : UnV X (unaryOp .USub) (.int i) (.int (-i)) := fun G H M x sat hx Q k => by
  cases hx; exact SUn.of un_neg ⟨i, rfl, k _ G H (Ex.refl G) sat (.int _)⟩
theorem bin_I0 {f : Value → Value → Sem Value} {g : Int → Int → Int} {i j : Int} (ho : OpR X f (rI0 fun i j => .int (g i j))) : BinV X f (.int i) (.int j) (.int (g i j)) := fun G H M x y sat hx hy Q k => by
  cases hx; cases hy
  exact SOp.of ho ⟨i, j, rfl, rfl, k _ G H (Ex.refl G) sat (.int _)⟩
theorem bin_I {f : Value → Value → Sem Value} {C : Int → Int → Prop} {g : Int → Int → Int} {i j : Int} (ho : OpR X f (rI C fun i j => .int (g i j))) (hc : C i j) : BinV X f (.int i) (.int j) (.int (g i j)) := fun G H M x y sat hx hy Q k => by
  cases hx; cases hy
  exact SOp.of ho ⟨i, j, rfl, rfl, hc, k _ G H (Ex.refl G) sat (.int _)⟩
theorem bin_B0 {f : Value → Value → Sem Value} {g : Int → Int → Bool} {i j : Int} (ho : OpR X f (rI0 fun i j => .bl (g i j))) : BinV X f (.int i) (.int j) (.bool (g i j)) := fun G H M x y sat hx hy Q k => by
  cases hx; cases hy
  exact SOp.of ho ⟨i, j, rfl, rfl, k _ G H (Ex.refl G) sat (.bl _)⟩
theorem bv_add {i j : Int} : BinV X (binaryOp .Add) (.int i) (.int j) (.int (i + j)) := bin_I0 (g := fun i j => i + j) op_add
theorem bv_sub {i j : Int} : BinV X (binaryOp .Sub) (.int i) (.int j) (.int (i - j)) := bin_I0 (g := fun i j => i - j) op_sub
theorem bv_mul {i j : Int} (h : CMulW i j) : BinV X (binaryOp .Mult) (.int i) (.int j) (.int (i * j)) := bin_I (g := fun i j => i * j) op_mulW h
theorem bv_div {i j : Int} (h : CDivW i j) : BinV X (binaryOp .FloorDiv) (.int i) (.int j) (.int (i / j)) := bin_I (g := fun i j => i / j) op_fdivW h
theorem bv_mod {i j : Int} (h : 0 < j) : BinV X (binaryOp .Mod) (.int i) (.int j) (.int (i % j)) := bin_I (g := fun i j => i % j) op_mod h
theorem bv_pow {i j : Int} (h : CPow i j) : BinV X (binaryOp .Pow) (.int i) (.int j) (.int (i ^ j.toNat)) := bin_I (g := fun i j => i ^ j.toNat) op_pow h
theorem bv_lt {i j : Int} : BinV X (compareOp .Lt) (.int i) (.int j) (.bool (decide (i < j))) := bin_B0 (g := fun i j => decide (i < j)) op_lt
theorem bv_le {i j : Int} : BinV X (compareOp .LtE) (.int i) (.int j) (.bool (decide (i ≤ j))) := bin_B0 (g := fun i j => decide (i ≤ j)) op_le
theorem bv_gt {i j : Int} : BinV X (compareOp .Gt) (.int i) (.int j) (.bool (decide (j < i))) := bin_B0 (g := fun i j => decide (j < i)) op_gt
theorem bv_ge {i j : Int} : BinV X (compareOp .GtE) (.int i) (.int j) (.bool (decide (j ≤ i))) := bin_B0 (g := fun i j => decide (j ≤ i)) op_ge
theorem bv_eqI {i j : Int} : BinV X (compareOp .Eq) (.int i) (.int j) (.bool (decide (i = j))) := fun G H M x y sat hx hy Q k => by
  cases hx; cases hy
  refine SOp.of op_eq ⟨rfl, ?_⟩
  rw [dec_int, show (i == j) = decide (i = j) from rfl]
  exact k _ G H (Ex.refl G) sat (.bl _)
theorem bv_neI {i j : Int} : BinV X (compareOp .NotEq) (.int i) (.int j) (.bool (!decide (i = j))) := fun G H M x y sat hx hy Q k => by
  cases hx; cases hy
  refine SOp.of op_ne ⟨rfl, ?_⟩
  rw [dec_int, show (i == j) = decide (i = j) from rfl]
  exact k _ G H (Ex.refl G) sat (.bl _)
theorem bv_eqS {i j : Str} : BinV X (compareOp .Eq) (.str i) (.str j) (.bool (decide (i = j))) := fun G H M x y sat hx hy Q k => by
  cases hx; cases hy
  refine SOp.of op_eq ⟨rfl, ?_⟩
  have e : decide (V.str i = V.str j) = decide (i = j) := by
    by_cases q : i = j
    · rw [decide_eq_true q, decide_eq_true (by rw [q])]
    · rw [decide_eq_false q, decide_eq_false (fun z => q (V.str.inj z))]
  rw [e]
  exact k _ G H (Ex.refl G) sat (.bl _)
theorem bv_neS {i j : Str} : BinV X (compareOp .NotEq) (.str i) (.str j) (.bool (!decide (i = j))) := fun G H M x y sat hx hy Q k => by
  cases hx; cases hy
  refine SOp.of op_ne ⟨rfl, ?_⟩
  have e : decide (V.str i = V.str j) = decide (i = j) := by
    by_cases q : i = j
    · rw [decide_eq_true q, decide_eq_true (by rw [q])]
    · rw [decide_eq_false q, decide_eq_false (fun z => q (V.str.inj z))]
  rw [e]
  exact k _ G H (Ex.refl G) sat (.bl _)
/-- data at any depth -/
theorem bv_eqD {d e : PyData} (hu : X.A.units + 64 < cLine) (hd : SeqAt.shaped d = true) (he : SeqAt.shaped e = true) : BinV X (compareOp .Eq) d e (.bool (PyData.eqv d e)) := fun G H M x y sat hx hy Q k =>
  SOp.of (op_eqD hu) ⟨d, e, rp_dp sat.ex _ _ hx, rp_dp sat.ex _ _ hy, hd, he, k _ G H (Ex.refl G) sat (.bl _)⟩
theorem bv_neD {d e : PyData} (hu : X.A.units + 64 < cLine) (hd : SeqAt.shaped d = true) (he : SeqAt.shaped e = true) : BinV X (compareOp .NotEq) d e (.bool (!PyData.eqv d e)) := fun G H M x y sat hx hy Q k =>
  SOp.of (op_neD hu) ⟨d, e, rp_dp sat.ex _ _ hx, rp_dp sat.ex _ _ hy, hd, he, k _ G H (Ex.refl G) sat (.bl _)⟩
theorem bv_isNone {d : PyData} : BinV X (compareOp .Is) d .none (.bool (match d with | .none => true | _ => false)) := fun G H M x y sat hx hy Q k => by
  cases hy
  refine SOp.of op_isN ⟨rfl, ?_⟩
  cases hx <;> exact k _ G H (Ex.refl G) sat (.bl _)
/-- an int in a list or a tuple of ints -/
theorem inV_ints {i : Int} : ∀ {ns : List Int}, inV (.int i) (ns.map V.int) = decide (i ∈ ns)
  | [] => rfl
  | n :: ns => by
    show (eqV (.int n) (.int i) || inV (.int i) (ns.map V.int)) = _
    rw [inV_ints (ns := ns)]
    show ((n == i) || decide (i ∈ ns)) = decide (i ∈ n :: ns)
    by_cases e : n = i
    · subst e; simp
    · have e' : ¬ i = n := fun z => e z.symm
      simp [e, e']
theorem flat_ints : ∀ {ns : List Int}, (ns.map V.int).all flatV = true
  | [] => rfl
  | n :: ns => by show (flatV (.int n) && (ns.map V.int).all flatV) = true; rw [flat_ints (ns := ns)]; rfl
theorem bv_inT {i : Int} {ns : List Int} : BinV X (compareOp .In) (.int i) (.tuple (ns.map PyData.int)) (.bool (decide (i ∈ ns))) := fun G H M x y sat hx hy Q k => by
  cases hx
  cases hy with
  | tup hs ha =>
    rw [RpA.ints ha] at hs
    refine SOp.of op_in_seq ⟨_, _, rfl, .inr (.inl (.inl (sat.ex _ _ hs))), rfl, flat_ints, ?_⟩
    rw [inV_ints]
    exact k _ G H (Ex.refl G) sat (.bl _)
/-- a text in a tuple of two texts, not in -/
theorem bv_notin2 {x a b : Str} : BinV X (compareOp .NotIn) (.str x) (.tuple [.str a, .str b]) (.bool (!(decide (x = a) || decide (x = b)))) := fun G H M v y sat hx hy Q k => by
  cases hx
  cases hy with
  | tup hs ha =>
    cases ha with
    | cons a1 ha =>
      cases a1
      cases ha with
      | cons a2 ha =>
        cases a2
        cases ha
        refine SOp.of op_notIn_seq ⟨_, _, rfl, .inr (.inl (.inl (sat.ex _ _ hs))), rfl, rfl, ?_⟩
        have e : inV (.str x) [V.str a, V.str b] = (decide (x = a) || decide (x = b)) := by
          show ((a == x) || ((b == x) || false)) = _
          have e1 : (a == x) = decide (x = a) := by
            by_cases q : x = a
            · rw [q]; simp
            · have : ¬ a = x := fun z => q z.symm
              rw [decide_eq_false q]; exact beq_eq_false_iff_ne.mpr this
          have e2 : (b == x) = decide (x = b) := by
            by_cases q : x = b
            · rw [q]; simp
            · have : ¬ b = x := fun z => q z.symm
              rw [decide_eq_false q]; exact beq_eq_false_iff_ne.mpr this
          rw [e1, e2, Bool.or_false]
        rw [if_pos rfl, e]
        exact k _ G H (Ex.refl G) sat (.bl _)
/-- data in a list of data -/
theorem bv_inD {d : PyData} {ds : List PyData} (hu : X.A.units + 65 < cLine) (hd : SeqAt.shaped d = true) (he : SeqAt.shaped (.list ds) = true) : BinV X (compareOp .In) d (.list ds) (.bool (ds.any fun z => PyData.eqv z d)) := fun G H M x y sat hx hy Q k =>
  SOp.of (op_inD hu) ⟨d, ds, rp_dp sat.ex _ _ hx, rp_dp sat.ex _ _ hy, hd, he, k _ G H (Ex.refl G) sat (.bl _)⟩
/-- lists one behind the other; a list so often -/
theorem bv_cat {a b : List PyData} (hl : a.length + b.length ≤ 100000) : BinV X (binaryOp .Add) (.list a) (.list b) (.list (a ++ b)) := fun G H M x y sat hx hy Q k => by
  cases hx with
  | lst hs ha =>
    cases hy with
    | lst hs' hb =>
      refine SOp.of op_cat ⟨_, _, _, _, rfl, rfl, sat.ex _ _ hs, sat.ex _ _ hs', ?_, fun p hp => ?_⟩
      · rw [ha.length, hb.length]; exact Nat.le_trans hl (by decide)
      · exact k _ _ _ (Ex.new (sat.fresh hp).1) (sat.new hp) (.lst upd_same (rps_ex (Ex.new (sat.fresh hp).1) _ _ (ha.append hb)))
theorem rpa_rep {G : Hp} {vs : List V} {ds : List PyData} (h : RpA G vs ds) : ∀ n : Nat, RpA G (List.replicate n vs).flatten (List.replicate n ds).flatten
  | 0 => .nil
  | n + 1 => by
    show RpA G (vs ++ (List.replicate n vs).flatten) (ds ++ (List.replicate n ds).flatten)
    exact h.append (rpa_rep h n)
theorem bv_rep {a : List PyData} {n : Nat} (hl : a.length * n ≤ 100000) (hn : n ≤ 100000) : BinV X (binaryOp .Mult) (.list a) (.int (n : Int)) (.list (List.replicate n a).flatten) := fun G H M x y sat hx hy Q k => by
  cases hx with
  | lst hs ha =>
    cases hy
    refine SOp.of op_rep ⟨_, _, _, rfl, rfl, sat.ex _ _ hs, by omega, by omega, ?_, fun p hp => ?_⟩
    · rw [ha.length]; exact Nat.le_trans hl (by decide)
    · exact k _ _ _ (Ex.new (sat.fresh hp).1) (sat.new hp) (.lst upd_same (rps_ex (Ex.new (sat.fresh hp).1) _ _ (rpa_rep ha n)))
theorem bv_rep1 {d : PyData} {n : Nat} (hn : n ≤ 100000) : BinV X (binaryOp .Mult) (.list [d]) (.int (n : Int)) (.list (List.replicate n d)) := by
  have h := bv_rep (X := X) (a := [d]) (n := n) (by simpa using hn) hn
  have e : (List.replicate n [d]).flatten = List.replicate n d := by
    clear h
    induction n with
    | zero => rfl
    | succ n ih => rw [List.replicate_succ, List.flatten_cons, ih (by omega)]; rfl
  rw [e] at h
  exact h
/-- a tuple and a tuple -/
theorem bv_catT {a b : List PyData} (hl : a.length + b.length ≤ 100000) : BinV X (binaryOp .Add) (.tuple a) (.tuple b) (.tuple (a ++ b)) := fun G H M x y sat hx hy Q k => by
  cases hx with
  | tup hs ha =>
    cases hy with
    | tup hs' hb =>
      refine SOp.of op_catA ⟨_, _, _, _, rfl, rfl, .inl (.inl (sat.ex _ _ hs)), .inl (.inl (sat.ex _ _ hs')), ?_, fun e => ?_, fun _ e => ?_, fun _ _ p hp => ?_⟩
      · rw [ha.length, hb.length]; exact Nat.le_trans hl (by decide)
      · subst e
        cases ha
        exact k _ G H (Ex.refl G) sat (.tup hs' hb)
      · subst e
        cases hb
        exact k _ G H (Ex.refl G) sat (by rw [List.append_nil]; exact .tup hs ha)
      · exact k _ _ _ (Ex.new (sat.fresh hp).1) (sat.new hp) (.tup upd_same (rps_ex (Ex.new (sat.fresh hp).1) _ _ (ha.append hb)))

/-! ### and, or, not, if -/
theorem ee_and1 {op : BoolOp} {a : Expr} {d : PyData} (ha : EE X a δ d) : EE X (.BoolOp op [a] pos) δ d := fun M Ψ q σ G H sd sat Q k => SE.of (pe_one pe_SE) (ha M Ψ q σ G H sd sat Q k)
theorem ee_and {a b : Expr} {rest : List Expr} {p r : Bool} (ha : EE X a δ (.bool p)) (hb : p = true → EE X (.BoolOp .And (b :: rest) pos) δ (.bool r)) : EE X (.BoolOp .And (a :: b :: rest) pos) δ (.bool (p && r)) :=
  fun M Ψ q σ G H sd sat Q k => SE.of (pe_and pe_SE pe_SE) (ha M (fun x M1 => x = .d (.bool p) ∧ M1 = M) ⟨rfl, rfl⟩ σ G H sd sat _ fun v x M1 G1 H1 hx e1 sat1 r1 => by
    obtain ⟨rfl, rfl⟩ := hx
    cases r1
    refine ⟨p, rfl, ?_⟩
    cases p with
    | false => exact k _ _ M1 G1 H1 q e1 sat1 (.bl false)
    | true => exact hb rfl M1 Ψ q σ G1 H1 (sd.mono e1) sat1 Q fun v x M2 G2 H2 q2 e2 => k v x M2 G2 H2 q2 (e1.trans e2))
theorem ee_or {a b : Expr} {rest : List Expr} {p r : Bool} (ha : EE X a δ (.bool p)) (hb : p = false → EE X (.BoolOp .Or (b :: rest) pos) δ (.bool r)) : EE X (.BoolOp .Or (a :: b :: rest) pos) δ (.bool (p || r)) :=
  fun M Ψ q σ G H sd sat Q k => SE.of (pe_or pe_SE pe_SE) (ha M (fun x M1 => x = .d (.bool p) ∧ M1 = M) ⟨rfl, rfl⟩ σ G H sd sat _ fun v x M1 G1 H1 hx e1 sat1 r1 => by
    obtain ⟨rfl, rfl⟩ := hx
    cases r1
    refine ⟨p, rfl, ?_⟩
    cases p with
    | true => exact k _ _ M1 G1 H1 q e1 sat1 (.bl true)
    | false => exact hb rfl M1 Ψ q σ G1 H1 (sd.mono e1) sat1 Q fun v x M2 G2 H2 q2 e2 => k v x M2 G2 H2 q2 (e1.trans e2))
theorem ee_not {a : Expr} {p : Bool} (ha : EE X a δ (.bool p)) : EE X (.UnaryOp .Not a pos) δ (.bool (!p)) :=
  fun M Ψ q σ G H sd sat Q k => SE.of (pe_not pe_SE) (ha M (fun x M1 => x = .d (.bool p) ∧ M1 = M) ⟨rfl, rfl⟩ σ G H sd sat _ fun v x M1 G1 H1 hx e1 sat1 r1 => by
    obtain ⟨rfl, rfl⟩ := hx
    cases r1
    exact ⟨p, rfl, k _ _ M1 G1 H1 q e1 sat1 (.bl _)⟩)
/-- tests -/
theorem EB.tv {e : Expr} {b : Bool} {Φ : Bool → Mu → Prop} (h : EB X e δ b) (q : Φ b M) : TV X e δ M Φ := h M Φ q
theorem EB.to {e : Expr} {b c : Bool} (h : EB X e δ b) (q : b = c) : EB X e δ c := q ▸ h
theorem tv_val {e : Expr} {Φ : Bool → Mu → Prop} (he : ∀ whole, isTrue e X.env whole = (do let v ← whole; standAt e.pos; holding [v] (truthy v))) (h : EV X e δ M fun x M' => ∃ b, x = .d (.bool b) ∧ Φ b M') : TV X e δ M Φ :=
  fun σ G H sd sat Q k => ST.of (pt_val pe_SE he) (h σ G H sd sat _ fun v x M1 G1 H1 ⟨b, hx, q⟩ e1 sat1 r1 => by
    subst hx
    cases r1
    exact ⟨b, rfl, k b M1 G1 H1 q e1 sat1⟩)
theorem eb_val {e : Expr} {b : Bool} (he : ∀ whole, isTrue e X.env whole = (do let v ← whole; standAt e.pos; holding [v] (truthy v))) (h : EE X e δ (.bool b)) : EB X e δ b := fun M Φ q => tv_val he (h M _ ⟨b, rfl, q⟩)
theorem tv_cmp {op : CmpOp} {a b : Expr} {Φ : Bool → Mu → Prop} (hm : behindInMarks op b = false) (h : EV X a δ M fun x M1 => EV X b δ M1 fun y M2 => ∃ d1 d2 r, x = .d d1 ∧ y = .d d2 ∧ BinV X (compareOp op) d1 d2 (.bool r) ∧ Φ r M2) : TV X (.Compare a [op] [b] pos) δ M Φ :=
  fun σ G H sd sat Q k => ST.of (pt_cmpR op_SOp pe_SE pe_SE hm) (h σ G H sd sat _ fun v x M1 G1 H1 hb e1 sat1 r1 => hb σ G1 H1 (sd.mono e1) sat1 _ fun u y M2 G2 H2 ⟨d1, d2, r, ex, ey, bv, q⟩ e2 sat2 r2 => by
    subst ex; subst ey
    exact bv G2 H2 M2 v u sat2 (rp_ex e2 _ _ r1) r2 _ fun z G3 H3 e3 sat3 r3 => by
      cases r3
      exact ⟨r, rfl, k r M2 G3 H3 q ((e1.trans e2).trans e3) sat3⟩)
theorem eb_cmp {op : CmpOp} {a b : Expr} {d1 d2 : PyData} {r : Bool} (hm : behindInMarks op b = false) (ha : EE X a δ d1) (hb : EE X b δ d2) (h : BinV X (compareOp op) d1 d2 (.bool r)) : EB X (.Compare a [op] [b] pos) δ r :=
  fun M Φ q => tv_cmp hm (ha M _ (hb M _ ⟨d1, d2, r, rfl, rfl, h, q⟩))
theorem tv_not {a : Expr} {Φ : Bool → Mu → Prop} (h : TV X a δ M fun b M' => Φ (!b) M') : TV X (.UnaryOp .Not a pos) δ M Φ := fun σ G H sd sat Q k => ST.of (pt_not pt_ST) (h σ G H sd sat _ fun b M1 G1 H1 q e1 sat1 => k (!b) M1 G1 H1 q e1 sat1)
theorem eb_not {a : Expr} {b : Bool} (h : EB X a δ b) : EB X (.UnaryOp .Not a pos) δ (!b) := fun M Φ q => tv_not (h M _ q)
theorem WV.tv {e : Expr} {Φ : Bool → Mu → Prop} (h : WV X e δ M Φ) : TV X e δ M Φ := fun σ G H sd sat Q k => ST.of pw_SWh.pt (h σ G H sd sat Q k)
theorem EW.eb {e : Expr} {b : Bool} (h : EW X e δ b) : EB X e δ b := fun M Φ q => (h M Φ q).tv
theorem wv_and1 {a : Expr} {Φ : Bool → Mu → Prop} (h : TV X a δ M Φ) : WV X (.BoolOp .And [a] pos) δ M Φ := fun σ G H sd sat Q k => SWh.of (pw_and1 pt_ST) (h σ G H sd sat Q k)
theorem wv_or1 {a : Expr} {Φ : Bool → Mu → Prop} (h : TV X a δ M Φ) : WV X (.BoolOp .Or [a] pos) δ M Φ := fun σ G H sd sat Q k => SWh.of (pw_or1 pt_ST) (h σ G H sd sat Q k)
theorem wv_and {a b : Expr} {rest : List Expr} {Φ : Bool → Mu → Prop} (h : TV X a δ M fun p M1 => (p = true → WV X (.BoolOp .And (b :: rest) pos) δ M1 Φ) ∧ (p = false → Φ false M1)) : WV X (.BoolOp .And (a :: b :: rest) pos) δ M Φ :=
  fun σ G H sd sat Q k => SWh.of (pw_and pt_ST pw_SWh) (h σ G H sd sat _ fun p M1 G1 H1 ⟨q1, q2⟩ e1 sat1 => by
    cases p with
    | true => exact q1 rfl σ G1 H1 (sd.mono e1) sat1 Q fun b M2 G2 H2 q e2 => k b M2 G2 H2 q (e1.trans e2)
    | false => exact k false M1 G1 H1 (q2 rfl) e1 sat1)
theorem wv_or {a b : Expr} {rest : List Expr} {Φ : Bool → Mu → Prop} (h : TV X a δ M fun p M1 => (p = false → WV X (.BoolOp .Or (b :: rest) pos) δ M1 Φ) ∧ (p = true → Φ true M1)) : WV X (.BoolOp .Or (a :: b :: rest) pos) δ M Φ :=
  fun σ G H sd sat Q k => SWh.of (pw_or pt_ST pw_SWh) (h σ G H sd sat _ fun p M1 G1 H1 ⟨q1, q2⟩ e1 sat1 => by
    cases p with
    | false => exact q1 rfl σ G1 H1 (sd.mono e1) sat1 Q fun b M2 G2 H2 q e2 => k b M2 G2 H2 q (e1.trans e2)
    | true => exact k true M1 G1 H1 (q2 rfl) e1 sat1)
theorem ew_and1 {a : Expr} {b : Bool} (h : EB X a δ b) : EW X (.BoolOp .And [a] pos) δ b := fun M Φ q => wv_and1 (h M Φ q)
theorem ew_or1 {a : Expr} {b : Bool} (h : EB X a δ b) : EW X (.BoolOp .Or [a] pos) δ b := fun M Φ q => wv_or1 (h M Φ q)
theorem ew_and {a b : Expr} {rest : List Expr} {p r : Bool} (ha : EB X a δ p) (hb : p = true → EW X (.BoolOp .And (b :: rest) pos) δ r) : EW X (.BoolOp .And (a :: b :: rest) pos) δ (p && r) := fun M Φ q =>
  wv_and (ha M _ ⟨fun e => hb e M Φ (by subst e; exact q), fun e => by subst e; exact q⟩)
theorem ew_or {a b : Expr} {rest : List Expr} {p r : Bool} (ha : EB X a δ p) (hb : p = false → EW X (.BoolOp .Or (b :: rest) pos) δ r) : EW X (.BoolOp .Or (a :: b :: rest) pos) δ (p || r) := fun M Φ q =>
  wv_or (ha M _ ⟨fun e => hb e M Φ (by subst e; exact q), fun e => by subst e; exact q⟩)
theorem ev_if {c a b : Expr} (h : TV X c δ M fun p M1 => (p = true → EV X a δ M1 Ψ) ∧ (p = false → EV X b δ M1 Ψ)) : EV X (.IfExp c a b pos) δ M Ψ :=
  fun σ G H sd sat Q k => SE.of (pe_ifExp pt_ST pe_SE pe_SE) (h σ G H sd sat _ fun p M1 G1 H1 ⟨q1, q2⟩ e1 sat1 => by
    cases p with
    | true => exact q1 rfl σ G1 H1 (sd.mono e1) sat1 Q fun v x M2 G2 H2 q e2 => k v x M2 G2 H2 q (e1.trans e2)
    | false => exact q2 rfl σ G1 H1 (sd.mono e1) sat1 Q fun v x M2 G2 H2 q e2 => k v x M2 G2 H2 q (e1.trans e2))
theorem ee_if {c a b : Expr} {p : Bool} {d1 d2 : PyData} (hc : EB X c δ p) (ha : p = true → EE X a δ d1) (hb : p = false → EE X b δ d2) : EE X (.IfExp c a b pos) δ (if p = true then d1 else d2) := fun M Ψ q =>
  ev_if (hc M _ ⟨fun e => ha e M Ψ (by subst e; exact q), fun e => hb e M Ψ (by subst e; exact q)⟩)
theorem ee_ifI {c a b : Expr} {p : Bool} {i j : Int} (hc : EB X c δ p) (ha : p = true → EE X a δ (.int i)) (hb : p = false → EE X b δ (.int j)) : EE X (.IfExp c a b pos) δ (.int (if p = true then i else j)) :=
  (ee_if hc ha hb).to (by cases p <;> rfl)

/-! ### arguments, displays -/
theorem ea_nil : EA X [] δ [] := fun M Ψ q σ G H sd sat Q k => SA.of pa_nil (k [] [] M G H q (Ex.refl G) sat .nil)
theorem av_cons {e : Expr} {es : List Expr} {Φ : List S → Mu → Prop} (hs : starEach (e :: es) X.env = (false, eval e X.env) :: starEach es X.env) (h : EV X e δ M fun x M1 => AV X es δ M1 fun xs M2 => Φ (x :: xs) M2) : AV X (e :: es) δ M Φ :=
  fun σ G H sd sat Q k => SA.of (pa_cons pe_SE pa_SA hs) (h σ G H sd sat _ fun v x M1 G1 H1 hb e1 sat1 r1 => hb σ G1 H1 (sd.mono e1) sat1 _ fun vs xs M2 G2 H2 q e2 sat2 r2 => k _ _ M2 G2 H2 q (e1.trans e2) sat2 (.cons (reps_ex e2 r1) r2))
theorem ea_cons {e : Expr} {es : List Expr} {d : PyData} {xs : List S} (hs : starEach (e :: es) X.env = (false, eval e X.env) :: starEach es X.env) (h : EE X e δ d) (hr : EA X es δ xs) : EA X (e :: es) δ (.d d :: xs) := fun M Φ q => av_cons hs (h M _ (hr M _ q))
/-- a thing that changes is passed -/
theorem ea_consM {i : Nat} {x : Str} {es : List Expr} {a : Addr} {xs : List S} (hs : starEach (.Name x pos :: es) X.env = (false, eval (.Name x pos) X.env) :: starEach es X.env) (hN : X.N[i]? = some x) (hv : Vis X.env.scope x) (h : δ[i]? = some (some (.m a))) (hr : EA X es δ xs)
    (hd : (x == ("__debug__" : Str)) = false := by decide) (hcd : (x == ("__classdict__" : Str)) = false := by decide) : EA X (.Name x pos :: es) δ (.m a :: xs) := fun M Φ q => av_cons hs (ev_var hN hv h (hr M _ q) hd hcd)
theorem ev_tup {es : List Expr} {x1} (h : AV X es δ M fun xs M1 => ∃ ds : List PyData, xs = ds.map S.d ∧ ds.length ≤ 100000 ∧ Ψ (.d (.tuple ds)) M1) : EV X (.Tuple es x1 pos) δ M Ψ :=
  fun σ G H sd sat Q k => SE.of (pe_tup pa_SA) (h σ G H sd sat _ fun vs xs M1 G1 H1 ⟨ds, ex, hl, q⟩ e1 sat1 r1 => by
    subst ex
    have ra := r1.data
    refine ⟨by rw [ra.length]; exact Nat.le_trans hl (by decide), fun p hp => ?_⟩
    have f := (sat1.fresh hp).1
    exact k _ _ M1 _ _ q (e1.trans (Ex.new f)) (sat1.new hp) (.tup upd_same (rps_ex (Ex.new f) _ _ ra)))
theorem ee_tup {es : List Expr} {x1} {ds : List PyData} (h : EA X es δ (ds.map S.d)) (hl : ds.length ≤ 100000) : EE X (.Tuple es x1 pos) δ (.tuple ds) := fun M Ψ q => ev_tup (h M _ ⟨ds, rfl, hl, q⟩)
theorem ev_lst {es : List Expr} (h : AV X es δ M fun xs M1 => ∃ ds : List PyData, xs = ds.map S.d ∧ ds.length ≤ 100000 ∧ Ψ (.d (.list ds)) M1) : EV X (.List es pos) δ M Ψ :=
  fun σ G H sd sat Q k => SE.of (pe_lst pa_SA) (h σ G H sd sat _ fun vs xs M1 G1 H1 ⟨ds, ex, hl, q⟩ e1 sat1 r1 => by
    subst ex
    have ra := r1.data
    refine ⟨by rw [ra.length]; exact Nat.le_trans hl (by decide), fun p hp => ?_⟩
    have f := (sat1.fresh hp).1
    exact k _ _ M1 _ _ q (e1.trans (Ex.new f)) (sat1.new hp) (.lst upd_same (rps_ex (Ex.new f) _ _ ra)))
theorem ee_lst {es : List Expr} {ds : List PyData} (h : EA X es δ (ds.map S.d)) (hl : ds.length ≤ 100000) : EE X (.List es pos) δ (.list ds) := fun M Ψ q => ev_lst (h M _ ⟨ds, rfl, hl, q⟩)
/-- a list that will change -/
theorem ev_lstM {es : List Expr} {ds : List PyData} (h : EA X es δ (ds.map S.d)) (hl : ds.length ≤ 100000) (q : ∀ a, M a = none → Ψ (.m a) (mup M a (.lst ds))) : EV X (.List es pos) δ M Ψ :=
  fun σ G H sd sat Q k => SE.of (pe_lst pa_SA) (h M (fun xs M1 => xs = ds.map S.d ∧ M1 = M) ⟨rfl, rfl⟩ σ G H sd sat _ fun vs xs M1 G1 H1 hx e1 sat1 r1 => by
    obtain ⟨rfl, rfl⟩ := hx
    have ra := r1.data
    refine ⟨by rw [ra.length]; exact Nat.le_trans hl (by decide), fun p hp => ?_⟩
    exact k _ _ _ G1 _ (q p (sat1.fresh hp).2) e1 (sat1.newM hp ⟨_, rfl, ra⟩) rfl)
/-- (*a, b) -/
theorem ee_star {a b : Expr} {p2 : Pos} {x1} {as_ : List PyData} {d : PyData} (hs : starEach [.Starred a p2, b] X.env = (true, eval a X.env) :: starEach [b] X.env) (ha : EE X a δ (.tuple as_)) (hb : EA X [b] δ [.d d]) (hl : as_.length + 1 ≤ 100000) :
    EE X (.Tuple [.Starred a p2, b] x1 pos) δ (.tuple (as_ ++ [d])) := fun M Ψ q σ G H sd sat Q k => SE.of (pe_tup (StX.pa_star pe_SE pa_SA hs)) (ha M (fun x M1 => x = .d (.tuple as_) ∧ M1 = M) ⟨rfl, rfl⟩ σ G H sd sat _ fun v x M1 G1 H1 hx e1 sat1 r1 => by
    obtain ⟨rfl, rfl⟩ := hx
    cases r1 with
    | tup hs1 ha1 =>
      refine ⟨_, _, rfl, .inl (.inl (.inl (sat1.ex _ _ hs1))), ?_⟩
      refine hb M1 (fun xs M2 => xs = [.d d] ∧ M2 = M1) ⟨rfl, rfl⟩ σ G1 H1 (sd.mono e1) sat1 _ fun vs xs M2 G2 H2 hx e2 sat2 r2 => ?_
      obtain ⟨rfl, rfl⟩ := hx
      have ra : RpA G2 vs [d] := RepSs.data (ds := [d]) r2
      have rall := (rps_ex e2 _ _ ha1).append ra
      refine ⟨by rw [rall.length, List.length_append]; exact Nat.le_trans hl (by decide), fun p hp => ?_⟩
      have f := (sat2.fresh hp).1
      exact k _ _ M2 _ _ q ((e1.trans e2).trans (Ex.new f)) (sat2.new hp) (.tup upd_same (rps_ex (Ex.new f) _ _ rall)))
end
end DL
/-! Rules of the layer: subscripts, calls of built-ins, calls of defs. -/
namespace DL
open PySem PySem.Spec PyProof.Rows L2
section
variable {X : Cx} {δ : En} {M : Mu} {Ψ : S → Mu → Prop} {pos : Pos}

/-! ### subscripts -/
theorem atI_rp {G : Hp} {vs : List V} {ds : List PyData} {i : Int} {r : PyData} (h : RpA G vs ds) (e : atI ds i = some r) : ∃ v, atI vs i = some v ∧ Rp G v r := by
  unfold atI at e ⊢
  rw [h.length]
  cases q : ixN ds.length i with
  | none => rw [q] at e; cases e
  | some j =>
    rw [q] at e
    exact h.get e
/-- x[i] is worth r -/
def IxV (X : Cx) (d1 d2 r : PyData) : Prop := ∀ (G H : Hp) (M : Mu) (x y : V), Sat G M H → Rp G x d1 → Rp G y d2 → ∀ Q : VK, (∀ v G' H', Ex G G' → Sat G' M H' → Rp G' v r → Q v H') → SIx X x y H Q
theorem ix_L {ds : List PyData} {i : Int} {r : PyData} (e : atI ds i = some r) : IxV X (.list ds) (.int i) r := fun G H M x y sat hx hy Q k => by
  cases hy
  cases hx with
  | lst hs ha =>
    obtain ⟨v, ev, rv⟩ := atI_rp ha e
    exact SIx.of ix_list ⟨_, _, i, v, rfl, rfl, .inl (.inl (sat.ex _ _ hs)), ev, k v G H (Ex.refl G) sat rv⟩
theorem ix_T {ds : List PyData} {i : Int} {r : PyData} (e : atI ds i = some r) : IxV X (.tuple ds) (.int i) r := fun G H M x y sat hx hy Q k => by
  cases hy
  cases hx with
  | tup hs ha =>
    obtain ⟨v, ev, rv⟩ := atI_rp ha e
    exact SIx.of ix_tup ⟨_, _, i, v, rfl, rfl, .inl (.inl (sat.ex _ _ hs)), ev, k v G H (Ex.refl G) sat rv⟩
theorem ev_ix {a b : Expr} (hs : PlainIx b) (h : EV X a δ M fun x M1 => EV X b δ M1 fun y M2 => ∃ d1 d2 r, x = .d d1 ∧ y = .d d2 ∧ IxV X d1 d2 r ∧ Ψ (.d r) M2) : EV X (.Subscript a b pos) δ M Ψ :=
  fun σ G H sd sat Q k => SE.of (pe_ix ix_SIx pe_SE pe_SE hs) (h σ G H sd sat _ fun v x M1 G1 H1 hb e1 sat1 r1 => hb σ G1 H1 (sd.mono e1) sat1 _ fun u y M2 G2 H2 ⟨d1, d2, r, ex, ey, bv, q⟩ e2 sat2 r2 => by
    subst ex; subst ey
    exact bv G2 H2 M2 v u sat2 (rp_ex e2 _ _ r1) r2 _ fun z G3 H3 e3 sat3 r3 => k z _ M2 G3 H3 q ((e1.trans e2).trans e3) sat3 r3)
theorem ee_ix {a b : Expr} {d1 d2 r : PyData} (hs : PlainIx b) (ha : EE X a δ d1) (hb : EE X b δ d2) (h : IxV X d1 d2 r) : EE X (.Subscript a b pos) δ r :=
  fun M Ψ q => ev_ix hs (ha M _ (hb M _ ⟨d1, d2, r, rfl, rfl, h, q⟩))
/-- an item of a list that changes, at a name -/
theorem ee_ixM {i : Nat} {x : Str} {p2 : Pos} {b : Expr} {a : Addr} {ds : List PyData} {j : Int} {r : PyData} (hs : PlainIx b) (hN : X.N[i]? = some x) (hv : Vis X.env.scope x) (h : δ[i]? = some (some (.m a))) (hM : M a = some (.lst ds)) (hb : EE X b δ (.int j)) (e : atI ds j = some r)
    (q : Ψ (.d r) M) (hd : (x == ("__debug__" : Str)) = false := by decide) (hcd : (x == ("__classdict__" : Str)) = false := by decide) : EV X (.Subscript (.Name x p2) b pos) δ M Ψ :=
  fun σ G H sd sat Q k => SE.of (pe_ix ix_list (pe_var hN hv hd hcd) pe_SE hs) (by
    obtain ⟨v, ev, rv⟩ := sd.at_ i _ h
    refine ⟨v, ev, hb M (fun x M1 => x = .d (.int j) ∧ M1 = M) ⟨rfl, rfl⟩ σ G H sd sat _ fun u y M1 G1 H1 hy e1 sat1 r1 => ?_⟩
    obtain ⟨rfl, rfl⟩ := hy
    cases r1
    obtain ⟨g, o, eo, vs, rfl, ra⟩ := sat1.mu a _ hM
    obtain ⟨w', ew, rw'⟩ := atI_rp ra e
    exact ⟨a, vs, j, w', rv, rfl, .inl (.inl eo), ew, k w' _ M1 G1 H1 q e1 sat1 rw'⟩)
theorem at_nat {α : Type} {xs : List α} {g : α → PyData} {k : Nat} {d : α} (h : k < xs.length) : atI (xs.map g) (k : Int) = some (g (xs.getD k d)) := by
  refine atI_nat ?_
  rw [List.getElem?_map, List.getElem?_eq_getElem h, List.getD_eq_getElem?_getD, List.getElem?_eq_getElem h]
  rfl
theorem at_int {α : Type} {xs : List α} {g : α → PyData} {i : Int} {d : α} (h0 : 0 ≤ i) (h : i < xs.length) : atI (xs.map g) i = some (g (xs.getD i.toNat d)) := by
  have e : i = (i.toNat : Int) := by omega
  rw [e]
  exact at_nat (by omega)
theorem at_last {α : Type} {xs : List α} {g : α → PyData} {d : α} (h : xs ≠ []) : atI (xs.map g) (-1) = some (g (xs.getLastD d)) := by
  have e : xs.map g = (xs.dropLast.map g) ++ [g (xs.getLast h)] := by
    rw [← List.map_singleton, ← List.map_append, List.dropLast_concat_getLast]
  rw [e, atI_last]
  rw [List.getLastD_eq_getLast?, List.getLast?_eq_some_getLast h]
  rfl

/-! ### slices -/
def EO (X : Cx) (e : Option Expr) (δ : En) (o : Option Int) : Prop := ∀ (M : Mu) (σ : L2.St) (G H : Hp), SD G σ δ → Sat G M H → ∀ Q : Option Int → Hp → Prop, (∀ G' H', Ex G G' → Sat G' M H' → Q o H') → SPt X e σ H Q
theorem eo_none : EO X none δ none := fun M σ G H sd sat Q k => SPt.of po_none (k G H (Ex.refl G) sat)
theorem eo_some {e : Expr} {i : Int} (h : EE X e δ (.int i)) : EO X (some e) δ (some i) := fun M σ G H sd sat Q k => SPt.of (po_some pe_SE) (h M (fun x M1 => x = .d (.int i) ∧ M1 = M) ⟨rfl, rfl⟩ σ G H sd sat _ fun v x M1 G1 H1 hx e1 sat1 r1 => by
  obtain ⟨rfl, rfl⟩ := hx
  cases r1
  exact ⟨i, rfl, k G1 H1 e1 sat1⟩)
def cutD (ds : List PyData) (lo hi : Option Int) : List PyData := (ds.drop (HT.sIx ds.length 0 lo)).take (HT.sIx ds.length ds.length hi - HT.sIx ds.length 0 lo)
theorem ee_slL {e : Expr} {lo hi : Option Expr} {p2 : Pos} {ds : List PyData} {l h : Option Int} (he : EE X e δ (.list ds)) (hl : EO X lo δ l) (hh : EO X hi δ h) : EE X (.Subscript e (.Slice lo hi none p2) pos) δ (.list (cutD ds l h)) :=
  fun M Ψ q σ G H sd sat Q k => SE.of (pe_slice sl_list pe_SE po_SPt po_SPt) (he M (fun x M1 => x = .d (.list ds) ∧ M1 = M) ⟨rfl, rfl⟩ σ G H sd sat _ fun v x M1 G1 H1 hx e1 sat1 r1 => by
    obtain ⟨rfl, rfl⟩ := hx
    refine hl M1 σ G1 H1 (sd.mono e1) sat1 _ fun G2 H2 e2 sat2 => ?_
    refine hh M1 σ G2 H2 (sd.mono (e1.trans e2)) sat2 _ fun G3 H3 e3 sat3 => ?_
    cases rp_ex (e2.trans e3) _ _ r1 with
    | lst hs ha =>
      refine ⟨_, _, rfl, .inl (.inl (sat3.ex _ _ hs)), fun p hp => ?_⟩
      have f := (sat3.fresh hp).1
      refine k _ _ M1 _ _ q (((e1.trans e2).trans e3).trans (Ex.new f)) (sat3.new hp) (.lst upd_same (rps_ex (Ex.new f) _ _ ?_))
      unfold cutV cutD
      rw [ha.length]
      exact (ha.drop _).take _)
theorem cut_from {ds : List PyData} {k : Nat} : cutD ds (some (k : Int)) none = ds.drop k := by
  unfold cutD
  rw [HT.sIx_nat, HT.sIx_none]
  by_cases h : k ≤ ds.length
  · rw [Nat.min_eq_left h, List.take_of_length_le (by rw [List.length_drop]; omega)]
  · rw [Nat.min_eq_right (by omega), List.drop_of_length_le (Nat.le_refl _), List.drop_of_length_le (by omega)]
    simp
theorem cut_to {ds : List PyData} {k : Nat} : cutD ds none (some (k : Int)) = ds.take k := by
  unfold cutD
  rw [HT.sIx_nat, HT.sIx_none, List.drop_zero, Nat.sub_zero]
  by_cases h : k ≤ ds.length
  · rw [Nat.min_eq_left h]
  · rw [Nat.min_eq_right (by omega), List.take_of_length_le (Nat.le_refl _), List.take_of_length_le (by omega)]
theorem cut_both {ds : List PyData} {a k : Nat} (h : a + k ≤ ds.length) : cutD ds (some (a : Int)) (some ((a + k : Nat) : Int)) = (ds.drop a).take k := by
  unfold cutD
  rw [HT.sIx_nat, HT.sIx_nat, Nat.min_eq_left h, Nat.min_eq_left (show a ≤ ds.length by omega), Nat.add_sub_cancel_left]

/-! ### calls of built-ins -/
/-- the call of f with such arguments is worth r -/
def CallV (X : Cx) (f : Value) (ds : List PyData) (r : PyData) : Prop := ∀ (G H : Hp) (M : Mu) (vs : List V), Sat G M H → RpA G vs ds → ∀ Q : VK, (∀ v G' H', Ex G G' → Sat G' M H' → Rp G' v r → Q v H') → SCl X f vs H Q
theorem ev_callB {x : Str} {p : Pos} {e : Expr} {es : List Expr} {id : String} (hg : Gl X x) (hm : X.mg x = none) (hv : bootBuiltins x = some (.builtin id)) (he : starEach (e :: es) X.env = (false, eval e X.env) :: starEach es X.env) (hpl : (backTo pos (starEach es X.env)).any (·.1) = false)
    (h : AV X (e :: es) δ M fun xs M1 => ∃ ds r, xs = ds.map S.d ∧ CallV X (.builtin id) ds r ∧ Ψ (.d r) M1) (hn : x ≠ "__name__" := by decide) (hdb : (x == ("__debug__" : Str)) = false := by decide) : EV X (.Call (.Name x p) (e :: es) [] pos) δ M Ψ :=
  fun σ G H sd sat Q k => SE.of (pe_callB cl_SCl hg hm hv pa_SA hn hdb he hpl) (h σ G H sd sat _ fun vs xs M1 G1 H1 ⟨ds, r, ex, cv, q⟩ e1 sat1 r1 => by
    subst ex
    exact cv G1 H1 M1 vs sat1 r1.data Q fun v G2 H2 e2 sat2 r2 => k v _ M1 G2 H2 q (e1.trans e2) sat2 r2)
theorem ee_callB {x : Str} {p : Pos} {e : Expr} {es : List Expr} {id : String} {ds : List PyData} {r : PyData} (hg : Gl X x) (hm : X.mg x = none) (hv : bootBuiltins x = some (.builtin id)) (he : starEach (e :: es) X.env = (false, eval e X.env) :: starEach es X.env) (hpl : (backTo pos (starEach es X.env)).any (·.1) = false)
    (ha : EA X (e :: es) δ (ds.map S.d)) (h : CallV X (.builtin id) ds r) (hn : x ≠ "__name__" := by decide) (hdb : (x == ("__debug__" : Str)) = false := by decide) : EE X (.Call (.Name x p) (e :: es) [] pos) δ r :=
  fun M Ψ q => ev_callB hg hm hv he hpl (ha M _ ⟨ds, r, rfl, h, q⟩) hn hdb
theorem ev_callT {x : Str} {p : Pos} {e : Expr} {es : List Expr} {T : String} (hg : Gl X x) (hm : X.mg x = none) (hv : bootBuiltins x = some (.type T)) (he : starEach (e :: es) X.env = (false, eval e X.env) :: starEach es X.env) (hpl : (backTo pos (starEach es X.env)).any (·.1) = false)
    (h : AV X (e :: es) δ M fun xs M1 => ∃ ds r, xs = ds.map S.d ∧ CallV X (.type T) ds r ∧ Ψ (.d r) M1) (hn : x ≠ "__name__" := by decide) (hdb : (x == ("__debug__" : Str)) = false := by decide) : EV X (.Call (.Name x p) (e :: es) [] pos) δ M Ψ :=
  fun σ G H sd sat Q k => SE.of (pe_callTy cl_SCl hg hm hv pa_SA hn hdb he hpl) (h σ G H sd sat _ fun vs xs M1 G1 H1 ⟨ds, r, ex, cv, q⟩ e1 sat1 r1 => by
    subst ex
    exact cv G1 H1 M1 vs sat1 r1.data Q fun v G2 H2 e2 sat2 r2 => k v _ M1 G2 H2 q (e1.trans e2) sat2 r2)
theorem ee_callT {x : Str} {p : Pos} {e : Expr} {es : List Expr} {T : String} {ds : List PyData} {r : PyData} (hg : Gl X x) (hm : X.mg x = none) (hv : bootBuiltins x = some (.type T)) (he : starEach (e :: es) X.env = (false, eval e X.env) :: starEach es X.env) (hpl : (backTo pos (starEach es X.env)).any (·.1) = false)
    (ha : EA X (e :: es) δ (ds.map S.d)) (h : CallV X (.type T) ds r) (hn : x ≠ "__name__" := by decide) (hdb : (x == ("__debug__" : Str)) = false := by decide) : EE X (.Call (.Name x p) (e :: es) [] pos) δ r :=
  fun M Ψ q => ev_callT hg hm hv he hpl (ha M _ ⟨ds, r, rfl, h, q⟩) hn hdb
theorem cv_abs {i : Int} : CallV X (.builtin "abs") [.int i] (.int (i.natAbs : Int)) := fun G H M vs sat h Q k => by
  cases h with
  | cons a b =>
    cases a; cases b
    refine SCl.of call_abs ⟨i, rfl, ?_⟩
    have e : (if i < 0 then -i else i) = (i.natAbs : Int) := by split <;> omega
    rw [e]
    exact k _ G H (Ex.refl G) sat (.int _)
theorem cv_min2 (hc : X.calm = true) {i j : Int} : CallV X (.builtin "min") [.int i, .int j] (.int (if j < i then j else i)) := fun G H M vs sat h Q k => by
  cases h with
  | cons a b =>
    cases b with
    | cons a2 b2 =>
      cases a; cases a2; cases b2
      exact SCl.of (call_min2 hc) ⟨i, j, rfl, k _ G H (Ex.refl G) sat (.int _)⟩
theorem cv_max2 (hc : X.calm = true) {i j : Int} : CallV X (.builtin "max") [.int i, .int j] (.int (if j > i then j else i)) := fun G H M vs sat h Q k => by
  cases h with
  | cons a b =>
    cases b with
    | cons a2 b2 =>
      cases a; cases a2; cases b2
      exact SCl.of (call_max2 hc) ⟨i, j, rfl, k _ G H (Ex.refl G) sat (.int _)⟩
theorem cv_intI {i : Int} : CallV X (.type "int") [.int i] (.int i) := fun G H M vs sat h Q k => by
  cases h with
  | cons a b =>
    cases a; cases b
    exact SCl.of call_int1 (.inl ⟨i, rfl, k _ G H (Ex.refl G) sat (.int _)⟩)
theorem cv_intB {b : Bool} : CallV X (.type "int") [.bool b] (.int (if b then 1 else 0)) := fun G H M vs sat h Q k => by
  cases h with
  | cons a c =>
    cases a; cases c
    exact SCl.of call_int1 (.inr ⟨b, rfl, k _ G H (Ex.refl G) sat (.int _)⟩)
theorem cv_lenL {ds : List PyData} : CallV X (.builtin "len") [.list ds] (.int (ds.length : Int)) := fun G H M vs sat h Q k => by
  cases h with
  | cons a b =>
    cases b
    cases a with
    | lst hs ha =>
      refine SCl.of call_len_seq ⟨_, _, rfl, .inl (.inl (.inl (sat.ex _ _ hs))), ?_⟩
      rw [ha.length]
      exact k _ G H (Ex.refl G) sat (.int _)
theorem cv_lenT {ds : List PyData} : CallV X (.builtin "len") [.tuple ds] (.int (ds.length : Int)) := fun G H M vs sat h Q k => by
  cases h with
  | cons a b =>
    cases b
    cases a with
    | tup hs ha =>
      refine SCl.of call_len_seq ⟨_, _, rfl, .inr (.inl (.inl (sat.ex _ _ hs))), ?_⟩
      rw [ha.length]
      exact k _ G H (Ex.refl G) sat (.int _)
theorem cv_sum (hc : X.calm = true) {ns : List Int} : CallV X (.builtin "sum") [.list (ns.map PyData.int)] (.int ns.sum) := fun G H M vs sat h Q k => by
  cases h with
  | cons a b =>
    cases b
    cases a with
    | lst hs ha =>
      rw [ha.ints] at hs
      exact SCl.of (cr_sum hc) ⟨_, ns, rfl, .inl (.inl (sat.ex _ _ hs)), k _ G H (Ex.refl G) sat (.int _)⟩
theorem cv_maxL (hc : X.calm = true) {ns : List Int} {m : Int} (hm : m ∈ ns) (hle : ∀ y ∈ ns, y ≤ m) : CallV X (.builtin "max") [.list (ns.map PyData.int)] (.int m) := fun G H M vs sat h Q k => by
  cases h with
  | cons a b =>
    cases b
    cases a with
    | lst hs ha =>
      rw [ha.ints] at hs
      refine SCl.of (cr_max hc) ⟨_, ns, rfl, .inl (.inl (sat.ex _ _ hs)), List.length_pos_of_mem hm, fun m' h1 h2 => ?_⟩
      have e : m' = m := Int.le_antisymm (hle m' h1) (h2 m hm)
      rw [e]
      exact k _ G H (Ex.refl G) sat (.int _)
theorem cv_all (hc : X.calm = true) {bs : List Bool} : CallV X (.builtin "all") [.list (bs.map PyData.bool)] (.bool (bs.all id)) := fun G H M vs sat h Q k => by
  cases h with
  | cons a b =>
    cases b
    cases a with
    | lst hs ha =>
      rw [ha.bools] at hs
      exact SCl.of (cr_all hc) ⟨_, bs, rfl, .inl (.inl (sat.ex _ _ hs)), k _ G H (Ex.refl G) sat (.bl _)⟩
theorem cv_tupL {ds : List PyData} : CallV X (.type "tuple") [.list ds] (.tuple ds) := fun G H M vs sat h Q k => by
  cases h with
  | cons a b =>
    cases b
    cases a with
    | lst hs ha =>
      refine SCl.of call_tuple_of ⟨_, _, rfl, .inl ⟨.inl (.inl (sat.ex _ _ hs)), fun p hp => ?_⟩⟩
      have f := (sat.fresh hp).1
      exact k _ _ _ (Ex.new f) (sat.new hp) (.tup upd_same (rps_ex (Ex.new f) _ _ ha))
theorem cv_lstL {ds : List PyData} : CallV X (.type "list") [.list ds] (.list ds) := fun G H M vs sat h Q k => by
  cases h with
  | cons a b =>
    cases b
    cases a with
    | lst hs ha =>
      refine SCl.of call_list_of ⟨_, _, rfl, .inl (.inl (.inl (sat.ex _ _ hs))), fun p hp => ?_⟩
      have f := (sat.fresh hp).1
      exact k _ _ _ (Ex.new f) (sat.new hp) (.lst upd_same (rps_ex (Ex.new f) _ _ ha))
/-- list(xs) of a list that changes, at a name: new data -/
theorem ev_lstM' {i : Nat} {x : Str} {p p2 : Pos} {a : Addr} {ds : List PyData} (hg : Gl X "list") (hm : X.mg "list" = none) (hN : X.N[i]? = some x) (hv : Vis X.env.scope x) (h : δ[i]? = some (some (.m a))) (hM : M a = some (.lst ds))
    (he : starEach [.Name x p2] X.env = (false, eval (.Name x p2) X.env) :: starEach [] X.env) (q : Ψ (.d (.list ds)) M) (hd : (x == ("__debug__" : Str)) = false := by decide) (hcd : (x == ("__classdict__" : Str)) = false := by decide) : EV X (.Call (.Name "list" p) [.Name x p2] [] pos) δ M Ψ :=
  fun σ G H sd sat Q k => SE.of (pe_callTy call_list_of hg hm (by decide +kernel) (pa_cons (pe_var hN hv hd hcd) pa_nil he) (he := he) (hpl := rfl)) (by
    obtain ⟨v, ev, rv⟩ := sd.at_ i _ h
    obtain ⟨g, o, eo, vs, rfl, ra⟩ := sat.mu a _ hM
    refine ⟨v, ev, a, vs, by rw [show v = V.ref a from rv], .inl (.inl (.inl eo)), fun p hp => ?_⟩
    have f := (sat.fresh hp).1
    exact k _ _ M _ _ q (Ex.new f) (sat.new hp) (.lst upd_same (rps_ex (Ex.new f) _ _ ra)))
/-- len(xs) of a list that changes, at a name -/
theorem ev_lenM {i : Nat} {x : Str} {p p2 : Pos} {a : Addr} {ds : List PyData} (hg : Gl X "len") (hm : X.mg "len" = none) (hN : X.N[i]? = some x) (hv : Vis X.env.scope x) (h : δ[i]? = some (some (.m a))) (hM : M a = some (.lst ds) ∨ M a = some (.scr ds))
    (he : starEach [.Name x p2] X.env = (false, eval (.Name x p2) X.env) :: starEach [] X.env) (q : Ψ (.d (.int (ds.length : Int))) M) (hd : (x == ("__debug__" : Str)) = false := by decide) (hcd : (x == ("__classdict__" : Str)) = false := by decide) : EV X (.Call (.Name "len" p) [.Name x p2] [] pos) δ M Ψ :=
  fun σ G H sd sat Q k => SE.of (pe_callB call_len_seq hg hm PySem.boot_len (pa_cons (pe_var hN hv hd hcd) pa_nil he) (he := he) (hpl := rfl)) (by
    obtain ⟨v, ev, rv⟩ := sd.at_ i _ h
    rcases hM with hM | hM
    · obtain ⟨g, o, eo, vs, rfl, ra⟩ := sat.mu a _ hM
      refine ⟨v, ev, a, vs, by rw [show v = V.ref a from rv], .inl (.inl (.inl eo)), ?_⟩
      rw [ra.length]
      exact k _ _ M _ _ q (Ex.refl G) sat (.int _)
    · obtain ⟨g, o, eo, ob, vs, rfl, ra⟩ := sat.mu a _ hM
      refine ⟨v, ev, a, vs, by rw [show v = V.ref a from rv], .inl (.inl (.inr ⟨ob, eo⟩)), ?_⟩
      rw [ra.length]
      exact k _ _ M _ _ q (Ex.refl G) sat (.int _))

/-! ### isinstance -/
def tyD : PyData → String
  | .none => "NoneType"
  | .bool _ => "bool"
  | .int _ => "int"
  | .str _ => "str"
  | .list _ => "list"
  | .tuple _ => "tuple"
  | .dict _ => "dict"
theorem rp_ty {G H : Hp} {K : PySem.W.Frag} (e : Ex G H) : ∀ {d : PyData} {v : V}, Rp G v d → TyX K H v (.type (tyD d))
  | .none, _, h => by cases h; exact .base .non
  | .bool b, _, h => by cases h; exact .base (.bl b)
  | .int i, _, h => by cases h; exact .base (.int i)
  | .str x, _, h => by cases h; exact .base (.str x)
  | .list ds, _, h => by
    cases h with
    | lst hs ha => exact .base (.lst (e _ _ hs))
  | .tuple ds, _, h => by
    cases h with
    | tup hs ha => exact .base (.tup (e _ _ hs))
  | .dict _, _, h => by cases h
theorem ee_isi {e : Expr} {p p2 : Pos} {T : Str} {t : String} {d : PyData} {b : Bool} (hg : Gl X "isinstance") (hm : X.mg "isinstance" = none) (hgT : Gl X T) (hmT : X.mg T = none) (hvT : bootBuiltins T = some (.type t)) (hk : kitB (tyD d) t = some b)
    (he : starEach [e, .Name T p2] X.env = (false, eval e X.env) :: starEach [.Name T p2] X.env) (he2 : starEach [.Name T p2] X.env = (false, eval (.Name T p2) X.env) :: starEach [] X.env) (hpl : (backTo pos (starEach [.Name T p2] X.env)).any (·.1) = false) (h : EE X e δ d)
    (hnT : T ≠ "__name__" := by decide) (hdT : (T == ("__debug__" : Str)) = false := by decide) : EE X (.Call (.Name "isinstance" p) [e, .Name T p2] [] pos) δ (.bool b) :=
  fun M Ψ q σ G H sd sat Q k => SE.of (pe_callB call_isi hg hm (by decide +kernel) (pa_cons pe_SE (pa_cons (pe_bltn (v := .ty t) hgT hmT hvT rfl hnT hdT) pa_nil he2) he) (he := he) (hpl := hpl)) (h M (fun x M1 => x = .d d ∧ M1 = M) ⟨rfl, rfl⟩ σ G H sd sat _ fun v x M1 G1 H1 hx e1 sat1 r1 => by
    obtain ⟨rfl, rfl⟩ := hx
    exact ⟨v, .ty t, _, _, b, rfl, .ty t, rp_ty sat1.ex r1, kit_ty hk, k _ _ M1 G1 H1 q e1 sat1 (.bl b)⟩)

/-! ### calls of defs -/
/-- the def's promise, by data -/
structure FnD (P : Program) (w : World) (K : PySem.W.Frag) (mg : Str → Option Value) (base : Heap) (k : Nat) (x : Str) (ps : List Str) (f : DS) : Prop where
  ok : ∃ (a : Addr) (fd : FuncData), FnOk P w K mg base CX0 k a fd ps (spD f) ∧ mg x = some (.ref a) ∧ PySem.W.keepIn K (.ref a) = true ∧ Binds K fd ps []
theorem ev_call {x : Str} {p : Pos} {e : Expr} {es : List Expr} {k : Nat} {ps : List Str} {f : DS} (F : FnD X.prog X.w X.K X.mg X.base k x ps f) (hr : Room k X.A) (hg : Gl X x) (he : starEach (e :: es) X.env = (false, eval e X.env) :: starEach es X.env) (hpl : (backTo pos (starEach es X.env)).any (·.1) = false)
    (h : AV X (e :: es) δ M fun xs M1 => f xs M1 Ψ) (hmo : ∀ xs M1 (Φ Φ' : S → Mu → Prop), f xs M1 Φ → (∀ x M2, Φ x M2 → Φ' x M2) → f xs M1 Φ') (hdb : (x == ("__debug__" : Str)) = false := by decide) : EV X (.Call (.Name x p) (e :: es) [] pos) δ M Ψ :=
  fun σ G H sd sat Q k' => by
    obtain ⟨a, fd, fo, hm, hk, hb⟩ := F.ok
    refine SE.of (pe_call fo hr hg hm hk hb .nil pass0 pa_SA hdb he hpl) (h σ G H sd sat _ fun vs xs M1 G1 H1 q e1 sat1 r1 => ?_)
    show spD f (vs ++ []) H1 Q E0
    rw [List.append_nil]
    exact ⟨G1, M1, xs, r1, sat1, hmo _ _ _ _ q fun y M2 q2 v G2 H2 e2 sat2 r2 => k' v y M2 G2 H2 q2 (e1.trans e2) sat2 r2⟩
/-- a def that changes nothing: its worth by its arguments -/
def pureD (pre : List S → PyData → Prop) : DS := fun xs M Φ => ∃ r, pre xs r ∧ Φ (.d r) M
theorem pureD_mono (pre : List S → PyData → Prop) : ∀ xs M1 (Φ Φ' : S → Mu → Prop), pureD pre xs M1 Φ → (∀ x M2, Φ x M2 → Φ' x M2) → pureD pre xs M1 Φ' := fun xs M1 Φ Φ' ⟨r, a, b⟩ h => ⟨r, a, h _ _ b⟩
theorem ee_call {x : Str} {p : Pos} {e : Expr} {es : List Expr} {k : Nat} {ps : List Str} {pre : List S → PyData → Prop} {xs : List S} {r : PyData} (F : FnD X.prog X.w X.K X.mg X.base k x ps (pureD pre)) (hr : Room k X.A) (hg : Gl X x) (he : starEach (e :: es) X.env = (false, eval e X.env) :: starEach es X.env)
    (hpl : (backTo pos (starEach es X.env)).any (·.1) = false) (ha : EA X (e :: es) δ xs) (h : pre xs r) (hdb : (x == ("__debug__" : Str)) = false := by decide) : EE X (.Call (.Name x p) (e :: es) [] pos) δ r :=
  fun M Ψ q => ev_call F hr hg he hpl (ha M _ ⟨r, h, q⟩) (pureD_mono pre) hdb
end
end DL
/-! enumerate of a tuple, with a start or none: what a for or a comprehension walks. -/
namespace DL
open PySem PySem.Spec PyProof.Rows L2
/-- a tuple's items, each in a new pair with its count, from c on -/
def ItU (a : Addr) (c : Int) : It :=
  ⟨fun i H => ∃ (xs : List V) (x : V), H a = some (.tup xs) ∧ xs[i]? = some x,
   fun i H v H' => ∃ T x, v = .ref T ∧ H T = none ∧ H' = upd H T (.tup [.int (c + (i : Int)), x]) ∧ ∀ xs, H a = some (.tup xs) → xs[i]? = some x,
   fun i H => ∃ xs : List V, H a = some (.tup xs) ∧ xs.length ≤ i⟩
theorem turn_enumU {P : Program} {w : World} {K : PySem.W.Frag} {elts : List Expr} {kk : Nat} {tpos : Pos} (a e it : Addr) (c : Int) :
    Turn P w K (.Tuple elts kk tpos) (ItU a c) [e, it] e (fun i h => (∃ old, IsEnum h e it (c + (i : Int)) old) ∧ h.IsTupleIter it a i ∧ e ≠ it) := by
  have two : ∀ {b : Addr}, b ∈ [e, it] → b = e ∨ b = it := fun hb => by simpa using hb
  refine ⟨by simp, fun i h st b hb => ?_, fun i h h' st k => ?_, ?_, ?_, fun A i s Q E st h => ?_⟩
  · obtain ⟨⟨old, he⟩, ⟨o, ho, hc, hd⟩, _⟩ := st
    rcases two hb with z | z <;> rw [z]
    · exact ⟨_, he, fun v q => nomatch q⟩
    · exact ⟨o, ho, fun v q => by rw [hd] at q; cases q⟩
  · obtain ⟨⟨old, he⟩, hi, hne⟩ := st
    exact ⟨⟨old, k e (by simp) _ he⟩, hi.at fun o q => k it (by simp) o q, hne⟩
  · intro X hP hw hK hc i pins s σ H E I hf st hg
    subst hP hw hK
    obtain ⟨⟨old, he⟩, hit, hne⟩ := st
    obtain ⟨xs, x, hq, hx⟩ := hg
    obtain ⟨_, its, rv, pt⟩ := (show ObjOk X.prog X.w H s.heap a (.tup xs) from I.hok a _ hq)
    obtain ⟨u, hu, ru⟩ := rv.get hx
    have hae : a ≠ e := ne_of_none hq (hf e (by simp)).1
    have hai : a ≠ it := ne_of_none hq (hf it (by simp)).1
    have hel : e < s.heap.objs.size := Heap.lt_size he
    have hil : it < s.heap.objs.size := by obtain ⟨_, q, _⟩ := hit; exact Heap.lt_size q
    have hlt : i < its.toArray.size := by
      have := (List.getElem?_eq_some_iff.mp hu).1
      simpa using this
    have hh : X.A.in1.handled = none := I.ok.hd hc
    refine wpAny_pyNext_enum_itemC (Draws.tuple hh it a hai its.toArray) he ⟨hit, (show s.heap.IsTuple a its.toArray from pt)⟩ hlt hne (by simp [Ne.symm hae, hne]) fun y h1 tk hy ho hst hT hsz hk => ?_
    have ey : y = u := by
      have e1 : its.toArray[i]? = some u := by simpa using hu
      exact Option.some.inj ((show its.toArray[i]? = some y from hy).symm.trans e1)
    subst ey
    refine ⟨_, rfl, wpAny_letOwnedTupleGo_enum (s := { s with heap := h1, toks := tk + 1 }) ho fun h2 he2 sb => ?_⟩
    have hT2 := (sb.2 _ (Nat.ne_of_gt hel)).trans hT
    have new : ObjOk X.prog X.w (upd H s.heap.objs.size (.tup [.int (c + (i : Int)), x])) h2 s.heap.objs.size (.tup [.int (c + (i : Int)), x]) :=
      ⟨(show (2 : Nat) ≤ sizeLine by decide), [.int (c + (i : Int)) tk, y], .cons ⟨_, rfl⟩ (.cons ru .nil), ⟨_, hT2, rfl, _, rfl⟩⟩
    have J := I.turnedNew (t' := tk + 1) (h' := h2) (ch := [e, it]) (fun b ob hb q => (sb.2 b (fun z => hb (by simp [z]))).trans (hk b ob (fun z => hb (by simp [z])) (fun z => hb (by simp [z])) q)) hf (Nat.le_refl _) new
    refine ⟨.ref s.heap.objs.size, _, J, rfl, ⟨_, x, rfl, I.hok.fresh (Nat.le_refl _), rfl, fun ys hy' => ?_⟩, ⟨⟨y, ?_⟩, hst.1.at fun o q => (sb.2 it (Ne.symm hne)).trans q, hne⟩, fun b hb => ?_⟩
    · rw [hq] at hy'
      cases hy'
      exact hx
    · have e1 : c + ((i + 1 : Nat) : Int) = c + (i : Int) + 1 := by omega
      rw [e1]; exact he2
    · have hb' : b < s.heap.objs.size := by rcases two hb with z | z <;> rw [z] <;> assumption
      rw [upd_ne (Nat.ne_of_lt hb')]
      exact (hf b hb).1
  · intro X hP hw hK hc i pins s σ H E I hf st hg
    subst hP hw hK
    obtain ⟨⟨old, he⟩, hit, hne⟩ := st
    obtain ⟨xs, hq, hx⟩ := hg
    obtain ⟨_, its, rv, pt⟩ := (show ObjOk X.prog X.w H s.heap a (.tup xs) from I.hok a _ hq)
    obtain ⟨f0, f1, f2, f3, f4, f5⟩ := hf it (by simp)
    have hai : a ≠ it := ne_of_none hq f0
    have hh : X.A.in1.handled = none := I.ok.hd hc
    have hl := rv.length
    -- the iterator may stand behind the end: then it is at its end as well
    refine wpAny_pyNext_enum_endD (n := i) (P := fun _ _ => True) (St := fun j h => j = i ∧ h.IsTupleIter it a i ∧ h.IsTuple a its.toArray) (fp := [it, a]) ⟨fun j h st => ?_, fun j h h' st k => ?_, fun j s Q E hj st => ?_, fun s Q E st hE => ?_⟩ he ⟨rfl, hit, pt⟩ fun h' eb => ⟨rfl, I.turned (t' := s.toks) (fun b o hb q => eb b o hb q) f0 f1 f3 f4 f5⟩
    · obtain ⟨_, ⟨o, ho, _⟩, _⟩ := st; exact ⟨o, ho⟩
    · exact ⟨st.1, st.2.1.at fun o q => k it (by simp) o q, st.2.2.at fun o q => k a (by simp) o q⟩
    · omega
    · exact wpAny_nextOf_tuple_end hh st.2.1 st.2.2 (by simp; omega) hE
  · obtain ⟨⟨_, he⟩, _⟩ := st
    exact wpAny_pyIter_enum he h
set_option maxHeartbeats 1000000 in
/-- enumerate(v), v any that begins so -/
theorem enum_new1 {v : Value} {o : Obj} {Hs : Heap → Prop} (B : Begins v o Hs) :
    Meets (Builtin.«enumerate.__new__» ⟨[.type "enumerate", v], []⟩) (fun _ R s => Hs s.heap ∧
      R (.ok (.ret (.ref (s.heap.push o).objs.size))) { s with heap := (s.heap.push o).push { cls := .type "enumerate", data := .fields #[.none, .bool false, .ref s.heap.objs.size, rawInt 0, .none, .none] } }) :=
  .of_wp fun prog w A R s h => by
    obtain ⟨hp, g, d, tk, os⟩ := s
    obtain ⟨h1, h⟩ := h
    have hsub := sub_enumerate
    have q1 : ∀ {A' : Around} {E Q : Value → Shared → Prop}, Q (.ref hp.objs.size) ⟨hp.push o, g, d, tk, os⟩ → wpAny (model prog w) A' (pyIter v) Q E ⟨hp, g, d, tk, os⟩ := fun q => B.iter prog w _ _ ⟨hp, g, d, tk, os⟩ _ h1 q
    wp_walk using q1
    refine wpAny_stack_any fun st => wpAny_pure ?_
    split
    · rename_i cc _ _ _ _ _
      cases (cc == Value.type "enumerate") <;> (wp_walk using q1; exact ⟨_, rfl, h⟩)
    · wp_walk using q1
      exact ⟨_, rfl, h⟩
/-- enumerate(v): its two new cells -/
theorem enum_call1 {prog : Program} {w : World} {A : Around} {E : Value → Shared → Prop} {s : Shared} {v : Value} {o : Obj} {Hs : Heap → Prop} {Q : Value → Shared → Prop} (B : Begins v o Hs) (h1 : Hs s.heap)
    (h : ∀ h', IsEnum h' (s.heap.objs.size + 1) s.heap.objs.size 0 .none → h'.get? s.heap.objs.size = some o → (∀ b u, s.heap.get? b = some u → h'.get? b = some u) → Q (.ref (s.heap.objs.size + 1)) { s with heap := h' }) :
    wpAny (model prog w) A (call (.type "enumerate") [v]) Q E s := by
  have hz : (s.heap.push o).objs.size = s.heap.objs.size + 1 := Heap.size_push ..
  have he : IsEnum ((s.heap.push o).push { cls := .type "enumerate", data := .fields #[.none, .bool false, .ref s.heap.objs.size, rawInt 0, .none, .none] }) (s.heap.objs.size + 1) s.heap.objs.size 0 .none := by
    rw [← hz]
    exact Heap.get?_push_size (s.heap.push o) rfl
  refine callType_new F.called_enumerate (by decide) (F.typeCall_enumerate_1 _) (F.newCall_enumerate_1 _) (fun ob => F.args_object_init_2 ob _) F.entry_enumerate_new (enum_new1 B) ⟨h1, ?_⟩
  rw [hz]
  exact ⟨⟨_, he, rfl⟩, h _ he (Heap.get?_push_of_some _ (Heap.get?_push_size _ B.free)) fun b u x => Heap.get?_push_of_some _ (Heap.get?_push_of_some _ x)⟩
def iEnU (c : Option Int) (ta : TA) : TI := fun σ H R => ta σ H fun vs H1 => ∃ a xs, vs = V.ref a :: (match c with | some k => [V.int k] | none => []) ∧ H1 a = some (.tup xs) ∧ R (ItU a (c.getD 0)) H1
theorem enum_it {X : Cx} {pins : List (Addr × Obj)} {σ : L2.St} {H1 : Hp} {s1 : Shared} {h' : Heap} {elts : List Expr} {kk : Nat} {tpos : Pos} {R : It → Hp → Prop} {a : Addr} {c : Int} (I1 : Inv X pins σ H1 s1) (he : IsEnum h' (s1.heap.objs.size + 1) s1.heap.objs.size c .none)
    (hit : h'.get? s1.heap.objs.size = some { cls := .type "tuple_iterator", data := .fields #[.ref a, .int 0 0] }) (hk : ∀ b u, s1.heap.get? b = some u → h'.get? b = some u) (q : R (ItU a c) H1) :
    wpAny (model X.prog X.w) X.A (pyIter (.ref (s1.heap.objs.size + 1))) (PIE X pins σ (.Tuple elts kk tpos) R) X.xe { s1 with heap := h' } := by
  refine wpAny_pyIter_enum he ?_
  refine ⟨s1.heap.objs.size + 1, [s1.heap.objs.size + 1, s1.heap.objs.size], _, _, H1, rfl, I1.kept (t' := s1.toks) hk, turn_enumU a (s1.heap.objs.size + 1) s1.heap.objs.size c, ⟨⟨.none, ?_⟩, ⟨_, hit, rfl, rfl⟩, Nat.succ_ne_self _⟩, fun b hb => ?_, q⟩
  · have e0 : c + ((0 : Nat) : Int) = c := by omega
    rw [e0]; exact he
  · have hle : s1.heap.objs.size ≤ b := by
      have e' : b = s1.heap.objs.size + 1 ∨ b = s1.heap.objs.size := by simpa using hb
      rcases e' with z | z <;> rw [z]
      · exact Nat.le_succ _
      · exact Nat.le_refl _
    exact I1.fpOk hle (I1.hok.fresh hle)
theorem pi_enumU {X : Cx} {e : Expr} {ta : TA} {p pos tpos : Pos} {elts : List Expr} {kk : Nat} (hg : Gl X "enumerate") (hm : X.mg "enumerate" = none) (ha : PA X [e] ta) (hs : starEach [e] X.env = [(false, eval e X.env)]) :
    PI X (.Tuple elts kk tpos) (.Call (.Name "enumerate" p) [e] [] pos) (iEnU none ta) := ⟨fun pins s σ H R I h =>
  Call_ (ld_blt I hg hm boot_enumerate (PyProof.Rows.callWith_type1 (thn (ha.run pos pins s σ H _ I h) fun us s1 ⟨vs, H1, I1, r1, a, xs, ex, hq, q⟩ => by
    subst ex
    cases r1 with
    | cons r rr =>
      cases rr
      cases r
      obtain ⟨_, its, rv, pt⟩ := (show ObjOk X.prog X.w H1 s1.heap a (.tup xs) from I1.hok a _ hq)
      exact enum_call1 (begins_tuple a its.toArray) (show s1.heap.IsTuple a its.toArray from pt) fun h' he hit hk => enum_it I1 he hit hk q) hs rfl))⟩
theorem pi_enumV {X : Cx} {e e2 : Expr} {ta : TA} {p pos tpos : Pos} {elts : List Expr} {kk : Nat} {c : Int} (hc0 : 0 ≤ c) (hc1 : c < 1000) (hg : Gl X "enumerate") (hm : X.mg "enumerate" = none) (ha : PA X [e, e2] ta) (hs : starEach [e, e2] X.env = (false, eval e X.env) :: starEach [e2] X.env)
    (hpl : (backTo pos (starEach [e2] X.env)).any (·.1) = false) : PI X (.Tuple elts kk tpos) (.Call (.Name "enumerate" p) [e, e2] [] pos) (iEnU (some c) ta) := ⟨fun pins s σ H R I h =>
  Call_ (ld_blt I hg hm boot_enumerate (PyProof.Rows.callWith_type1 (thn (ha.run pos pins s σ H _ I h) fun us s1 ⟨vs, H1, I1, r1, a, xs, ex, hq, q⟩ => by
    subst ex
    cases r1 with
    | cons r rr =>
      cases rr with
      | cons r' rr =>
        cases rr
        cases r
        obtain ⟨t, rfl⟩ := r'
        obtain ⟨_, its, rv, pt⟩ := (show ObjOk X.prog X.w H1 s1.heap a (.tup xs) from I1.hok a _ hq)
        exact enum_begins (begins_tuple a its.toArray) (show s1.heap.IsTuple a its.toArray from pt) (by omega) (by omega) fun h' he hit _ hk => enum_it I1 he hit hk q) hs hpl))⟩
end DL
/-! Rules of the layer: what is walked, comprehensions, statements. -/
namespace DL
open PySem PySem.Spec PyProof.Rows L2
def SI (X : Cx) (tg iter : Expr) : TI := fun σ H R => ∀ (pins : List (Addr × Obj)) (s : Shared), Inv X pins σ H s →
  wpAny (model X.prog X.w) X.A (eval iter X.env) (fun v s1 => wpAny (model X.prog X.w) X.A (pyIter v) (PIE X pins σ tg R) X.xe s1) X.xe s
theorem pi_SI {X : Cx} {tg iter : Expr} : PI X tg iter (SI X tg iter) := ⟨fun pins s _ _ _ I h => h pins s I⟩
theorem SI.of {X : Cx} {tg iter : Expr} {wi : TI} {σ : L2.St} {H : Hp} {R : It → Hp → Prop} (h : PI X tg iter wi) (q : wi σ H R) : SI X tg iter σ H R := fun pins s I => h.run pins s σ H R I q
def STg (X : Cx) (tg : Expr) : TG := fun v σ H Q => ∀ (pins : List (Addr × Obj)) (s : Shared) (u : Value), Inv X pins σ H s → RelV v u →
  wpAny (model X.prog X.w) X.A (assign tg X.env u) (fun _ s' => ∃ σ' H', Inv X pins σ' H' s' ∧ Q σ' H') X.xe s
theorem pg_STg {X : Cx} {tg : Expr} : PG X tg (STg X tg) := ⟨fun pins s _ _ _ u _ I r h => h pins s u I r⟩
theorem STg.of {X : Cx} {tg : Expr} {g : TG} {v : V} {σ : L2.St} {H : Hp} {Q : L2.St → Hp → Prop} (h : PG X tg g) (q : g v σ H Q) : STg X tg v σ H Q := fun pins s u I r => h.run pins s σ H v u Q I r q
/-- an iterator that gives these data, one after another -/
def Walks (J : It) (ds : List PyData) (G1 : Hp) : Prop := ∀ (i : Nat) (G H : Hp) (M : Mu), Ex G1 G → Sat G M H →
  (∀ d, ds[i]? = some d → J.go i H ∧ ∀ x H', J.yld i H x H' → ∃ G', Ex G G' ∧ Sat G' M H' ∧ Rp G' x d) ∧ (ds.length ≤ i → J.stop i H)
def IV (X : Cx) (tg iter : Expr) (δ : En) (ds : List PyData) : Prop := ∀ (σ : L2.St) (G H : Hp) (M : Mu), SD G σ δ → Sat G M H → ∀ R : It → Hp → Prop, (∀ J G1 H1, Ex G G1 → Sat G1 M H1 → Walks J ds G1 → R J H1) → SI X tg iter σ H R
section
variable {X : Cx} {δ : En} {M : Mu} {pos : Pos} {tg : Expr}
theorem iv_list {e : Expr} {ds : List PyData} (h : EE X e δ (.list ds)) : IV X tg e δ ds := fun σ G H M sd sat R k => SI.of (pi_list pe_SE) (h M (fun x M1 => x = .d (.list ds) ∧ M1 = M) ⟨rfl, rfl⟩ σ G H sd sat _ fun v x M1 G1 H1 hx e1 sat1 r1 => by
  obtain ⟨rfl, rfl⟩ := hx
  cases r1 with
  | lst hs ha =>
    rename_i a vs
    refine ⟨a, rfl, ⟨_, .inl (.inl (sat1.ex _ _ hs))⟩, k _ G1 H1 e1 sat1 fun i G2 H2 M2 e2 sat2 => ⟨fun d hd => ?_, fun hl => ?_⟩⟩
    · obtain ⟨u, hu, ru⟩ := ha.get hd
      have hs2 : SqL X.K H2 a vs := .inl (.inl (sat2.ex _ _ (e2 _ _ hs)))
      refine ⟨⟨_, u, hs2, hu⟩, fun x H3 y => ?_⟩
      obtain ⟨rfl, y⟩ := y
      have e := y _ hs2
      rw [hu] at e
      cases e
      exact ⟨G2, Ex.refl _, sat2, rp_ex e2 _ _ ru⟩
    · exact ⟨vs, .inl (.inl (sat2.ex _ _ (e2 _ _ hs))), by rw [ha.length]; exact hl⟩)
theorem iv_tup {e : Expr} {ds : List PyData} (h : EE X e δ (.tuple ds)) : IV X tg e δ ds := fun σ G H M sd sat R k => SI.of (pi_tup pe_SE) (h M (fun x M1 => x = .d (.tuple ds) ∧ M1 = M) ⟨rfl, rfl⟩ σ G H sd sat _ fun v x M1 G1 H1 hx e1 sat1 r1 => by
  obtain ⟨rfl, rfl⟩ := hx
  cases r1 with
  | tup hs ha =>
    rename_i a vs
    refine ⟨a, rfl, ⟨_, .inl (.inl (sat1.ex _ _ hs))⟩, k _ G1 H1 e1 sat1 fun i G2 H2 M2 e2 sat2 => ⟨fun d hd => ?_, fun hl => ?_⟩⟩
    · obtain ⟨u, hu, ru⟩ := ha.get hd
      have hs2 : SqT X.K H2 a vs := .inl (.inl (sat2.ex _ _ (e2 _ _ hs)))
      refine ⟨⟨_, u, hs2, hu⟩, fun x H3 y => ?_⟩
      obtain ⟨rfl, y⟩ := y
      have e := y _ hs2
      rw [hu] at e
      cases e
      exact ⟨G2, Ex.refl _, sat2, rp_ex e2 _ _ ru⟩
    · exact ⟨vs, .inl (.inl (sat2.ex _ _ (e2 _ _ hs))), by rw [ha.length]; exact hl⟩)
/-- the ints lo, lo + 1, .. -/
def rangeD (lo : Int) (n : Nat) : List PyData := (List.range n).map fun i : Nat => .int (lo + (i : Int))
theorem walks_range {lo : Int} {n : Nat} {G1 : Hp} : Walks (Itr lo n) (rangeD lo n) G1 := by
  intro i G H M e sat
  refine ⟨fun d hd => ?_, fun hl => ?_⟩
  · unfold rangeD at hd
    rw [List.getElem?_map] at hd
    by_cases hi : i < n
    · rw [List.getElem?_range hi] at hd
      cases hd
      refine ⟨hi, fun x H' y => ?_⟩
      obtain ⟨rfl, rfl⟩ := y
      exact ⟨G, Ex.refl _, sat, .int _⟩
    · rw [List.getElem?_eq_none (by rw [List.length_range]; omega)] at hd
      cases hd
  · unfold rangeD at hl
    rw [List.length_map, List.length_range] at hl
    exact hl
theorem iv_range {a : Expr} {p : Pos} {n : Nat} (hg : Gl X "range") (hm : X.mg "range" = none) (hs : starEach [a] X.env = [(false, eval a X.env)]) (h : EE X a δ (.int (n : Int))) (hn : n ≤ 100000) : IV X tg (.Call (.Name "range" p) [a] [] pos) δ (rangeD 0 n) :=
  fun σ G H M sd sat R k => SI.of (pi_range1 hg hm (pa_cons pe_SE pa_nil hs) hs) (h M (fun x M1 => x = .d (.int (n : Int)) ∧ M1 = M) ⟨rfl, rfl⟩ σ G H sd sat _ fun v x M1 G1 H1 hx e1 sat1 r1 => by
    obtain ⟨rfl, rfl⟩ := hx
    cases r1
    exact ⟨(n : Int), rfl, by omega, by omega, k _ G1 H1 e1 sat1 (by rw [Int.toNat_natCast]; exact walks_range)⟩)
theorem iv_range2 {a b : Expr} {p : Pos} {lo : Int} {n : Nat} (hg : Gl X "range") (hm : X.mg "range" = none) (hs : starEach [a, b] X.env = [(false, eval a X.env), (false, eval b X.env)]) (hs2 : starEach [b] X.env = [(false, eval b X.env)]) (ha : EE X a δ (.int lo)) (hb : EE X b δ (.int (lo + (n : Int)))) (h0 : 0 ≤ lo ∧ lo ≤ 100000) (hn : n ≤ 100000) :
    IV X tg (.Call (.Name "range" p) [a, b] [] pos) δ (rangeD lo n) :=
  fun σ G H M sd sat R k => SI.of (pi_range2 hg hm (pa_cons pe_SE (pa_cons pe_SE pa_nil hs2) (by rw [hs, hs2])) hs hs2) (ha M (fun x M1 => x = .d (.int lo) ∧ M1 = M) ⟨rfl, rfl⟩ σ G H sd sat _ fun v x M1 G1 H1 hx e1 sat1 r1 => by
    obtain ⟨rfl, rfl⟩ := hx
    cases r1
    refine hb M1 (fun x M2 => x = .d (.int (lo + (n : Int))) ∧ M2 = M1) ⟨rfl, rfl⟩ σ G1 H1 (sd.mono e1) sat1 _ fun u y M2 G2 H2 hy e2 sat2 r2 => ?_
    obtain ⟨rfl, rfl⟩ := hy
    cases r2
    refine ⟨lo, lo + (n : Int), rfl, by omega, k _ G2 H2 (e1.trans e2) sat2 ?_⟩
    have e : (lo + (n : Int) - lo).toNat = n := by omega
    rw [e]; exact walks_range)
/-- pairs of a list's places and items -/
theorem iv_enumL {e : Expr} {p tpos : Pos} {elts : List Expr} {kk : Nat} {ds : List PyData} (hg : Gl X "enumerate") (hm : X.mg "enumerate" = none) (hs : starEach [e] X.env = [(false, eval e X.env)]) (h : EE X e δ (.list ds)) :
    IV X (.Tuple elts kk tpos) (.Call (.Name "enumerate" p) [e] [] pos) δ (ds.zipIdx.map fun q => .tuple [.int (q.2 : Int), q.1]) :=
  fun σ G H M sd sat R k => SI.of (pi_enum hg hm (pa_cons pe_SE pa_nil hs) hs) (h M (fun x M1 => x = .d (.list ds) ∧ M1 = M) ⟨rfl, rfl⟩ σ G H sd sat _ fun v x M1 G1 H1 hx e1 sat1 r1 => by
    obtain ⟨rfl, rfl⟩ := hx
    cases r1 with
    | lst hs1 ha =>
      rename_i a vs
      refine ⟨a, vs, rfl, .inl (.inl (sat1.ex _ _ hs1)), k _ G1 H1 e1 sat1 fun i G2 H2 M2 e2 sat2 => ⟨fun d hd => ?_, fun hl => ?_⟩⟩
      · rw [List.getElem?_map, List.getElem?_zipIdx] at hd
        obtain ⟨d0, hd0, rfl⟩ : ∃ d0, ds[i]? = some d0 ∧ d = .tuple [.int (i : Int), d0] := by
          cases q : ds[i]? with
          | none => rw [q] at hd; cases hd
          | some d0 => rw [q] at hd; simp at hd; exact ⟨d0, rfl, hd.symm⟩
        obtain ⟨u, hu, ru⟩ := ha.get hd0
        have hs2 : SqL X.K H2 a vs := .inl (.inl (sat2.ex _ _ (e2 _ _ hs1)))
        refine ⟨⟨_, u, hs2, hu⟩, fun x H3 y => ?_⟩
        obtain ⟨T, z, rfl, hT, rfl, y⟩ := y
        have e := y _ hs2
        rw [hu] at e
        cases e
        have f := (sat2.fresh hT).1
        exact ⟨_, Ex.new f, sat2.new hT, .tup upd_same (.cons (.int _) (.cons (rp_ex (e2.trans (Ex.new f)) _ _ ru) .nil))⟩
      · rw [List.length_map, List.length_zipIdx] at hl
        exact ⟨vs, .inl (.inl (sat2.ex _ _ (e2 _ _ hs1))), by rw [ha.length]; exact hl⟩)
theorem walks_enumU {a : Addr} {c : Int} {vs : List V} {ds : List PyData} {G1 : Hp} (hs1 : G1 a = some (.tup vs)) (ha : RpA G1 vs ds) : Walks (ItU a c) (ds.zipIdx.map fun q => .tuple [.int (c + (q.2 : Int)), q.1]) G1 := fun i G2 H2 M2 e2 sat2 => ⟨fun d hd => by
  rw [List.getElem?_map, List.getElem?_zipIdx] at hd
  obtain ⟨d0, hd0, rfl⟩ : ∃ d0, ds[i]? = some d0 ∧ d = .tuple [.int (c + (i : Int)), d0] := by
    cases q : ds[i]? with
    | none => rw [q] at hd; cases hd
    | some d0 => rw [q] at hd; simp at hd; exact ⟨d0, rfl, hd.symm⟩
  obtain ⟨u, hu, ru⟩ := ha.get hd0
  have hs2 := sat2.ex _ _ (e2 _ _ hs1)
  refine ⟨⟨_, u, hs2, hu⟩, fun x H3 y => ?_⟩
  obtain ⟨T, z, rfl, hT, rfl, y⟩ := y
  have e := y _ hs2
  rw [hu] at e
  cases e
  have f := (sat2.fresh hT).1
  exact ⟨_, Ex.new f, sat2.new hT, .tup upd_same (.cons (.int _) (.cons (rp_ex (e2.trans (Ex.new f)) _ _ ru) .nil))⟩, fun hl => by
  rw [List.length_map, List.length_zipIdx] at hl
  exact ⟨vs, sat2.ex _ _ (e2 _ _ hs1), by rw [ha.length]; exact hl⟩⟩
theorem iv_enumT {e : Expr} {p tpos : Pos} {elts : List Expr} {kk : Nat} {ds : List PyData} (hg : Gl X "enumerate") (hm : X.mg "enumerate" = none) (hs : starEach [e] X.env = [(false, eval e X.env)]) (h : EE X e δ (.tuple ds)) :
    IV X (.Tuple elts kk tpos) (.Call (.Name "enumerate" p) [e] [] pos) δ (ds.zipIdx.map fun q => .tuple [.int (0 + (q.2 : Int)), q.1]) :=
  fun σ G H M sd sat R k => SI.of (pi_enumU hg hm (pa_cons pe_SE pa_nil hs) hs) (h M (fun x M1 => x = .d (.tuple ds) ∧ M1 = M) ⟨rfl, rfl⟩ σ G H sd sat _ fun v x M1 G1 H1 hx e1 sat1 r1 => by
    obtain ⟨rfl, rfl⟩ := hx
    cases r1 with
    | tup hs1 ha => exact ⟨_, _, rfl, sat1.ex _ _ hs1, k _ G1 H1 e1 sat1 (walks_enumU hs1 ha)⟩)
theorem iv_enumT1 {e : Expr} {p tpos p1 : Pos} {elts : List Expr} {kk j1 : Nat} {c : Int} {ds : List PyData} (hc0 : 0 ≤ c) (hc1 : c < 1000) (hg : Gl X "enumerate") (hm : X.mg "enumerate" = none) (hs : starEach [e, .Constant (.int c) j1 p1] X.env = (false, eval e X.env) :: starEach [.Constant (.int c) j1 p1] X.env)
    (hs2 : starEach [.Constant (.int c) j1 p1] X.env = (false, eval (.Constant (.int c) j1 p1) X.env) :: starEach [] X.env) (hpl : (backTo pos (starEach [.Constant (.int c) j1 p1] X.env)).any (·.1) = false) (h : EE X e δ (.tuple ds)) :
    IV X (.Tuple elts kk tpos) (.Call (.Name "enumerate" p) [e, .Constant (.int c) j1 p1] [] pos) δ (ds.zipIdx.map fun q => .tuple [.int (c + (q.2 : Int)), q.1]) :=
  fun σ G H M sd sat R k => SI.of (pi_enumV hc0 hc1 hg hm (pa_cons pe_SE (pa_cons pe_int pa_nil hs2) hs) hs hpl) (h M (fun x M1 => x = .d (.tuple ds) ∧ M1 = M) ⟨rfl, rfl⟩ σ G H sd sat _ fun v x M1 G1 H1 hx e1 sat1 r1 => by
    obtain ⟨rfl, rfl⟩ := hx
    cases r1 with
    | tup hs1 ha => exact ⟨_, _, rfl, sat1.ex _ _ hs1, k _ G1 H1 e1 sat1 (walks_enumU hs1 ha)⟩)
def zipD (xs ys : List PyData) : List PyData := (xs.zip ys).map fun q => .tuple [q.1, q.2]
theorem zip_at {xs ys : List PyData} {i : Nat} {d : PyData} (h : (zipD xs ys)[i]? = some d) : ∃ a b, xs[i]? = some a ∧ ys[i]? = some b ∧ d = .tuple [a, b] := by
  unfold zipD at h
  rw [List.getElem?_map] at h
  cases q : (xs.zip ys)[i]? with
  | none => rw [q] at h; cases h
  | some r =>
    rw [q] at h
    obtain ⟨a, b⟩ := r
    have := List.getElem?_zip_eq_some.mp q
    exact ⟨a, b, this.1, this.2, by simpa using h.symm⟩
theorem iv_zipL {e e2 : Expr} {p tpos : Pos} {elts : List Expr} {kk : Nat} {xs ys : List PyData} (hg : Gl X "zip") (hm : X.mg "zip" = none) (hs : starEach [e, e2] X.env = (false, eval e X.env) :: starEach [e2] X.env) (hs2 : starEach [e2] X.env = (false, eval e2 X.env) :: starEach [] X.env)
    (hpl : (backTo pos (starEach [e2] X.env)).any (·.1) = false) (h : EE X e δ (.list xs)) (h2 : EE X e2 δ (.list ys)) : IV X (.Tuple elts kk tpos) (.Call (.Name "zip" p) [e, e2] [] pos) δ (zipD xs ys) :=
  fun σ G H M sd sat R k => SI.of (pi_zip hg hm (pa_cons pe_SE (pa_cons pe_SE pa_nil hs2) hs) hs hpl) (h M (fun x M1 => x = .d (.list xs) ∧ M1 = M) ⟨rfl, rfl⟩ σ G H sd sat _ fun v x M1 G1 H1 hx e1 sat1 r1 => by
    obtain ⟨rfl, rfl⟩ := hx
    refine h2 M1 (fun x M2 => x = .d (.list ys) ∧ M2 = M1) ⟨rfl, rfl⟩ σ G1 H1 (sd.mono e1) sat1 _ fun u y M2 G2 H2 hy e2 sat2 r2 => ?_
    obtain ⟨rfl, rfl⟩ := hy
    cases rp_ex e2 _ _ r1 with
    | lst hs1 ha =>
      cases r2 with
      | lst hs1' hb =>
        rename_i a va b vb
        refine ⟨a, b, va, vb, rfl, .inl (.inl (sat2.ex _ _ hs1)), .inl (.inl (sat2.ex _ _ hs1')), k _ G2 H2 (e1.trans e2) sat2 fun i G3 H3 M3 e3 sat3 => ⟨fun d hd => ?_, fun hl => ?_⟩⟩
        · obtain ⟨d1, d2, q1, q2, rfl⟩ := zip_at hd
          obtain ⟨u1, hu1, ru1⟩ := ha.get q1
          obtain ⟨u2, hu2, ru2⟩ := hb.get q2
          have z1 : SqL X.K H3 a va := .inl (.inl (sat3.ex _ _ (e3 _ _ hs1)))
          have z2 : SqL X.K H3 b vb := .inl (.inl (sat3.ex _ _ (e3 _ _ hs1')))
          refine ⟨⟨_, _, u1, u2, z1, z2, hu1, hu2⟩, fun x H4 y => ?_⟩
          obtain ⟨T, w1, w2, rfl, hT, rfl, y1, y2⟩ := y
          have e4 := y1 _ z1
          rw [hu1] at e4; cases e4
          have e5 := y2 _ z2
          rw [hu2] at e5; cases e5
          have f := (sat3.fresh hT).1
          exact ⟨_, Ex.new f, sat3.new hT, .tup upd_same (.cons (rp_ex (e3.trans (Ex.new f)) _ _ ru1) (.cons (rp_ex (e3.trans (Ex.new f)) _ _ ru2) .nil))⟩
        · refine ⟨va, vb, .inl (.inl (sat3.ex _ _ (e3 _ _ hs1))), .inl (.inl (sat3.ex _ _ (e3 _ _ hs1'))), ?_⟩
          unfold zipD at hl
          rw [List.length_map, List.length_zip] at hl
          rw [ha.length, hb.length]
          omega)
theorem iv_zipT {e e2 : Expr} {p tpos : Pos} {elts : List Expr} {kk : Nat} {xs ys : List PyData} (hg : Gl X "zip") (hm : X.mg "zip" = none) (hs : starEach [e, e2] X.env = (false, eval e X.env) :: starEach [e2] X.env) (hs2 : starEach [e2] X.env = (false, eval e2 X.env) :: starEach [] X.env)
    (hpl : (backTo pos (starEach [e2] X.env)).any (·.1) = false) (h : EE X e δ (.tuple xs)) (h2 : EE X e2 δ (.tuple ys)) : IV X (.Tuple elts kk tpos) (.Call (.Name "zip" p) [e, e2] [] pos) δ (zipD xs ys) :=
  fun σ G H M sd sat R k => SI.of (RZ.pi_zipA hg hm (pa_cons pe_SE (pa_cons pe_SE pa_nil hs2) hs) hs hpl) (h M (fun x M1 => x = .d (.tuple xs) ∧ M1 = M) ⟨rfl, rfl⟩ σ G H sd sat _ fun v x M1 G1 H1 hx e1 sat1 r1 => by
    obtain ⟨rfl, rfl⟩ := hx
    refine h2 M1 (fun x M2 => x = .d (.tuple ys) ∧ M2 = M1) ⟨rfl, rfl⟩ σ G1 H1 (sd.mono e1) sat1 _ fun u y M2 G2 H2 hy e2 sat2 r2 => ?_
    obtain ⟨rfl, rfl⟩ := hy
    cases rp_ex e2 _ _ r1 with
    | tup hs1 ha =>
      cases r2 with
      | tup hs1' hb =>
        rename_i a va b vb
        refine ⟨a, b, va, vb, rfl, .inr ⟨.inl (.inl (sat2.ex _ _ hs1)), .inl (.inl (sat2.ex _ _ hs1')), k _ G2 H2 (e1.trans e2) sat2 fun i G3 H3 M3 e3 sat3 => ⟨fun d hd => ?_, fun hl => ?_⟩⟩⟩
        · obtain ⟨d1, d2, q1, q2, rfl⟩ := zip_at hd
          obtain ⟨u1, hu1, ru1⟩ := ha.get q1
          obtain ⟨u2, hu2, ru2⟩ := hb.get q2
          have z1 : SqT X.K H3 a va := .inl (.inl (sat3.ex _ _ (e3 _ _ hs1)))
          have z2 : SqT X.K H3 b vb := .inl (.inl (sat3.ex _ _ (e3 _ _ hs1')))
          refine ⟨⟨_, _, u1, u2, z1, z2, hu1, hu2⟩, fun x H4 y => ?_⟩
          obtain ⟨T, w1, w2, rfl, hT, rfl, y1, y2⟩ := y
          have e4 := y1 _ z1
          rw [hu1] at e4; cases e4
          have e5 := y2 _ z2
          rw [hu2] at e5; cases e5
          have f := (sat3.fresh hT).1
          exact ⟨_, Ex.new f, sat3.new hT, .tup upd_same (.cons (rp_ex (e3.trans (Ex.new f)) _ _ ru1) (.cons (rp_ex (e3.trans (Ex.new f)) _ _ ru2) .nil))⟩
        · refine ⟨va, vb, .inl (.inl (sat3.ex _ _ (e3 _ _ hs1))), .inl (.inl (sat3.ex _ _ (e3 _ _ hs1'))), ?_⟩
          unfold zipD at hl
          rw [List.length_map, List.length_zip] at hl
          rw [ha.length, hb.length]
          omega)

/-! ### targets -/
/-- storing d at a target: the slots behind it; vs: the slots that it stores to -/
def GV (X : Cx) (tg : Expr) (d : PyData) (δ δ' : En) (vs : List Nat) : Prop := ∀ (σ : L2.St) (G H : Hp) (M : Mu) (v : V), SD G σ δ → Sat G M H → Rp G v d → ∀ Q : L2.St → Hp → Prop,
  (∀ σ', SD G σ' δ' → (∀ ws : List Nat, (∀ i ∈ vs, i ∈ ws) → L2.wipe σ' ws = L2.wipe σ ws) → Q σ' H) → STg X tg v σ H Q
theorem wipe_set {σ : L2.St} {i : Nat} {x : Option V} : ∀ {ws : List Nat}, i ∈ ws → L2.wipe (σ.set i x) ws = L2.wipe σ ws
  | w' :: ws, h => by
    show (L2.wipe (σ.set i x) ws).set w' none = (L2.wipe σ ws).set w' none
    by_cases e : i ∈ ws
    · rw [wipe_set e]
    · have e' : i = w' := by
        rcases List.mem_cons.mp h with z | z
        · exact z
        · exact absurd z e
      subst e'
      have : ∀ (ws : List Nat) (τ : L2.St), (L2.wipe (τ.set i x) ws).set i none = (L2.wipe τ ws).set i none := by
        intro ws
        induction ws with
        | nil => intro τ; exact List.set_set ..
        | cons v vs ih =>
          intro τ
          show ((L2.wipe (τ.set i x) vs).set v none).set i none = ((L2.wipe τ vs).set v none).set i none
          by_cases z : v = i
          · subst z; rw [List.set_set, List.set_set]; exact ih τ
          · rw [List.set_comm _ _ z, ih τ, List.set_comm _ _ z]
      exact this ws σ
theorem wipe_wipe (σ : L2.St) : ∀ ws : List Nat, L2.wipe (L2.wipe σ ws) ws = L2.wipe σ ws := fun ws => by
  have : ∀ (vs : List Nat), (∀ i ∈ vs, i ∈ ws) → L2.wipe (L2.wipe σ vs) ws = L2.wipe σ ws := by
    intro vs
    induction vs with
    | nil => intro _; rfl
    | cons v vs ih =>
      intro h
      show L2.wipe ((L2.wipe σ vs).set v none) ws = _
      rw [wipe_set (h v List.mem_cons_self)]
      exact ih fun i hi => h i (List.mem_cons_of_mem _ hi)
  exact this ws fun _ h => h
theorem gv_name {i : Nat} {x : Str} {d : PyData} (hN : X.N.Nodup) (hi : X.N[i]? = some x) (hx : Loc X.env.scope x) (hf : X.fn x = true ∨ X.env.scope.names.lookup x = some .local) : GV X (.Name x pos) d δ (δ.set i (some (.d d))) [i] :=
  fun σ G H M v sd sat r Q k => STg.of (pg_name hN hi hx hf) (k _ (sd.set (x := .d d) r i) fun ws h => wipe_set (h i List.mem_cons_self))
theorem gv_two {i j : Nat} {x y : Str} {px py : Pos} {kk : Nat} {d e : PyData} (hc : X.calm = true) (hN : X.N.Nodup) (hi : X.N[i]? = some x) (hj : X.N[j]? = some y) (hx : Loc X.env.scope x) (hy : Loc X.env.scope y) (hfx : X.fn x = true ∨ X.env.scope.names.lookup x = some .local) (hfy : X.fn y = true ∨ X.env.scope.names.lookup y = some .local)
    (hs : (assignEach [.Name x px, .Name y py] X.env).map (·.2) = assign (.Name x px) X.env :: (assignEach [.Name y py] X.env).map (·.2)) (hs2 : (assignEach [.Name y py] X.env).map (·.2) = assign (.Name y py) X.env :: (assignEach [] X.env).map (·.2))
    (hn : (assignEach [.Name x px, .Name y py] X.env).length = 2) (hst : (assignEach [.Name x px, .Name y py] X.env).findIdx? (·.1) = none) :
    GV X (.Tuple [.Name x px, .Name y py] kk pos) (.tuple [d, e]) δ ((δ.set i (some (.d d))).set j (some (.d e))) [i, j] :=
  fun σ G H M v sd sat r Q k => STg.of (pg_tup hc (pgs_cons (pg_name hN hi hx hfx) (pgs_cons (pg_name hN hj hy hfy) pgs_nil hs2) hs) hn hst) (by
    cases r with
    | tup hs1 ha =>
      cases ha with
      | cons a1 ha =>
        cases ha with
        | cons a2 ha =>
          cases ha
          refine ⟨_, _, rfl, .inl (.inl (sat.ex _ _ hs1)), rfl, _, _, rfl, _, _, rfl, rfl, k _ ((sd.set (x := .d d) a1 i).set (x := .d e) a2 j) fun ws h => ?_⟩
          rw [wipe_set (h j (List.mem_cons_of_mem _ List.mem_cons_self)), wipe_set (h i List.mem_cons_self)])

/-! ### comprehensions -/
def blkX (X : Cx) (scope : Scope) (s : Shared) (H : Hp) (C : Addr) (cl : List (Str × Addr)) (fp : List Addr) : Cx := X.blk s H scope (compEnvC scope cl C X.env) fp
def EIf (X : Cx) (ifs : List Expr) (δ : En) (b : Bool) : Prop := ∀ (M : Mu) (σ : L2.St) (G H : Hp), SD G σ δ → Sat G M H → ∀ Q : Bool → Hp → Prop, (∀ G' H', Ex G G' → Sat G' M H' → Q b H') → STs X ifs σ H Q
theorem eif_nil : EIf X [] δ true := fun M σ G H sd sat Q k => STs.of pts_nil (k G H (Ex.refl G) sat)
theorem eif_one {c : Expr} {b : Bool} (h : EB X c δ b) : EIf X [c] δ b := fun M σ G H sd sat Q k => STs.of (pts_one pt_ST) (h M (fun b' M' => b' = b ∧ M' = M) ⟨rfl, rfl⟩ σ G H sd sat _ fun b' M' G' H' q e sat' => by
  obtain ⟨rfl, rfl⟩ := q
  exact k G' H' e sat')
section lc
variable {α : Type} {elt iter : Expr} {ifs : List Expr} {scope : Scope} {own : List (Str × Nat)} {xs : List α} {g f : α → PyData} {p : α → Bool} {δt : α → En}
/-- the terms, by meaning -/
def tgB (X : Cx) (scope : Scope) (tg : Expr) : TG := fun v σ H Q => ∀ s H0 C cl fp, STg (blkX X scope s H0 C cl fp) tg v σ H Q
def ttB (X : Cx) (scope : Scope) (ifs : List Expr) : TT := fun σ H Q => ∀ s H0 C cl fp, STs (blkX X scope s H0 C cl fp) ifs σ H Q
def teB (X : Cx) (scope : Scope) (e : Expr) : TE := fun σ H Q => ∀ s H0 C cl fp, SE (blkX X scope s H0 C cl fp) e σ H Q
theorem filter_take {p : α → Bool} {f : α → PyData} {i : Nat} {x : α} (h : xs[i]? = some x) : ((xs.take (i + 1)).filter p).map f = ((xs.take i).filter p).map f ++ if p x = true then [f x] else [] := by
  rw [List.take_add_one, h, List.filter_append, List.map_append]
  congr 1
  show ([x].filter p).map f = _
  rw [List.filter_cons]
  by_cases e : p x = true
  · rw [if_pos e, if_pos e]; rfl
  · rw [if_neg e, if_neg e]; rfl
theorem lc_wp (hi : IV X tg iter δ (xs.map g)) (hl : xs.length ≤ 100000) {vs ws : List Nat} (hvs : ∀ i ∈ ws, i ∈ vs)
    (hg : ∀ s H0 C cl fp, ∀ x ∈ xs, GV (blkX X scope s H0 C cl fp) tg (g x) (wipeD δ vs) (δt x) ws)
    (ht : ∀ s H0 C cl fp, ∀ x ∈ xs, EIf (blkX X scope s H0 C cl fp) ifs (δt x) (p x))
    (he : ∀ s H0 C cl fp, ∀ x ∈ xs, p x = true → EE (blkX X scope s H0 C cl fp) elt (δt x) (f x))
    {σ : L2.St} {G H : Hp} (sd : SD G σ δ) (sat : Sat G M H) {Q : VK} (k : ∀ v G' H', Ex G G' → Sat G' M H' → Rp G' v (.list ((xs.filter p).map f)) → Q v H') :
    tLc (SI X tg iter) (tgB X scope tg) (ttB X scope ifs) (teB X scope elt) vs σ H Q := by
  refine hi σ G H M sd sat _ fun J G1 H1 e1 sat1 W D hD => ?_
  have hDf := sat1.fresh hD
  refine ⟨fun i m H => m + i = xs.length ∧ ∃ G2, Ex G1 G2 ∧ Sat G2 (mup M D (.lst (((xs.take i).filter p).map f))) H, ⟨xs.length, rfl, G1, Ex.refl G1, sat1.newM hD ⟨[], rfl, ?_⟩⟩, ?_⟩
  · rw [List.take_zero]; exact .nil
  rintro i m H2 ⟨hm, G2, e2, sat2⟩
  obtain ⟨w1, w2⟩ := W i G2 H2 _ e2 sat2
  rcases Nat.lt_or_ge i xs.length with hlt | hge
  · have hx : xs[i]? = some xs[i] := List.getElem?_eq_getElem hlt
    have hmem : xs[i] ∈ xs := List.getElem_mem _
    generalize xs[i] = x at hx hmem
    obtain ⟨go, yl⟩ := w1 (g x) (by rw [List.getElem?_map, hx]; rfl)
    refine .inr ⟨go, fun H' => ∃ G3, Ex G1 G3 ∧ Sat G3 (mup M D (.lst (((xs.take (i + 1)).filter p).map f))) H', fun H' h => ⟨m - 1, by omega, by omega, h⟩, fun v H3 y => ?_⟩
    obtain ⟨G3, e3, sat3, r3⟩ := yl v H3 y
    intro s H0 C cl fp
    refine hg s H0 C cl fp x hmem _ G3 H3 _ v ((sd.wipe vs).mono ((e1.trans e2).trans e3)) sat3 r3 _ fun σ2 sd2 hw => ⟨(hw vs hvs).trans (wipe_wipe σ vs), fun s H0 C cl fp => ?_⟩
    refine ht s H0 C cl fp x hmem _ σ2 G3 H3 sd2 sat3 _ fun G4 H4 e4 sat4 => ?_
    by_cases hp : p x = true
    · rw [if_pos hp]
      intro s H0 C cl fp
      refine he s H0 C cl fp x hmem hp _ (fun z M5 => z = .d (f x) ∧ M5 = mup M D (.lst (((xs.take i).filter p).map f))) ⟨rfl, rfl⟩ σ2 G4 H4 (sd2.mono e4) sat4 _ fun v z M5 G5 H5 hz e5 sat5 r5 => ?_
      obtain ⟨rfl, rfl⟩ := hz
      obtain ⟨gD, o, eo, acc, rfl, ra⟩ := sat5.mu D _ mup_same
      refine ⟨acc, eo, ?_, G5, ((e2.trans e3).trans e4).trans e5, ?_⟩
      · rw [ra.length, List.length_map]
        have h1 := List.length_filter_le p (xs.take i)
        have h2 := List.length_take_le i xs
        have h3 : (100000 : Nat) < sizeLine := by decide
        have h4 : ((xs.take i).filter p).length ≤ 100000 := Nat.le_trans h1 (Nat.le_trans (by rw [List.length_take]; omega) hl)
        exact Nat.lt_of_le_of_lt h4 h3
      · have e := sat5.put (p := D) (m := .lst (((xs.take i).filter p).map f ++ [f x])) mup_same ⟨_, rfl, ra.append (.cons r5 .nil)⟩
        rw [mup_mup] at e
        rw [filter_take hx, if_pos hp]
        exact e
    · rw [if_neg hp]
      refine ⟨G4, (e2.trans e3).trans e4, ?_⟩
      rw [filter_take hx, if_neg hp, List.append_nil]
      exact sat4
  · refine .inl ⟨w2 (by rw [List.length_map]; exact hge), ?_⟩
    rw [List.take_of_length_le hge] at sat2
    obtain ⟨G3, e3, sat3, r3⟩ := sat2.freeze mup_same
    rw [mdel_mup hDf.2] at sat3
    exact k _ G3 H2 ((e1.trans e2).trans e3) sat3 r3
theorem ee_lc (own : List (Str × Nat)) (ws : List Nat) (hc : X.calm = true) (hN : X.N.Nodup) (ok : BlkOk X.N X.env.scope scope own) (hvs : ∀ i ∈ ws, i ∈ own.map (·.2)) (hs : ∀ x, foldedSetIterable iter X.env x = pure x)
    (hi : IV X tg iter δ (xs.map g)) (hl : xs.length ≤ 100000)
    (hg : ∀ s H0 C cl fp, ∀ x ∈ xs, GV (blkX X scope s H0 C cl fp) tg (g x) (wipeD δ (own.map (·.2))) (δt x) ws)
    (ht : ∀ s H0 C cl fp, ∀ x ∈ xs, EIf (blkX X scope s H0 C cl fp) ifs (δt x) (p x))
    (he : ∀ s H0 C cl fp, ∀ x ∈ xs, p x = true → EE (blkX X scope s H0 C cl fp) elt (δt x) (f x)) : EE X (.ListComp elt [⟨tg, iter, ifs, 0⟩] scope pos) δ (.list ((xs.filter p).map f)) :=
  fun M Ψ q σ G H sd sat Q k => SE.of (pe_lc hc hN pi_SI ok (fun s H0 C cl fp => ⟨fun pins s' σ H v u Q I r h => h s H0 C cl fp pins s' u I r⟩) (fun s H0 C cl fp => ⟨fun pins s' σ H Q I h => h s H0 C cl fp pins s' I⟩) (fun s H0 C cl fp => ⟨fun pins s' σ H Q I h => h s H0 C cl fp pins s' I⟩) hs)
    (lc_wp hi hl hvs hg ht he sd sat fun v G' H' e' sat' r' => k v _ M G' H' q e' sat' r')
end lc
end
end DL
/-! Rules of the layer: things that change, statements, a def's body. -/
namespace DL
open PySem PySem.Spec PyProof.Rows L2

/-! ### dicts -/
def valG {κ β : Type} [DecidableEq κ] (kvs : List (κ × β)) (k : κ) : Option β := (kvs.find? fun kv => decide (kv.1 = k)).map (·.2)
def putG {κ β : Type} [DecidableEq κ] (kvs : List (κ × β)) (k : κ) (v : β) : List (κ × β) :=
  if (kvs.any fun kv => decide (kv.1 = k)) = true then kvs.map (fun kv => if kv.1 = k then (kv.1, v) else kv) else kvs ++ [(k, v)]
section
variable {κ β : Type} [DecidableEq κ] {R : V → β → Prop}
abbrev PR (R : V → β → Prop) : List (κ × V) → List (κ × β) → Prop := Paired fun p q => p.1 = q.1 ∧ R p.2 q.2
theorem pr_any {ps : List (κ × V)} {es : List (κ × β)} {k : κ} (h : PR R ps es) : (ps.any fun kv => decide (kv.1 = k)) = es.any fun kv => decide (kv.1 = k) := by
  induction h with
  | nil => rfl
  | cons a b ih =>
    rw [List.any_cons, List.any_cons, ih, a.1]
theorem pr_map {ps : List (κ × V)} {es : List (κ × β)} {k : κ} {v : V} {s : β} (h : PR R ps es) (r : R v s) : PR R (ps.map fun kv => if kv.1 = k then (kv.1, v) else kv) (es.map fun kv => if kv.1 = k then (kv.1, s) else kv) := by
  induction h with
  | nil => exact .nil
  | @cons p q ps' es' a b ih =>
    rw [List.map_cons, List.map_cons]
    refine .cons ?_ ih
    by_cases e : p.1 = k
    · rw [if_pos e, if_pos (by rw [← a.1]; exact e)]; exact ⟨a.1, r⟩
    · rw [if_neg e, if_neg (by rw [← a.1]; exact e)]; exact a
theorem pr_app {ps : List (κ × V)} {es : List (κ × β)} {k : κ} {v : V} {s : β} (h : PR R ps es) (r : R v s) : PR R (ps ++ [(k, v)]) (es ++ [(k, s)]) := by
  induction h with
  | nil => exact .cons ⟨rfl, r⟩ .nil
  | cons a b ih => exact .cons a ih
theorem pr_put {ps : List (κ × V)} {es : List (κ × β)} {k : κ} {v : V} {s : β} (h : PR R ps es) (r : R v s) : PR R (putK ps k v) (putG es k s) := by
  unfold putK putG
  rw [pr_any h]
  split
  · exact pr_map h r
  · exact pr_app h r
theorem pr_val {ps : List (κ × V)} {es : List (κ × β)} {k : κ} {s : β} (h : PR R ps es) (e : valG es k = some s) : ∃ v, valV ps k = some v ∧ R v s := by
  induction h with
  | nil => cases e
  | @cons p q ps' es' a b ih =>
    unfold valG at e
    rw [List.find?_cons] at e
    by_cases z : q.1 = k
    · rw [decide_eq_true z] at e
      cases e
      exact ⟨p.2, valV_pos (a.1.trans z), a.2⟩
    · rw [decide_eq_false z] at e
      obtain ⟨v, e1, r⟩ := ih e
      exact ⟨v, by rw [valV_neg (fun y => z (a.1.symm.trans y))]; exact e1, r⟩
theorem pr_len {ps : List (κ × V)} {es : List (κ × β)} (h : PR R ps es) : ps.length = es.length := by
  induction h with
  | nil => rfl
  | cons a b ih => rw [List.length_cons, List.length_cons, ih]
end

section
variable {X : Cx} {δ : En} {M : Mu} {Ψ : S → Mu → Prop} {pos : Pos} {D : DE}
/-- d["k"] -/
theorem ev_dget {o : Expr} {k : Str} {j : Nat} {p2 : Pos} (hu : X.A.units + 1 < cLine) (hs : NoSl (.Constant (.str k) j p2)) (h : EV X o δ M fun y M1 => ∃ a es s, y = .m a ∧ M1 a = some (.dK es) ∧ valG es (Sum.inr k : Key) = some s ∧ Ψ s M1) : EV X (.Subscript o (.Constant (.str k) j p2) pos) δ M Ψ :=
  fun σ G H sd sat Q k' => SE.of (pe_dget hu pe_SE pe_str hs) (h σ G H sd sat _ fun v y M1 G1 H1 ⟨a, es, s, ey, hM, hv, q⟩ e1 sat1 r1 => by
    subst ey
    obtain ⟨g, u, eu, ps, rfl, pr⟩ := sat1.mu a _ hM
    obtain ⟨w', e, r⟩ := pr_val (R := RepS G1) pr hv
    have dg := DGet.k (k := (Sum.inr k : Key)) eu
    rw [e] at dg
    exact ⟨a, w', r1, dg, k' w' s M1 G1 H1 q e1 sat1 r⟩)
/-- {}, for tuple keys -/
theorem ev_dnewT (q : ∀ a, M a = none → Ψ (.m a) (mup M a (.dT []))) : EV X (.Dict [] [] pos) δ M Ψ := fun σ G H sd sat Q k => SE.of pe_dnewT fun p hp => k _ _ _ G _ (q p (sat.fresh hp).2) (Ex.refl G) (sat.newM hp ⟨[], rfl, .nil⟩) rfl
/-- xs.pop(i) of a list at a name -/
theorem ev_popM {i : Nat} {x : Str} {p2 apos : Pos} {e : Expr} (hN : X.N[i]? = some x) (hv : Vis X.env.scope x) {a : Addr} {ds0 : List PyData} (h : δ[i]? = some (some (.m a))) (hM : M a = some (.lst ds0))
    (hbase : attributeBase (.Name x p2) "pop" X.env (eval (.Name x p2) X.env) = eval (.Name x p2) X.env)
    (hfew : ((backTo pos (starEach [e] X.env)).all (fun x => !x.1) && (backToKw pos (keywordEach [] X.env)).all (fun x => x.1.isSome) && decide (([e] : List Expr).length + ([] : List Keyword).length + (if ([] : List Keyword).isEmpty then 0 else 1) < 30)) = true)
    (hline : (apos.endLine == pos.line) = true) (hs : starEach [e] X.env = (false, eval e X.env) :: starEach [] X.env) (hpl : (backTo pos (starEach [] X.env)).any (·.1) = false)
    (he : EV X e δ M fun y M1 => ∃ (k : Nat) (d : PyData) (ds : List PyData), y = .d (.int (k : Int)) ∧ M1 a = some (.lst ds) ∧ ds[k]? = some d ∧ k < 100000 ∧ Ψ (.d d) (mup M1 a (.lst (ds.eraseIdx k))))
    (hd : (x == ("__debug__" : Str)) = false := by decide) (hcd : (x == ("__classdict__" : Str)) = false := by decide) : EV X (.Call (.Attribute (.Name x p2) "pop" apos) [e] [] pos) δ M Ψ :=
  fun σ G H sd sat Q k' => SE.of (pe_bm PySem.F.plainAttrs_list PySem.F.slot_list_pop PySem.F.type_list_pop mt_popAt (pe_var hN hv hd hcd) (pa_cons pe_SE pa_nil hs) hbase hfew hline hs hpl) (by
    obtain ⟨v, ev, rv⟩ := sd.at_ i _ h
    have rv' : v = V.ref a := rv
    subst rv'
    obtain ⟨g0, u0, eu0, vs0, rfl, ra0⟩ := sat.mu a _ hM
    refine ⟨_, ev, .inl ⟨rfl, vs0, .inl (.inl eu0)⟩, he σ G H sd sat _ fun w' y M1 G1 H1 ⟨k, d, ds, ey, hM1, hk, hk1, q⟩ e1 sat1 r1 => ?_⟩
    subst ey
    cases r1
    obtain ⟨g, u, eu, vs, rfl, ra⟩ := sat1.mu a _ hM1
    obtain ⟨z, ez, rz⟩ := ra.get hk
    have hlt : k < vs.length := (List.getElem?_eq_some_iff.mp ez).1
    refine ⟨a, vs, (k : Int), k, z, rfl, rfl, eu, by omega, by omega, ?_, ez, ?_⟩
    · exact (ixN_seq (Evl_ixN hlt)).1
    · exact k' z _ _ G1 _ q e1 (sat1.put hM1 ⟨_, rfl, ra.eraseIdx k⟩) rz)
where
  Evl_ixN {n j : Nat} (hj : j < n) : ixN n (j : Int) = some j := by
    unfold ixN
    rw [if_pos (by omega), if_pos (by omega)]
    simp

/-! ### statements -/
theorem ws_nil (h : D.nx δ M) : WS X [] δ M D := fun σ G H sd sat D' L => SSs.of pss_nil (L.nx _ _ _ G H h (Ex.refl G) sd sat)
theorem ws_cons {st : Stmt} {rest : List Stmt} (h : W1 X st δ M { nx := fun δ' M' => WS X rest δ' M' D, rt := D.rt, bk := D.bk, ct := D.ct }) : WS X (st :: rest) δ M D := fun σ G H sd sat D' L =>
  SSs.of (pss_cons ps_SS1 pss_SSs) (h σ G H sd sat { nx := SSs X rest D', rt := D'.rt, bk := D'.bk, ct := D'.ct }
    ⟨fun σ' δ' M' G' H' q e sd' sat' => q σ' G' H' sd' sat' D' (L.mono e), L.rt, L.bk, L.ct⟩)
theorem ws_less {sts : List Stmt} {δ' : En} (l : Less δ' δ) (h : WS X sts δ' M D) : WS X sts δ M D := fun σ G H sd sat D' L => h σ G H (sd.less l) sat D' L
theorem ws_freeze {sts : List Stmt} (i : Nat) {a : Addr} {ds : List PyData} (h1 : δ[i]? = some (some (.m a))) (h2 : M a = some (.lst ds)) (h : WS X sts (δ.set i (some (.d (.list ds)))) (mdel M a) D) : WS X sts δ M D := fun σ G H sd sat D' L => by
  obtain ⟨G', e, sat', r⟩ := sat.freeze h2
  obtain ⟨v, ev, rv⟩ := sd.at_ i _ h1
  have rv' : v = V.ref a := rv
  subst rv'
  have sd' := (sd.mono e).set (x := .d (.list ds)) r i
  have es : σ.set i (some (V.ref a)) = σ := by
    obtain ⟨hi, e2⟩ := List.getElem?_eq_some_iff.mp ev
    rw [← e2, List.set_getElem_self]
  rw [es] at sd'
  exact h σ G' H sd' sat' D' (L.mono e)
theorem w1_expr {e : Expr} (hs : swapsWith e none pos.line X.env = pure false) (h : EV X e δ M fun _ M' => D.nx δ M') : W1 X (.Expr e pos) δ M D := fun σ G H sd sat D' L =>
  SS1.of (ps_expr pe_SE hs) (h σ G H sd sat _ fun v x M' G' H' q e' sat' _ => L.nx _ _ M' G' H' q e' (sd.mono e') sat')
theorem w1_ret {e : Expr} (h : EV X e δ M D.rt) : W1 X (.Return (some e) pos) δ M D := fun σ G H sd sat D' L => SS1.of (ps_ret pe_SE) (h σ G H sd sat _ fun v x M' G' H' q e' sat' r => L.rt v x M' G' H' q e' sat' r)
theorem w1_retE {e : Expr} {d : PyData} (h : EE X e δ d) (q : D.rt (.d d) M) : W1 X (.Return (some e) pos) δ M D := w1_ret (h M _ q)
theorem w1_if {c : Expr} {a b : List Stmt} (h : TV X c δ M fun p M1 => (p = true → WS X a δ M1 D) ∧ (p = false → WS X b δ M1 D)) : W1 X (.If c a b pos) δ M D := fun σ G H sd sat D' L =>
  SS1.of (ps_if pt_ST pss_SSs pss_SSs) (h σ G H sd sat _ fun p M1 G1 H1 ⟨q1, q2⟩ e1 sat1 => by
    cases p with
    | true => exact q1 rfl σ G1 H1 (sd.mono e1) sat1 D' (L.mono e1)
    | false => exact q2 rfl σ G1 H1 (sd.mono e1) sat1 D' (L.mono e1))
theorem w1_ifE {c : Expr} {a b : List Stmt} {p : Bool} (hc : EB X c δ p) (h1 : p = true → WS X a δ M D) (h2 : p = false → WS X b δ M D) : W1 X (.If c a b pos) δ M D := w1_if (hc M _ ⟨h1, h2⟩)
theorem w1_set {i : Nat} {x : Str} {p2 : Pos} {e : Expr} (hN : X.N.Nodup) (hi : X.N[i]? = some x) (hx : Loc X.env.scope x) (hf : X.fn x = true ∨ X.env.scope.names.lookup x = some .local) (hs : swapsWith e (some (.Name x p2)) pos.line X.env = pure false)
    (h : EV X e δ M fun v M' => D.nx (δ.set i (some v)) M') : W1 X (.Assign [.Name x p2] e pos) δ M D := fun σ G H sd sat D' L =>
  SS1.of (ps_set hN hi hx pe_SE hs hf) (h σ G H sd sat _ fun v x M' G' H' q e' sat' r => L.nx _ _ M' G' H' q e' ((sd.mono e').set r i) sat')
/-- the very list that a comprehension makes, as a thing that changes -/
theorem lc_wpM {α : Type} {tg elt iter : Expr} {ifs : List Expr} {scope : Scope} {xs : List α} {g f : α → PyData} {p : α → Bool} {δt : α → En} (hi : IV X tg iter δ (xs.map g)) (hl : xs.length ≤ 100000) {vs ws : List Nat} (hvs : ∀ i ∈ ws, i ∈ vs)
    (hg : ∀ s H0 C cl fp, ∀ x ∈ xs, GV (blkX X scope s H0 C cl fp) tg (g x) (wipeD δ vs) (δt x) ws)
    (ht : ∀ s H0 C cl fp, ∀ x ∈ xs, EIf (blkX X scope s H0 C cl fp) ifs (δt x) (p x))
    (he : ∀ s H0 C cl fp, ∀ x ∈ xs, p x = true → EE (blkX X scope s H0 C cl fp) elt (δt x) (f x))
    {σ : L2.St} {G H : Hp} (sd : SD G σ δ) (sat : Sat G M H) {Q : VK} (k : ∀ a G' H', M a = none → Ex G G' → Sat G' (mup M a (.lst ((xs.filter p).map f))) H' → Q (.ref a) H') :
    tLc (SI X tg iter) (tgB X scope tg) (ttB X scope ifs) (teB X scope elt) vs σ H Q := by
  refine hi σ G H M sd sat _ fun J G1 H1 e1 sat1 W a hD => ?_
  have hDf := sat1.fresh hD
  refine ⟨fun i m H => m + i = xs.length ∧ ∃ G2, Ex G1 G2 ∧ Sat G2 (mup M a (.lst (((xs.take i).filter p).map f))) H, ⟨xs.length, rfl, G1, Ex.refl G1, sat1.newM hD ⟨[], rfl, ?_⟩⟩, ?_⟩
  · rw [List.take_zero]; exact .nil
  rintro i m H2 ⟨hm, G2, e2, sat2⟩
  obtain ⟨w1, w2⟩ := W i G2 H2 _ e2 sat2
  rcases Nat.lt_or_ge i xs.length with hlt | hge
  · have hx : xs[i]? = some xs[i] := List.getElem?_eq_getElem hlt
    have hmem : xs[i] ∈ xs := List.getElem_mem _
    generalize xs[i] = x at hx hmem
    obtain ⟨go, yl⟩ := w1 (g x) (by rw [List.getElem?_map, hx]; rfl)
    refine .inr ⟨go, fun H' => ∃ G3, Ex G1 G3 ∧ Sat G3 (mup M a (.lst (((xs.take (i + 1)).filter p).map f))) H', fun H' h => ⟨m - 1, by omega, by omega, h⟩, fun v H3 y => ?_⟩
    obtain ⟨G3, e3, sat3, r3⟩ := yl v H3 y
    intro s H0 C cl fp
    refine hg s H0 C cl fp x hmem _ G3 H3 _ v ((sd.wipe vs).mono ((e1.trans e2).trans e3)) sat3 r3 _ fun σ2 sd2 hw => ⟨(hw vs hvs).trans (wipe_wipe σ vs), fun s H0 C cl fp => ?_⟩
    refine ht s H0 C cl fp x hmem _ σ2 G3 H3 sd2 sat3 _ fun G4 H4 e4 sat4 => ?_
    by_cases hp : p x = true
    · rw [if_pos hp]
      intro s H0 C cl fp
      refine he s H0 C cl fp x hmem hp _ (fun z M5 => z = .d (f x) ∧ M5 = mup M a (.lst (((xs.take i).filter p).map f))) ⟨rfl, rfl⟩ σ2 G4 H4 (sd2.mono e4) sat4 _ fun v z M5 G5 H5 hz e5 sat5 r5 => ?_
      obtain ⟨rfl, rfl⟩ := hz
      obtain ⟨gD, o, eo, acc, rfl, ra⟩ := sat5.mu a _ mup_same
      refine ⟨acc, eo, ?_, G5, ((e2.trans e3).trans e4).trans e5, ?_⟩
      · rw [ra.length, List.length_map]
        have h1 := List.length_filter_le p (xs.take i)
        have h3 : (100000 : Nat) < sizeLine := by decide
        have h4 : ((xs.take i).filter p).length ≤ 100000 := Nat.le_trans h1 (Nat.le_trans (by rw [List.length_take]; omega) hl)
        exact Nat.lt_of_le_of_lt h4 h3
      · have e := sat5.put (p := a) (m := .lst (((xs.take i).filter p).map f ++ [f x])) mup_same ⟨_, rfl, ra.append (.cons r5 .nil)⟩
        rw [mup_mup] at e
        rw [filter_take hx, if_pos hp]
        exact e
    · rw [if_neg hp]
      refine ⟨G4, (e2.trans e3).trans e4, ?_⟩
      rw [filter_take hx, if_neg hp, List.append_nil]
      exact sat4
  · refine .inl ⟨w2 (by rw [List.length_map]; exact hge), ?_⟩
    rw [List.take_of_length_le hge] at sat2
    exact k _ G2 H2 hDf.2 (e1.trans e2) sat2
section
variable {α : Type} {tg elt iter : Expr} {ifs : List Expr} {scope : Scope} {xs : List α} {g f : α → PyData} {p : α → Bool} {δt : α → En}
theorem ev_lcM (own : List (Str × Nat)) (ws : List Nat) (hc : X.calm = true) (hN : X.N.Nodup) (ok : BlkOk X.N X.env.scope scope own) (hvs : ∀ i ∈ ws, i ∈ own.map (·.2)) (hs : ∀ x, foldedSetIterable iter X.env x = pure x)
    (hi : IV X tg iter δ (xs.map g)) (hl : xs.length ≤ 100000)
    (hg : ∀ s H0 C cl fp, ∀ x ∈ xs, GV (blkX X scope s H0 C cl fp) tg (g x) (wipeD δ (own.map (·.2))) (δt x) ws)
    (ht : ∀ s H0 C cl fp, ∀ x ∈ xs, EIf (blkX X scope s H0 C cl fp) ifs (δt x) (p x))
    (he : ∀ s H0 C cl fp, ∀ x ∈ xs, p x = true → EE (blkX X scope s H0 C cl fp) elt (δt x) (f x)) (q : ∀ a, M a = none → Ψ (.m a) (mup M a (.lst ((xs.filter p).map f)))) : EV X (.ListComp elt [⟨tg, iter, ifs, 0⟩] scope pos) δ M Ψ :=
  fun σ G H sd sat Q k => SE.of (pe_lc hc hN pi_SI ok (fun s H0 C cl fp => ⟨fun pins s' σ H v u Q I r h => h s H0 C cl fp pins s' u I r⟩) (fun s H0 C cl fp => ⟨fun pins s' σ H Q I h => h s H0 C cl fp pins s' I⟩) (fun s H0 C cl fp => ⟨fun pins s' σ H Q I h => h s H0 C cl fp pins s' I⟩) hs)
    (lc_wpM hi hl hvs hg ht he sd sat fun a G' H' ha e' sat' => k _ _ _ G' H' (q a ha) e' sat' rfl)
/-- y = [..], on one line -/
theorem w1_setLcM (own : List (Str × Nat)) (ws : List Nat) {i : Nat} {y : Str} {py spos : Pos} (hc : X.calm = true) (hN : X.N.Nodup) (hy : X.N[i]? = some y) (hyl : X.env.scope.names.lookup y = some .local)
    (hsw : swapsWith (.ListComp elt [⟨tg, iter, ifs, 0⟩] scope pos) (some (.Name y py)) spos.line X.env = pure true) (ok : BlkOk X.N X.env.scope scope own) (hvs : ∀ i ∈ ws, i ∈ own.map (·.2)) (hs : ∀ x, foldedSetIterable iter X.env x = pure x)
    (hi : IV X tg iter δ (xs.map g)) (hl : xs.length ≤ 100000)
    (hg : ∀ s H0 C cl fp, ∀ x ∈ xs, GV (blkX X scope s H0 C cl fp) tg (g x) (wipeD δ (own.map (·.2))) (δt x) ws)
    (ht : ∀ s H0 C cl fp, ∀ x ∈ xs, EIf (blkX X scope s H0 C cl fp) ifs (δt x) (p x))
    (he : ∀ s H0 C cl fp, ∀ x ∈ xs, p x = true → EE (blkX X scope s H0 C cl fp) elt (δt x) (f x)) (q : ∀ a, M a = none → D.nx (δ.set i (some (.m a))) (mup M a (.lst ((xs.filter p).map f)))) : W1 X (.Assign [.Name y py] (.ListComp elt [⟨tg, iter, ifs, 0⟩] scope pos) spos) δ M D :=
  fun σ G H sd sat D' L => SS1.of (ps_setLc hc hN hy hyl hsw pi_SI ok (fun s H0 C cl fp => ⟨fun pins s' σ H v u Q I r h => h s H0 C cl fp pins s' u I r⟩) (fun s H0 C cl fp => ⟨fun pins s' σ H Q I h => h s H0 C cl fp pins s' I⟩) (fun s H0 C cl fp => ⟨fun pins s' σ H Q I h => h s H0 C cl fp pins s' I⟩) hs)
    (lc_wpM hi hl hvs hg ht he sd sat fun a G' H' ha e' sat' => L.nx _ _ _ G' H' (q a ha) e' ((sd.mono e').set (x := .m a) rfl i) sat')
theorem w1_setLc (own : List (Str × Nat)) (ws : List Nat) {i : Nat} {y : Str} {py spos : Pos} (hc : X.calm = true) (hN : X.N.Nodup) (hy : X.N[i]? = some y) (hyl : X.env.scope.names.lookup y = some .local)
    (hsw : swapsWith (.ListComp elt [⟨tg, iter, ifs, 0⟩] scope pos) (some (.Name y py)) spos.line X.env = pure true) (ok : BlkOk X.N X.env.scope scope own) (hvs : ∀ i ∈ ws, i ∈ own.map (·.2)) (hs : ∀ x, foldedSetIterable iter X.env x = pure x)
    (hi : IV X tg iter δ (xs.map g)) (hl : xs.length ≤ 100000)
    (hg : ∀ s H0 C cl fp, ∀ x ∈ xs, GV (blkX X scope s H0 C cl fp) tg (g x) (wipeD δ (own.map (·.2))) (δt x) ws)
    (ht : ∀ s H0 C cl fp, ∀ x ∈ xs, EIf (blkX X scope s H0 C cl fp) ifs (δt x) (p x))
    (he : ∀ s H0 C cl fp, ∀ x ∈ xs, p x = true → EE (blkX X scope s H0 C cl fp) elt (δt x) (f x)) (q : D.nx (δ.set i (some (.d (.list ((xs.filter p).map f))))) M) : W1 X (.Assign [.Name y py] (.ListComp elt [⟨tg, iter, ifs, 0⟩] scope pos) spos) δ M D :=
  fun σ G H sd sat D' L => SS1.of (ps_setLc hc hN hy hyl hsw pi_SI ok (fun s H0 C cl fp => ⟨fun pins s' σ H v u Q I r h => h s H0 C cl fp pins s' u I r⟩) (fun s H0 C cl fp => ⟨fun pins s' σ H Q I h => h s H0 C cl fp pins s' I⟩) (fun s H0 C cl fp => ⟨fun pins s' σ H Q I h => h s H0 C cl fp pins s' I⟩) hs)
    (lc_wp hi hl hvs hg ht he sd sat fun v G' H' e' sat' r => L.nx _ _ _ G' H' q e' ((sd.mono e').set (x := .d _) r i) sat')
end
/-- target = value, the value data -/
theorem w1_asg {tg e : Expr} (hs : swapsWithSole [tg] e pos.line X.env = pure false) (hw : swappedStores [tg] e X.env = pure none) (h1 : (assignEach [tg] X.env).map (·.2) = [assign tg X.env]) (h : EV X e δ M fun v M' => ∃ d δ' vs, v = .d d ∧ GV X tg d δ δ' vs ∧ D.nx δ' M') : W1 X (.Assign [tg] e pos) δ M D := fun σ G H sd sat D' L =>
  SS1.of (ps_asg pe_SE pg_STg hs hw h1) (h σ G H sd sat _ fun v x M' G' H' ⟨d, δ', vs, ex, gv, q⟩ e' sat' r => by
    subst ex
    exact gv σ G' H' M' v (sd.mono e') sat' r _ fun σ' sd' _ => L.nx _ _ M' G' H' q e' sd' sat')
/-- names, one after another -/
def setAll {α : Type} (σ : List (Option α)) : List Nat → List α → List (Option α)
  | i :: is, v :: vs => setAll (σ.set i (some v)) is vs
  | _, _ => σ
def gNames (is : List Nat) : TGs := fun vs σ H Q => vs.length = is.length ∧ Q (setAll σ is vs) H
theorem gn_nil : PGs X [] (gNames []) := ⟨fun pins s σ H vs us Q I r h => by
  obtain ⟨e, h⟩ := h
  have : vs = [] := List.length_eq_zero_iff.mp e
  subst this
  exact (pgs_nil (X := X)).run pins s σ H [] us Q I r ⟨rfl, h⟩⟩
theorem gn_cons {i : Nat} {is : List Nat} {x : Str} {p2 : Pos} {es : List Expr} (hN : X.N.Nodup) (hi : X.N[i]? = some x) (hx : Loc X.env.scope x) (hf : X.fn x = true ∨ X.env.scope.names.lookup x = some .local) (h2 : PGs X es (gNames is))
    (hs : (assignEach (.Name x p2 :: es) X.env).map (·.2) = assign (.Name x p2) X.env :: (assignEach es X.env).map (·.2)) : PGs X (.Name x p2 :: es) (gNames (i :: is)) := ⟨fun pins s σ H vs us Q I r h => by
  obtain ⟨e, h⟩ := h
  cases vs with
  | nil => cases e
  | cons v vs => exact (pgs_cons (pg_name hN hi hx hf) h2 hs).run pins s σ H (v :: vs) us Q I r ⟨v, vs, rfl, by simpa using e, h⟩⟩
theorem sd_setAll {G : Hp} : ∀ {is : List Nat} {vs : List V} {xs : List S} {σ : L2.St} {δ : En}, SD G σ δ → RepSs G vs xs → SD G (setAll σ is vs) (setAll δ is xs)
  | [], _, _, _, _, h, _ => by unfold setAll; exact h
  | i :: is, [], [], _, _, h, .nil => h
  | i :: is, v :: vs, x :: xs, σ, δ, h, .cons a b => by
    show SD G (setAll (σ.set i (some v)) is vs) (setAll (δ.set i (some x)) is xs)
    exact sd_setAll (h.set a i) b
theorem w1_asgT {es : List Expr} {kk : Nat} {tpos : Pos} {e : Expr} {is : List Nat} (hc : X.calm = true) (hg : PGs X es (gNames is)) (hst : (assignEach es X.env).findIdx? (·.1) = none) (hn : (assignEach es X.env).length = is.length)
    (hs : swapsWithSole [.Tuple es kk tpos] e pos.line X.env = pure false) (hw : swappedStores [.Tuple es kk tpos] e X.env = pure none) (h1 : (assignEach [.Tuple es kk tpos] X.env).map (·.2) = [assign (.Tuple es kk tpos) X.env])
    (h : EV X e δ M fun v M' => ∃ ds : List PyData, v = .d (.tuple ds) ∧ ds.length = is.length ∧ D.nx (setAll δ is (ds.map S.d)) M') : W1 X (.Assign [.Tuple es kk tpos] e pos) δ M D := fun σ G H sd sat D' L =>
  SS1.of (ps_asg pe_SE (pg_tup hc hg rfl hst) hs hw h1) (h σ G H sd sat _ fun v x M' G' H' ⟨ds, ex, hl, q⟩ e' sat' r => by
    subst ex
    cases r with
    | tup hs1 ha => exact ⟨_, _, rfl, .inl (.inl (sat'.ex _ _ hs1)), by rw [ha.length, hl, hn], by rw [ha.length, hl], L.nx _ _ M' G' H' q e' (sd_setAll (sd.mono e') (RepSs.ofData ha)) sat'⟩)
/-- a, b, .. = x, y, .. where a tuple is made on the way -/
theorem w1_asgTT {es fs : List Expr} {kk k2 : Nat} {tpos tpos2 : Pos} {is : List Nat} (hc : X.calm = true) (hg : PGs X es (gNames is)) (hst : (assignEach es X.env).findIdx? (·.1) = none) (hn : (assignEach es X.env).length = is.length)
    (hs : swapsWithSole [.Tuple es kk tpos] (.Tuple fs k2 tpos2) pos.line X.env = pure false) (hw : swappedStores [.Tuple es kk tpos] (.Tuple fs k2 tpos2) X.env = pure none) (h1 : (assignEach [.Tuple es kk tpos] X.env).map (·.2) = [assign (.Tuple es kk tpos) X.env]) (h9 : is.length ≤ 1000)
    (h : AV X fs δ M fun xs M' => xs.length = is.length ∧ D.nx (setAll δ is xs) M') : W1 X (.Assign [.Tuple es kk tpos] (.Tuple fs k2 tpos2) pos) δ M D := fun σ G H sd sat D' L =>
  SS1.of (ps_asg (pe_tup pa_SA) (pg_tup hc hg rfl hst) hs hw h1) (h σ G H sd sat _ fun vs xs M' G' H' ⟨hl, q⟩ e' sat' r => by
    refine ⟨?_, fun p hp => ⟨p, vs, rfl, .inl (.inl upd_same), by rw [r.length, hl, hn], by rw [r.length, hl], ?_⟩⟩
    · rw [r.length, hl]; exact Nat.le_trans h9 (by decide)
    · refine L.nx _ _ M' G' _ q e' (sd_setAll (sd.mono e') r) ⟨fun a u ea => ?_, fun a m ea => ?_⟩
      · rw [upd_ne (ne_of_none (sat'.ex _ _ ea) hp)]; exact sat'.ex _ _ ea
      · obtain ⟨g, u, eu, rm⟩ := sat'.mu a m ea
        exact ⟨g, u, by rw [upd_ne (ne_of_none eu hp)]; exact eu, rm⟩)
/-- a, b = x, y with plain local names -/
theorem w1_par {i j : Nat} {x y : Str} {a b : Expr} {px py pt : Pos} {kt k2 : Nat} {pt2 : Pos} (hc : X.calm = true) (hN : X.N.Nodup) (hi : X.N[i]? = some x) (hj : X.N[j]? = some y) (hij : i ≠ j) (hx : X.env.scope.names.lookup x = some .local) (hy : X.env.scope.names.lookup y = some .local)
    (hw : swappedStores [.Tuple [.Name x px, .Name y py] kt pt] (.Tuple [a, b] k2 pt2) X.env = pure (some [x, y])) (hs : swapsWithSole [.Tuple [.Name x px, .Name y py] kt pt] (.Tuple [a, b] k2 pt2) pos.line X.env = pure false)
    (h : AV X [a, b] δ M fun xs M' => xs.length = 2 ∧ D.nx (setAll δ [i, j] xs) M') : W1 X (.Assign [.Tuple [.Name x px, .Name y py] kt pt] (.Tuple [a, b] k2 pt2) pos) δ M D := fun σ G H sd sat D' L =>
  SS1.of (ps_par hc hN hi hj hij hx hy pa_SA hw hs) (h σ G H sd sat _ fun vs xs M' G' H' ⟨hl, q⟩ e' sat' r => by
    have sd' := sd_setAll (is := [i, j]) (sd.mono e') r
    match vs, xs, r, hl with
    | [v, w'], [x1, x2], r, _ => exact ⟨v, w', rfl, L.nx _ _ M' G' H' q e' sd' sat'⟩
    | [], [], .nil, hl => simp at hl
    | [_], [_], .cons _ .nil, hl => simp at hl
    | _ :: _ :: _ :: _, _, .cons _ (.cons _ (.cons _ _)), hl => simp at hl)
theorem w1_par3 {i j l : Nat} {x y z : Str} {a b c : Expr} {px py pz pt : Pos} {kt k2 : Nat} {pt2 : Pos} (hc : X.calm = true) (hN : X.N.Nodup) (hi : X.N[i]? = some x) (hj : X.N[j]? = some y) (hl0 : X.N[l]? = some z) (hij : i ≠ j) (hil : i ≠ l) (hjl : j ≠ l)
    (hx : X.env.scope.names.lookup x = some .local) (hy : X.env.scope.names.lookup y = some .local) (hz : X.env.scope.names.lookup z = some .local)
    (hw : swappedStores [.Tuple [.Name x px, .Name y py, .Name z pz] kt pt] (.Tuple [a, b, c] k2 pt2) X.env = pure (some [x, y, z])) (hs : swapsWithSole [.Tuple [.Name x px, .Name y py, .Name z pz] kt pt] (.Tuple [a, b, c] k2 pt2) pos.line X.env = pure false)
    (h : AV X [a, b, c] δ M fun xs M' => xs.length = 3 ∧ D.nx (setAll δ [i, j, l] xs) M') : W1 X (.Assign [.Tuple [.Name x px, .Name y py, .Name z pz] kt pt] (.Tuple [a, b, c] k2 pt2) pos) δ M D := fun σ G H sd sat D' L =>
  SS1.of (ps_par3 hc hN hi hj hl0 hij hil hjl hx hy hz pa_SA hw hs) (h σ G H sd sat _ fun vs xs M' G' H' ⟨hl, q⟩ e' sat' r => by
    have sd' := sd_setAll (is := [i, j, l]) (sd.mono e') r
    match vs, xs, r, hl with
    | [u, v, w'], [x1, x2, x3], r, _ => exact ⟨u, v, w', rfl, L.nx _ _ M' G' H' q e' sd' sat'⟩
    | [], [], .nil, hl => simp at hl
    | [_], [_], .cons _ .nil, hl => simp at hl
    | [_, _], [_, _], .cons _ (.cons _ .nil), hl => simp at hl
    | _ :: _ :: _ :: _ :: _, _, .cons _ (.cons _ (.cons _ (.cons _ _))), hl => simp at hl)
/-- xs.append(e) -/
theorem w1_app {i : Nat} {x : Str} {p2 apos cpos : Pos} {e : Expr} {a : Addr} {ds0 : List PyData} (hN : X.N[i]? = some x) (hv : Vis X.env.scope x) (h : δ[i]? = some (some (.m a))) (hM : M a = some (.lst ds0))
    (hbase : attributeBase (.Name x p2) "append" X.env (eval (.Name x p2) X.env) = eval (.Name x p2) X.env)
    (hfew : ((backTo cpos (starEach [e] X.env)).all (fun x => !x.1) && (backToKw cpos (keywordEach [] X.env)).all (fun x => x.1.isSome) && decide (([e] : List Expr).length + ([] : List Keyword).length + (if ([] : List Keyword).isEmpty then 0 else 1) < 30)) = true)
    (hline : (apos.endLine == cpos.line) = true) (hs : starEach [e] X.env = (false, eval e X.env) :: starEach [] X.env) (hpl : (backTo cpos (starEach [] X.env)).any (·.1) = false) (hsw : swapsWith (.Call (.Attribute (.Name x p2) "append" apos) [e] [] cpos) none pos.line X.env = pure false)
    (he : EV X e δ M fun y M1 => ∃ d ds, y = .d d ∧ M1 a = some (.lst ds) ∧ ds.length < 100000 ∧ D.nx δ (mup M1 a (.lst (ds ++ [d]))))
    (hd : (x == ("__debug__" : Str)) = false := by decide) (hcd : (x == ("__classdict__" : Str)) = false := by decide) : W1 X (.Expr (.Call (.Attribute (.Name x p2) "append" apos) [e] [] cpos) pos) δ M D := fun σ G H sd sat D' L =>
  SS1.of (ps_expr (pe_bm PySem.F.plainAttrs_list PySem.F.slot_list_append PySem.F.type_list_append mt_append (pe_var hN hv hd hcd) (pa_cons pe_SE pa_nil hs) hbase hfew hline hs hpl) hsw) (by
    obtain ⟨v, ev, rv⟩ := sd.at_ i _ h
    have rv' : v = V.ref a := rv
    subst rv'
    obtain ⟨g0, u0, eu0, vs0, rfl, ra0⟩ := sat.mu a _ hM
    refine ⟨_, ev, .inl ⟨rfl, vs0, .inl (.inl eu0)⟩, he σ G H sd sat _ fun w' y M1 G1 H1 ⟨d, ds, ey, hM1, hl, q⟩ e1 sat1 r1 => ?_⟩
    subst ey
    obtain ⟨g, u, eu, vs, rfl, ra⟩ := sat1.mu a _ hM1
    refine ⟨a, vs, w', rfl, rfl, eu, by rw [ra.length]; exact Nat.lt_of_lt_of_le hl (by decide), ?_⟩
    exact L.nx _ _ _ G1 _ q e1 (sd.mono e1) (sat1.put hM1 ⟨_, rfl, ra.append (.cons r1 .nil)⟩))
/-- xs.extend(e) -/
theorem w1_ext {i : Nat} {x : Str} {p2 apos cpos : Pos} {e : Expr} {a : Addr} {ds0 : List PyData} (hN : X.N[i]? = some x) (hv : Vis X.env.scope x) (h : δ[i]? = some (some (.m a))) (hM : M a = some (.lst ds0))
    (hbase : attributeBase (.Name x p2) "extend" X.env (eval (.Name x p2) X.env) = eval (.Name x p2) X.env)
    (hfew : ((backTo cpos (starEach [e] X.env)).all (fun x => !x.1) && (backToKw cpos (keywordEach [] X.env)).all (fun x => x.1.isSome) && decide (([e] : List Expr).length + ([] : List Keyword).length + (if ([] : List Keyword).isEmpty then 0 else 1) < 30)) = true)
    (hline : (apos.endLine == cpos.line) = true) (hs : starEach [e] X.env = (false, eval e X.env) :: starEach [] X.env) (hpl : (backTo cpos (starEach [] X.env)).any (·.1) = false) (hsw : swapsWith (.Call (.Attribute (.Name x p2) "extend" apos) [e] [] cpos) none pos.line X.env = pure false)
    (he : EV X e δ M fun y M1 => ∃ es ds, y = .d (.list es) ∧ M1 a = some (.lst ds) ∧ ds.length + es.length ≤ 100000 ∧ D.nx δ (mup M1 a (.lst (ds ++ es))))
    (hd : (x == ("__debug__" : Str)) = false := by decide) (hcd : (x == ("__classdict__" : Str)) = false := by decide) : W1 X (.Expr (.Call (.Attribute (.Name x p2) "extend" apos) [e] [] cpos) pos) δ M D := fun σ G H sd sat D' L =>
  SS1.of (ps_expr (pe_bm PySem.F.plainAttrs_list PySem.F.slot_list_extend PySem.F.type_list_extend mt_extend (pe_var hN hv hd hcd) (pa_cons pe_SE pa_nil hs) hbase hfew hline hs hpl) hsw) (by
    obtain ⟨v, ev, rv⟩ := sd.at_ i _ h
    have rv' : v = V.ref a := rv
    subst rv'
    obtain ⟨g0, u0, eu0, vs0, rfl, ra0⟩ := sat.mu a _ hM
    refine ⟨_, ev, .inl ⟨rfl, vs0, .inl (.inl eu0)⟩, he σ G H sd sat _ fun w' y M1 G1 H1 ⟨es, ds, ey, hM1, hl, q⟩ e1 sat1 r1 => ?_⟩
    subst ey
    cases r1 with
    | lst hs1 hb =>
      obtain ⟨g, u, eu, vs, rfl, ra⟩ := sat1.mu a _ hM1
      refine ⟨a, _, vs, _, rfl, rfl, eu, sat1.ex _ _ hs1, by rw [ra.length, hb.length]; exact Nat.le_trans hl (by decide), ?_⟩
      exact L.nx _ _ _ G1 _ q e1 (sd.mono e1) (sat1.put hM1 ⟨_, rfl, ra.append hb⟩))
/-- o[i] = e, o a list that changes -/
theorem w1_setM {o ix e : Expr} {p2 : Pos} (hs : swapsWithSole [.Subscript o ix p2] e pos.line X.env = pure false) (hw : swappedStores [.Subscript o ix p2] e X.env = pure none) (h1 : (assignEach [.Subscript o ix p2] X.env).map (·.2) = [assign (.Subscript o ix p2) X.env])
    (ha : ∀ v, assign (.Subscript o ix p2) X.env v = (do
      let ov ← holding [v] (eval o X.env)
      let iv ← holding [v, ov] (eval ix X.env)
      standAt p2
      holding [v, ov, iv] (setItem ov iv v)
      release [v, ov, iv] []))
    (h : EV X e δ M fun v M1 => EV X o δ M1 fun y M2 => EV X ix δ M2 fun z M3 => ∃ d a j ds, v = .d d ∧ y = .m a ∧ z = .d (.int ((j : Nat) : Int)) ∧ M3 a = some (.lst ds) ∧ j < ds.length ∧ D.nx δ (mup M3 a (.lst (ds.set j d)))) : W1 X (.Assign [.Subscript o ix p2] e pos) δ M D := fun σ G H sd sat D' L =>
  SS1.of (ps_asg pe_SE (pg_sub pe_SE pe_SE set_list ha) hs hw h1) (h σ G H sd sat _ fun v x M1 G1 H1 q1 e1 sat1 r1 => q1 σ G1 H1 (sd.mono e1) sat1 _ fun u y M2 G2 H2 q2 e2 sat2 r2 => q2 σ G2 H2 (sd.mono (e1.trans e2)) sat2 _ fun w' z M3 G3 H3 ⟨d, a, j, ds, ex, ey, ez, hM, hj, q⟩ e3 sat3 r3 => by
    subst ex; subst ey; subst ez
    cases r3
    have r2' : u = V.ref a := r2
    subst r2'
    obtain ⟨g, ob, eo, vs, rfl, ra⟩ := sat3.mu a _ hM
    refine ⟨a, vs, (j : Int), j, rfl, rfl, eo, ?_, ?_⟩
    · unfold ixN
      have : j < vs.length := by rw [ra.length]; exact hj
      rw [if_pos (by omega), if_pos (by omega)]
      simp
    · exact L.nx _ _ _ G3 _ q ((e1.trans e2).trans e3) (sd.mono ((e1.trans e2).trans e3)) (sat3.put hM ⟨_, rfl, RpA.set (rp_ex (e2.trans e3) _ _ r1) j ra⟩))
/-- d["k"] = e -/
theorem w1_dput {o e : Expr} {k : Str} {j : Nat} {p2 p3 : Pos} (hu : X.A.units + 1 < cLine) (hs : swapsWith e (some (.Subscript o (.Constant (.str k) j p3) p2)) pos.line X.env = pure false)
    (h : EV X e δ M fun v M1 => EV X o δ M1 fun y M2 => ∃ a es, y = .m a ∧ M2 a = some (.dK es) ∧ es.length < 1000 ∧ D.nx δ (mup M2 a (.dK (putG es (Sum.inr k : Key) v)))) : W1 X (.Assign [.Subscript o (.Constant (.str k) j p3) p2] e pos) δ M D := fun σ G H sd sat D' L =>
  SS1.of (ps_dput hu pe_SE pe_str pe_SE hs) (h σ G H sd sat _ fun v x M1 G1 H1 q1 e1 sat1 r1 => q1 σ G1 H1 (sd.mono e1) sat1 _ fun u y M2 G2 H2 ⟨a, es, ey, hM, hl, q⟩ e2 sat2 r2 => by
    subst ey
    have r2' : u = V.ref a := r2
    subst r2'
    obtain ⟨g, ob, eo, ps, rfl, pr⟩ := sat2.mu a _ hM
    refine ⟨a, _, rfl, DPut.k (k := (Sum.inr k : Key)) eo (by rw [pr_len (R := RepS G2) pr]; exact Nat.lt_of_lt_of_le hl (by decide)), ?_⟩
    exact L.nx _ _ _ G2 _ q (e1.trans e2) (sd.mono (e1.trans e2)) (sat2.put hM ⟨_, rfl, pr_put (R := RepS G2) pr (reps_ex e2 r1)⟩))
/-- d[t] = e, t a tuple of ints -/
theorem w1_dputT {o ix e : Expr} {p2 : Pos} (hu : X.A.units + 1 < cLine) (hs : swapsWith e (some (.Subscript o ix p2)) pos.line X.env = pure false)
    (h : EV X e δ M fun v M1 => EV X o δ M1 fun y M2 => EV X ix δ M2 fun z M3 => ∃ d a es ns, v = .d d ∧ y = .m a ∧ z = .d (.tuple ((ns : List Int).map PyData.int)) ∧ M3 a = some (.dT es) ∧ es.length < 1000 ∧ D.nx δ (mup M3 a (.dT (putG es (ns.map Sum.inl : List Key) d)))) : W1 X (.Assign [.Subscript o ix p2] e pos) δ M D := fun σ G H sd sat D' L =>
  SS1.of (ps_dput hu pe_SE pe_SE pe_SE hs) (h σ G H sd sat _ fun v x M1 G1 H1 q1 e1 sat1 r1 => q1 σ G1 H1 (sd.mono e1) sat1 _ fun u y M2 G2 H2 q2 e2 sat2 r2 => q2 σ G2 H2 (sd.mono (e1.trans e2)) sat2 _ fun w' z M3 G3 H3 ⟨d, a, es, ns, ex, ey, ez, hM, hl, q⟩ e3 sat3 r3 => by
    subst ex; subst ey; subst ez
    have r2' : u = V.ref a := r2
    subst r2'
    cases r3 with
    | tup hs1 ha =>
      rw [ha.ints] at hs1
      obtain ⟨g, ob, eo, ps, rfl, pr⟩ := sat3.mu a _ hM
      have ek : ((ns.map Sum.inl : List Key).map kV) = ns.map V.int := by rw [List.map_map]; rfl
      refine ⟨a, _, rfl, DPut.t (k := (ns.map Sum.inl : List Key)) eo (by rw [ek]; exact sat3.ex _ _ hs1) (by rw [pr_len (R := Rp G3) pr]; exact Nat.lt_of_lt_of_le hl (by decide)), ?_⟩
      exact L.nx _ _ _ G3 _ q ((e1.trans e2).trans e3) (sd.mono ((e1.trans e2).trans e3)) (sat3.put hM ⟨_, rfl, pr_put (R := Rp G3) pr (rp_ex (e2.trans e3) _ _ r1)⟩))

/-! ### loops -/
theorem w1_for {tg iter : Expr} {body : List Stmt} {ds : List PyData} (hp : PassesOwn (model X.prog X.w) X.A X.env X.xe) (hc : X.calm = true) (hs : ∀ x, foldedSetIterable iter X.env x = pure x) (hi : IV X tg iter δ ds) (inv : Nat → En → Mu → Prop) (h0 : inv 0 δ M)
    (step : ∀ i d δ' M', ds[i]? = some d → inv i δ' M' → ∃ δt vs, GV X tg d δ' δt vs ∧ WS X body δt M' { nx := inv (i + 1), rt := D.rt, bk := D.nx, ct := inv (i + 1) }) (hd : ∀ δ' M', inv ds.length δ' M' → D.nx δ' M') : W1 X (.For tg iter body [] pos) δ M D :=
  fun σ G H sd sat D' L => SS1.of (ps_for hp hc pi_SI pg_STg pss_SSs hs) (hi σ G H M sd sat _ fun J G1 H1 e1 sat1 W => by
    refine ⟨fun i m σ' H' => m + i = ds.length ∧ ∃ δ' M' G', Ex G1 G' ∧ SD G' σ' δ' ∧ Sat G' M' H' ∧ inv i δ' M', ⟨ds.length, rfl, δ, M, G1, Ex.refl G1, sd.mono e1, sat1, h0⟩, ?_⟩
    rintro i m σ2 H2 ⟨hm, δ2, M2, G2, e2, sd2, sat2, v2⟩
    obtain ⟨w1, w2⟩ := W i G2 H2 M2 e2 sat2
    rcases Nat.lt_or_ge i ds.length with hlt | hge
    · have hx : ds[i]? = some ds[i] := List.getElem?_eq_getElem hlt
      obtain ⟨go, yl⟩ := w1 _ hx
      refine .inr ⟨go, fun σ' H' => ∃ δ' M' G', Ex G1 G' ∧ SD G' σ' δ' ∧ Sat G' M' H' ∧ inv (i + 1) δ' M', fun σ' H' h => ⟨m - 1, by omega, by omega, h⟩, fun v H3 y => ?_⟩
      obtain ⟨G3, e3, sat3, r3⟩ := yl v H3 y
      obtain ⟨δt, vs, gv, wb⟩ := step i _ δ2 M2 hx v2
      refine gv σ2 G3 H3 M2 v (sd2.mono e3) sat3 r3 _ fun σ4 sd4 _ => ?_
      refine wb σ4 G3 H3 sd4 sat3 _ ⟨fun σ' δ' M' G' H' q e sd' sat' => ⟨δ', M', G', (e2.trans e3).trans e, sd', sat', q⟩, fun v x M' G' H' q e => L.rt v x M' G' H' q (((e1.trans e2).trans e3).trans e), fun σ' δ' M' G' H' q e => L.nx σ' δ' M' G' H' q (((e1.trans e2).trans e3).trans e), fun σ' δ' M' G' H' q e sd' sat' => ⟨δ', M', G', (e2.trans e3).trans e, sd', sat', q⟩⟩
    · refine .inl ⟨w2 hge, ?_⟩
      have ei : i = ds.length := by omega
      rw [ei] at v2
      exact L.nx σ2 δ2 M2 G2 H2 (hd δ2 M2 v2) (e1.trans e2) sd2 sat2)
theorem w1_while {c : Expr} {body : List Stmt} (hp : PassesOwn (model X.prog X.w) X.A X.env X.xe) (inv : Nat → En → Mu → Prop) (h0 : ∃ m, inv m δ M)
    (step : ∀ m δ' M', inv m δ' M' → TV X c δ' M' fun p M1 => (p = true → WS X body δ' M1 { nx := fun δ2 M2 => ∃ m', m' < m ∧ inv m' δ2 M2, rt := D.rt, bk := D.nx, ct := fun δ2 M2 => ∃ m', m' < m ∧ inv m' δ2 M2 }) ∧ (p = false → D.nx δ' M1)) : W1 X (.While c body [] pos) δ M D :=
  fun σ G H sd sat D' L => SS1.of (ps_while hp pt_ST pss_SSs) (by
    obtain ⟨m0, v0⟩ := h0
    refine ⟨fun m σ' H' => ∃ δ' M' G', Ex G G' ∧ SD G' σ' δ' ∧ Sat G' M' H' ∧ inv m δ' M', ⟨m0, δ, M, G, Ex.refl G, sd, sat, v0⟩, ?_⟩
    rintro m σ1 H1 ⟨δ1, M1, G1, e1, sd1, sat1, v1⟩
    refine step m δ1 M1 v1 σ1 G1 H1 sd1 sat1 _ fun p M2 G2 H2 ⟨q1, q2⟩ e2 sat2 => ?_
    cases p with
    | true =>
      rw [if_pos rfl]
      refine ⟨fun σ' H' => ∃ m', m' < m ∧ ∃ δ' M' G', Ex G G' ∧ SD G' σ' δ' ∧ Sat G' M' H' ∧ inv m' δ' M', fun σ' H' ⟨m', hm, h⟩ => ⟨m', hm, h⟩, ?_⟩
      exact q1 rfl σ1 G2 H2 (sd1.mono e2) sat2 _ ⟨fun σ' δ' M' G' H' ⟨m', hm, q⟩ e sd' sat' => ⟨m', hm, δ', M', G', (e1.trans e2).trans e, sd', sat', q⟩, fun v x M' G' H' q e => L.rt v x M' G' H' q ((e1.trans e2).trans e), fun σ' δ' M' G' H' q e => L.nx σ' δ' M' G' H' q ((e1.trans e2).trans e), fun σ' δ' M' G' H' ⟨m', hm, q⟩ e sd' sat' => ⟨m', hm, δ', M', G', (e1.trans e2).trans e, sd', sat', q⟩⟩
    | false =>
      rw [if_neg Bool.false_ne_true]
      exact L.nx σ1 δ1 M2 G2 H2 (q2 rfl) (e1.trans e2) (sd1.mono e2) sat2)
end

/-! ### a def keeps its promise -/
def startD (N : List Str) (xs : List S) : En := xs.map some ++ List.replicate (N.length - xs.length) none
theorem sd_start {G : Hp} {N : List Str} {vs : List V} {xs : List S} (r : RepSs G vs xs) : SD G (L2.start N vs) (startD N xs) where
  len := by unfold L2.start startD; rw [List.length_append, List.length_append, List.length_map, List.length_map, List.length_replicate, List.length_replicate, r.length]
  at_ := fun i x q => by
    unfold startD at q
    unfold L2.start
    have hget : ∀ {vs : List V} {xs : List S} {i : Nat}, RepSs G vs xs → (xs.map some)[i]? = some (some x) → ∃ v, (vs.map some)[i]? = some (some v) ∧ RepS G v x := by
      intro vs xs i r
      induction r generalizing i with
      | nil => intro q; simp at q
      | cons a b ih =>
        intro q
        cases i with
        | zero => simp at q; subst q; exact ⟨_, rfl, a⟩
        | succ i =>
          obtain ⟨v, e, rv⟩ := ih (i := i) (by simpa using q)
          exact ⟨v, by simpa using e, rv⟩
    by_cases h : i < xs.length
    · rw [List.getElem?_append_left (by rw [List.length_map]; exact h)] at q
      obtain ⟨v, e, rv⟩ := hget r q
      exact ⟨v, by rw [List.getElem?_append_left (by rw [List.length_map, r.length]; exact h)]; exact e, rv⟩
    · rw [List.getElem?_append_right (by rw [List.length_map]; omega)] at q
      exfalso
      have := List.mem_of_getElem? q
      have := List.eq_of_mem_replicate this
      cases this
section
variable {P : Program} {w : World} {K : PySem.W.Frag} {mg : Str → Option Value} {base : Heap}
/-- the context of a def's body -/
abbrev XOf (P : Program) (w : World) (K : PySem.W.Frag) (mg : Str → Option Value) (base : Heap) (N : List Str) (qual : Str) (sc : Scope) (f : Addr) (cdv : Value) (A : Around) (outer : List Env) (s : Shared) (H : Hp) (E : XK) : Cx := (cxOf CX0 P w K mg base N qual sc f cdv A outer s H E).nox
theorem fnd_of {x : Str} {st : Stmt} {a : Addr} {fd : FuncData} {N ps : List Str} {k : Nat} {f : DS} (F : Fun K x x st a fd) (Sc : FnScope N ps (defScope st)) (hm : mg x = some (.ref a)) (hb : Binds K fd ps []) (len : ∀ xs M Φ, f xs M Φ → xs.length = ps.length)
    (body : ∀ (cdv : Value) (A : Around) (outer : List Env) (s : Shared) (H : Hp) (E : XK) (xs : List S) (M : Mu) (Φ : S → Mu → Prop), Room k (XOf P w K mg base N x (defScope st) a cdv A outer s H E).A → f xs M Φ →
      WS (XOf P w K mg base N x (defScope st) a cdv A outer s H E) (defBody st) (startD N xs) M { nx := fun _ M' => Φ (.d .none) M', rt := Φ }) : FnD P w K mg base (k + 1) x ps f := by
  refine ⟨a, fd, F.ok Sc (fun vs H Q E h => ?_) (fun cdv A outer s H vs Q E hr h => ?_), hm, F.kp, hb⟩
  · obtain ⟨G, M, xs, r, sat, q⟩ := h
    rw [r.length]
    exact len _ _ _ q
  · obtain ⟨G, M, xs, r, sat, q⟩ := h
    refine ⟨_, pss_SSs, body cdv A outer s H E xs M _ hr q (L2.start N vs) G H (sd_start r) sat _ ⟨fun σ δ M' G' H' q e sd sat => q V.non G' H' e sat .non, fun v x M' G' H' q e sat r => q v G' H' e sat r, fun _ _ _ _ _ q => q.elim, fun _ _ _ _ _ q => q.elim⟩⟩
end
end DL
/-! Comprehensions over one name or two, in one piece. -/
namespace DL
open PySem PySem.Spec PyProof.Rows L2
section
variable {X : Cx} {δ : En} {M : Mu} {Ψ : S → Mu → Prop} {pos : Pos} {D : DE} {α : Type}
/-- [elt for x in iter if ..] -/
structure LC1 (X : Cx) (δ : En) (own : List (Str × Nat)) (i : Nat) (x : Str) (px : Pos) (iter : Expr) (ifs : List Expr) (elt : Expr) (scope : Scope) (xs : List α) (g f : α → PyData) (p : α → Bool) : Prop where
  hi : IV X (.Name x px) iter δ (xs.map g)
  ht : ∀ s H0 C cl fp, ∀ z ∈ xs, EIf (blkX X scope s H0 C cl fp) ifs ((wipeD δ (own.map (·.2))).set i (some (.d (g z)))) (p z)
  he : ∀ s H0 C cl fp, ∀ z ∈ xs, p z = true → EE (blkX X scope s H0 C cl fp) elt ((wipeD δ (own.map (·.2))).set i (some (.d (g z)))) (f z)
  hl : xs.length ≤ 100000
  hs : ∀ v, foldedSetIterable iter X.env v = pure v
  ok : BlkOk X.N X.env.scope scope own
  hx : ∀ s H0 C cl fp, Loc (blkX X scope s H0 C cl fp).env.scope x
  hf : ∀ s H0 C cl fp, (blkX X scope s H0 C cl fp).fn x = true ∨ (blkX X scope s H0 C cl fp).env.scope.names.lookup x = some .local
  hn : X.N[i]? = some x
  hw : i ∈ own.map (·.2)
  hN : X.N.Nodup
  hc : X.calm = true
section
variable {own : List (Str × Nat)} {i : Nat} {x : Str} {px : Pos} {iter : Expr} {ifs : List Expr} {elt : Expr} {scope : Scope} {xs : List α} {g f : α → PyData} {p : α → Bool}
theorem LC1.hg (h : LC1 X δ own i x px iter ifs elt scope xs g f p) : ∀ s H0 C cl fp, ∀ z ∈ xs, GV (blkX X scope s H0 C cl fp) (.Name x px) (g z) (wipeD δ (own.map (·.2))) ((wipeD δ (own.map (·.2))).set i (some (.d (g z)))) [i] :=
  fun s H0 C cl fp z _ => gv_name h.hN h.hn (h.hx s H0 C cl fp) (h.hf s H0 C cl fp)
theorem LC1.sub (h : LC1 X δ own i x px iter ifs elt scope xs g f p) : ∀ j ∈ [i], j ∈ own.map (·.2) := fun j hj => by
  cases List.mem_singleton.mp hj; exact h.hw
theorem LC1.ee (h : LC1 X δ own i x px iter ifs elt scope xs g f p) : EE X (.ListComp elt [⟨.Name x px, iter, ifs, 0⟩] scope pos) δ (.list ((xs.filter p).map f)) :=
  ee_lc own [i] h.hc h.hN h.ok h.sub h.hs h.hi h.hl h.hg h.ht h.he
theorem LC1.evM (h : LC1 X δ own i x px iter ifs elt scope xs g f p) (q : ∀ a, M a = none → Ψ (.m a) (mup M a (.lst ((xs.filter p).map f)))) : EV X (.ListComp elt [⟨.Name x px, iter, ifs, 0⟩] scope pos) δ M Ψ :=
  ev_lcM own [i] h.hc h.hN h.ok h.sub h.hs h.hi h.hl h.hg h.ht h.he q
theorem LC1.set (h : LC1 X δ own i x px iter ifs elt scope xs g f p) {j : Nat} {y : Str} {py spos : Pos} (q : D.nx (δ.set j (some (.d (.list ((xs.filter p).map f))))) M) (hy : X.N[j]? = some y) (hyl : X.env.scope.names.lookup y = some .local)
    (hsw : swapsWith (.ListComp elt [⟨.Name x px, iter, ifs, 0⟩] scope pos) (some (.Name y py)) spos.line X.env = pure true) : W1 X (.Assign [.Name y py] (.ListComp elt [⟨.Name x px, iter, ifs, 0⟩] scope pos) spos) δ M D :=
  w1_setLc own [i] h.hc h.hN hy hyl hsw h.ok h.sub h.hs h.hi h.hl h.hg h.ht h.he q
end
section
variable {own : List (Str × Nat)} {i : Nat} {x : Str} {px : Pos} {iter : Expr} {ifs : List Expr} {elt : Expr} {scope : Scope} {xs : List α} {g f : α → PyData} {p : α → Bool}
theorem LC1.setM (h : LC1 X δ own i x px iter ifs elt scope xs g f p) {j : Nat} {y : Str} {py spos : Pos} (q : ∀ a, M a = none → D.nx (δ.set j (some (.m a))) (mup M a (.lst ((xs.filter p).map f)))) (hy : X.N[j]? = some y) (hyl : X.env.scope.names.lookup y = some .local)
    (hsw : swapsWith (.ListComp elt [⟨.Name x px, iter, ifs, 0⟩] scope pos) (some (.Name y py)) spos.line X.env = pure true) : W1 X (.Assign [.Name y py] (.ListComp elt [⟨.Name x px, iter, ifs, 0⟩] scope pos) spos) δ M D :=
  w1_setLcM own [i] h.hc h.hN hy hyl hsw h.ok h.sub h.hs h.hi h.hl h.hg h.ht h.he q
end
/-- [elt for x, y in iter if ..] -/
structure LC2 (X : Cx) (δ : En) (own : List (Str × Nat)) (i j : Nat) (x y : Str) (px py pt : Pos) (kk : Nat) (iter : Expr) (ifs : List Expr) (elt : Expr) (scope : Scope) (xs : List α) (g g2 f : α → PyData) (p : α → Bool) : Prop where
  hi : IV X (.Tuple [.Name x px, .Name y py] kk pt) iter δ (xs.map fun z => .tuple [g z, g2 z])
  ht : ∀ s H0 C cl fp, ∀ z ∈ xs, EIf (blkX X scope s H0 C cl fp) ifs (((wipeD δ (own.map (·.2))).set i (some (.d (g z)))).set j (some (.d (g2 z)))) (p z)
  he : ∀ s H0 C cl fp, ∀ z ∈ xs, p z = true → EE (blkX X scope s H0 C cl fp) elt (((wipeD δ (own.map (·.2))).set i (some (.d (g z)))).set j (some (.d (g2 z)))) (f z)
  hl : xs.length ≤ 100000
  hs : ∀ v, foldedSetIterable iter X.env v = pure v
  ok : BlkOk X.N X.env.scope scope own
  hx : ∀ s H0 C cl fp, Loc (blkX X scope s H0 C cl fp).env.scope x
  hf : ∀ s H0 C cl fp, (blkX X scope s H0 C cl fp).fn x = true ∨ (blkX X scope s H0 C cl fp).env.scope.names.lookup x = some .local
  hx2 : ∀ s H0 C cl fp, Loc (blkX X scope s H0 C cl fp).env.scope y
  hf2 : ∀ s H0 C cl fp, (blkX X scope s H0 C cl fp).fn y = true ∨ (blkX X scope s H0 C cl fp).env.scope.names.lookup y = some .local
  hn : X.N[i]? = some x
  hn2 : X.N[j]? = some y
  hw : i ∈ own.map (·.2)
  hw2 : j ∈ own.map (·.2)
  hN : X.N.Nodup
  hc : X.calm = true
section
variable {own : List (Str × Nat)} {i j : Nat} {x y : Str} {px py pt : Pos} {kk : Nat} {iter : Expr} {ifs : List Expr} {elt : Expr} {scope : Scope} {xs : List α} {g g2 f : α → PyData} {p : α → Bool}
theorem LC2.hg (h : LC2 X δ own i j x y px py pt kk iter ifs elt scope xs g g2 f p) : ∀ s H0 C cl fp, ∀ z ∈ xs, GV (blkX X scope s H0 C cl fp) (.Tuple [.Name x px, .Name y py] kk pt) (.tuple [g z, g2 z]) (wipeD δ (own.map (·.2))) (((wipeD δ (own.map (·.2))).set i (some (.d (g z)))).set j (some (.d (g2 z)))) [i, j] :=
  fun s H0 C cl fp z _ => gv_two h.hc h.hN h.hn h.hn2 (h.hx s H0 C cl fp) (h.hx2 s H0 C cl fp) (h.hf s H0 C cl fp) (h.hf2 s H0 C cl fp) rfl rfl rfl rfl
theorem LC2.sub (h : LC2 X δ own i j x y px py pt kk iter ifs elt scope xs g g2 f p) : ∀ l ∈ [i, j], l ∈ own.map (·.2) := fun l hl => by
  rcases List.mem_cons.mp hl with e | e
  · rw [e]; exact h.hw
  · cases List.mem_singleton.mp e; exact h.hw2
theorem LC2.ee (h : LC2 X δ own i j x y px py pt kk iter ifs elt scope xs g g2 f p) : EE X (.ListComp elt [⟨.Tuple [.Name x px, .Name y py] kk pt, iter, ifs, 0⟩] scope pos) δ (.list ((xs.filter p).map f)) :=
  ee_lc own [i, j] h.hc h.hN h.ok h.sub h.hs h.hi h.hl h.hg h.ht h.he
theorem LC2.set (h : LC2 X δ own i j x y px py pt kk iter ifs elt scope xs g g2 f p) {l : Nat} {z : Str} {pz spos : Pos} (q : D.nx (δ.set l (some (.d (.list ((xs.filter p).map f))))) M) (hy : X.N[l]? = some z) (hyl : X.env.scope.names.lookup z = some .local)
    (hsw : swapsWith (.ListComp elt [⟨.Tuple [.Name x px, .Name y py] kk pt, iter, ifs, 0⟩] scope pos) (some (.Name z pz)) spos.line X.env = pure true) : W1 X (.Assign [.Name z pz] (.ListComp elt [⟨.Tuple [.Name x px, .Name y py] kk pt, iter, ifs, 0⟩] scope pos) spos) δ M D :=
  w1_setLc own [i, j] h.hc h.hN hy hyl hsw h.ok h.sub h.hs h.hi h.hl h.hg h.ht h.he q
end
theorem filter_tt {xs : List α} {β : Type} {f : α → β} : (xs.filter fun _ => true).map f = xs.map f := by
  rw [List.filter_eq_self.mpr (fun _ _ => rfl)]
theorem IV.to {tg iter : Expr} {ds ds' : List PyData} (h : IV X tg iter δ ds) (e : ds = ds') : IV X tg iter δ ds' := e ▸ h
end
end DL
/-! Order of tuples of ints; sums of tuples; statements in a handy shape. -/
namespace DL
open PySem PySem.Spec PyProof.Rows L2
theorem dataLt_tI (a b : List Int) : PySem.W.dataLt (.tuple (a.map .int)) (.tuple (b.map .int)) = decide (a < b) := by
  rw [PySem.W.dataLt_tuple]; exact PySem.W.dataLt_ints a b
theorem cr_sumT {X : Cx} (hc : X.calm = true) : CallR X (.builtin "sum") (fun vs H Q => ∃ (a : Addr) (ns : List Int), vs = [V.ref a] ∧ SqT X.K H a (ns.map V.int) ∧ Q (.int ns.sum) H) := by
  intro pins s σ H vs us Q I r h
  obtain ⟨a, ns, rfl, hs, q⟩ := h
  obtain ⟨its, rv, hl, _⟩ := I.tuple hs
  rw [Vals.ref1 r]
  have hi := rv.ints
  obtain ⟨xs, hx⟩ := hi.allInts.items
  have hn : numsOf its.toArray.toList = ns := by rw [show its.toArray.toList = its from rfl, hi.numsOf]
  rw [hx] at hl hn
  rw [nums_intItems] at hn
  refine PySem.W.ktm_sumG (I.ok.hd hc) hl fun h' tk t' hk => ?_
  have e : preSum (numAt xs) xs.size = ns.sum := by rw [preSum_eq, List.take_of_length_le (by simp), hn]
  rw [e]
  exact ⟨.int _, H, I.kept hk, ⟨_, rfl⟩, q⟩
section
variable {X : Cx} {δ : En} {M : Mu} {Ψ : S → Mu → Prop} {pos : Pos} {D : DE}
theorem cv_sumT (hc : X.calm = true) {ns : List Int} : CallV X (.builtin "sum") [.tuple (ns.map PyData.int)] (.int ns.sum) := fun G H M vs sat h Q k => by
  cases h with
  | cons a b =>
    cases b
    cases a with
    | tup hs ha =>
      rw [ha.ints] at hs
      exact SCl.of (cr_sumT hc) ⟨_, ns, rfl, .inl (.inl (sat.ex _ _ hs)), k _ G H (Ex.refl G) sat (.int _)⟩
theorem op_geD {k : Nat} (hu : X.A.units + k < cLine) : OpR X (compareOp .GtE) (fun x y H Q => ∃ d e, Dp X.K H x d ∧ Dp X.K H y e ∧ PySem.W.alike d e = true ∧ d ≠ .none ∧ min d.depth e.depth ≤ k ∧ Q (.bl (!PySem.W.dataLt d e)) H) := by
  intro pins s σ H x y v u Q I rx ry h
  obtain ⟨d, e, hd, he, ha, hn, hk, q⟩ := h
  obtain ⟨as, r1⟩ := Dp.reads I d x v hd rx
  obtain ⟨bs, r2⟩ := Dp.reads I e y u he ry
  exact PySem.W.ge_data r1 r2 ha hn (by omega) ⟨.bl _, H, I, rfl, q⟩
/-- a >= b, tuples of ints -/
theorem bv_geT (hu : X.A.units + 64 < cLine) {a b : List Int} : BinV X (compareOp .GtE) (.tuple (a.map .int)) (.tuple (b.map .int)) (.bool (!decide (a < b))) := fun G H M x y sat hx hy Q k =>
  SOp.of (op_geD hu) ⟨_, _, rp_dp sat.ex _ _ hx, rp_dp sat.ex _ _ hy, by rw [PySem.W.alike]; exact PySem.W.alike_ints a b, (fun h => nomatch h), Nat.le_trans (Nat.min_le_left _ _) (depth1 a), by rw [dataLt_tI]; exact k _ G H (Ex.refl G) sat (.bl _)⟩
where
  depth1 (a : List Int) : (PyData.tuple (a.map PyData.int)).depth ≤ 64 := by
    show PyData.depthAll (a.map PyData.int) + 1 ≤ 64
    rw [PySem.W.depth_ints]; decide
/-! statements -/
theorem w1_setE {i : Nat} {x : Str} {p2 : Pos} {e : Expr} {d : PyData} (h : EE X e δ d) (q : D.nx (δ.set i (some (.d d))) M) (hN : X.N.Nodup) (hi : X.N[i]? = some x) (hx : Loc X.env.scope x) (hf : X.fn x = true ∨ X.env.scope.names.lookup x = some .local) (hs : swapsWith e (some (.Name x p2)) pos.line X.env = pure false) : W1 X (.Assign [.Name x p2] e pos) δ M D :=
  w1_set hN hi hx hf hs (h.ev q)
theorem w1_setV {i : Nat} {x : Str} {p2 : Pos} {e : Expr} (h : EV X e δ M fun v M' => D.nx (δ.set i (some v)) M') (hN : X.N.Nodup) (hi : X.N[i]? = some x) (hx : Loc X.env.scope x) (hf : X.fn x = true ∨ X.env.scope.names.lookup x = some .local) (hs : swapsWith e (some (.Name x p2)) pos.line X.env = pure false) : W1 X (.Assign [.Name x p2] e pos) δ M D :=
  w1_set hN hi hx hf hs h
/-- for x in iter: .. -/
theorem w1_forN {i : Nat} {x : Str} {px : Pos} {iter : Expr} {body : List Stmt} {ds : List PyData} (inv : Nat → En → Mu → Prop) (hi : IV X (.Name x px) iter δ ds) (h0 : inv 0 δ M)
    (step : ∀ j d δ' M', ds[j]? = some d → inv j δ' M' → WS X body (δ'.set i (some (.d d))) M' { nx := inv (j + 1), rt := D.rt, bk := D.nx, ct := inv (j + 1) }) (hd : ∀ δ' M', inv ds.length δ' M' → D.nx δ' M')
    (hN : X.N.Nodup) (hn : X.N[i]? = some x) (hx : Loc X.env.scope x) (hf : X.fn x = true ∨ X.env.scope.names.lookup x = some .local) (hp : PassesOwn (model X.prog X.w) X.A X.env X.xe) (hc : X.calm = true) (hs : ∀ x, foldedSetIterable iter X.env x = pure x) : W1 X (.For (.Name x px) iter body [] pos) δ M D :=
  w1_for hp hc hs hi inv h0 (fun j d δ' M' h1 h2 => ⟨_, _, gv_name hN hn hx hf, step j d δ' M' h1 h2⟩) hd
/-- for x, y in iter: .. -/
theorem w1_forT {i l : Nat} {x y : Str} {px py pt : Pos} {kk : Nat} {iter : Expr} {body : List Stmt} {ds : List (PyData × PyData)} (inv : Nat → En → Mu → Prop) (hi : IV X (.Tuple [.Name x px, .Name y py] kk pt) iter δ (ds.map fun q => .tuple [q.1, q.2])) (h0 : inv 0 δ M)
    (step : ∀ j d e δ' M', ds[j]? = some (d, e) → inv j δ' M' → WS X body ((δ'.set i (some (.d d))).set l (some (.d e))) M' { nx := inv (j + 1), rt := D.rt, bk := D.nx, ct := inv (j + 1) }) (hd : ∀ δ' M', inv ds.length δ' M' → D.nx δ' M')
    (hN : X.N.Nodup) (hn : X.N[i]? = some x) (hn2 : X.N[l]? = some y) (hx : Loc X.env.scope x) (hf : X.fn x = true ∨ X.env.scope.names.lookup x = some .local) (hx2 : Loc X.env.scope y) (hf2 : X.fn y = true ∨ X.env.scope.names.lookup y = some .local)
    (hp : PassesOwn (model X.prog X.w) X.A X.env X.xe) (hc : X.calm = true) (hs : ∀ x, foldedSetIterable iter X.env x = pure x) : W1 X (.For (.Tuple [.Name x px, .Name y py] kk pt) iter body [] pos) δ M D :=
  w1_for hp hc hs hi inv h0 (fun j d δ' M' h1 h2 => by
    rw [List.getElem?_map] at h1
    cases e : ds[j]? with
    | none => rw [e] at h1; cases h1
    | some q =>
      rw [e] at h1
      cases h1
      exact ⟨_, _, gv_two hc hN hn hn2 hx hx2 hf hf2 rfl rfl rfl rfl, step j q.1 q.2 δ' M' e h2⟩) (by rw [List.length_map]; exact hd)
theorem range_at {lo : Int} {n j : Nat} {d : PyData} (h : (rangeD lo n)[j]? = some d) : j < n ∧ d = .int (lo + (j : Int)) := by
  unfold rangeD at h
  rw [List.getElem?_map] at h
  by_cases hi : j < n
  · rw [List.getElem?_range hi] at h; cases h; exact ⟨hi, rfl⟩
  · rw [List.getElem?_eq_none (by rw [List.length_range]; omega)] at h; cases h
theorem range_len {lo : Int} {n : Nat} : (rangeD lo n).length = n := by unfold rangeD; rw [List.length_map, List.length_range]
end
end DL
/-! More statements: a name and a place in one line; lists that change. -/
namespace DL
open PySem PySem.Spec PyProof.Rows L2
theorem Sat.junk {G H : Hp} {M : Mu} (h : Sat G M H) {p : Addr} {o : HO} (hp : H p = none) : Sat G M (upd H p o) :=
  ⟨fun a u ea => by rw [upd_ne (ne_of_none (h.ex _ _ ea) hp)]; exact h.ex a u ea, fun a m ea => by
    obtain ⟨g, u, eu, rm⟩ := h.mu a m ea
    exact ⟨g, u, by rw [upd_ne (ne_of_none eu hp)]; exact eu, rm⟩⟩
section
variable {X : Cx} {δ : En} {M : Mu} {Ψ : S → Mu → Prop} {pos : Pos} {D : DE}
/-- x, o[ix] = .. -/
theorem w1_asgNS {i : Nat} {x : Str} {px p2 tpos tpos2 : Pos} {o ix : Expr} {fs : List Expr} {kk k2 : Nat} (hc : X.calm = true) (hN : X.N.Nodup) (hi : X.N[i]? = some x) (hx : Loc X.env.scope x) (hf : X.fn x = true ∨ X.env.scope.names.lookup x = some .local)
    (hst : (assignEach [.Name x px, .Subscript o ix p2] X.env).findIdx? (·.1) = none) (hn : (assignEach [.Name x px, .Subscript o ix p2] X.env).length = 2)
    (hs : swapsWithSole [.Tuple [.Name x px, .Subscript o ix p2] kk tpos] (.Tuple fs k2 tpos2) pos.line X.env = pure false) (hw : swappedStores [.Tuple [.Name x px, .Subscript o ix p2] kk tpos] (.Tuple fs k2 tpos2) X.env = pure none) (h1 : (assignEach [.Tuple [.Name x px, .Subscript o ix p2] kk tpos] X.env).map (·.2) = [assign (.Tuple [.Name x px, .Subscript o ix p2] kk tpos) X.env])
    (h2 : (assignEach [.Name x px, .Subscript o ix p2] X.env).map (·.2) = assign (.Name x px) X.env :: (assignEach [.Subscript o ix p2] X.env).map (·.2)) (h3 : (assignEach [.Subscript o ix p2] X.env).map (·.2) = assign (.Subscript o ix p2) X.env :: (assignEach [] X.env).map (·.2))
    (ha : ∀ v, assign (.Subscript o ix p2) X.env v = (do
      let ov ← holding [v] (eval o X.env)
      let iv ← holding [v, ov] (eval ix X.env)
      standAt p2
      holding [v, ov, iv] (setItem ov iv v)
      release [v, ov, iv] []))
    (h : AV X fs δ M fun xs M' => ∃ (u : S) (d : PyData), xs = [u, .d d] ∧ EV X o (δ.set i (some u)) M' fun y M2 => EV X ix (δ.set i (some u)) M2 fun z M3 => ∃ a j ds, y = .m a ∧ z = .d (.int ((j : Nat) : Int)) ∧ M3 a = some (.lst ds) ∧ j < ds.length ∧ D.nx (δ.set i (some u)) (mup M3 a (.lst (ds.set j d)))) :
    W1 X (.Assign [.Tuple [.Name x px, .Subscript o ix p2] kk tpos] (.Tuple fs k2 tpos2) pos) δ M D := fun σ G H sd sat D' L =>
  SS1.of (ps_asg (pe_tup pa_SA) (pg_tup hc (pgs_cons (pg_name hN hi hx hf) (pgs_cons (pg_sub pe_SE pe_SE set_list ha) pgs_nil h3) h2) hn hst) hs hw h1) (h σ G H sd sat _ fun vs xs M' G' H' ⟨u, d, ex, q⟩ e' sat' r => by
    subst ex
    cases r with
    | cons r1 r =>
      cases r with
      | cons r2 r =>
        cases r
        rename_i v1 v2
        refine ⟨(by decide : 2 ≤ sizeLine), fun p hp => ⟨p, _, rfl, .inl (.inl upd_same), rfl, v1, _, rfl, v2, _, rfl, ?_⟩⟩
        refine q (σ.set i (some v1)) G' _ ((sd.mono e').set r1 i) (sat'.junk hp) _ fun u' y M2 G2 H2 q2 e2 sat2 ry => q2 (σ.set i (some v1)) G2 H2 (((sd.mono e').set r1 i).mono e2) sat2 _ fun w' z M3 G3 H3 ⟨a, j, ds, ey, ez, hM, hj, q3⟩ e3 sat3 rz => ?_
        subst ey; subst ez
        cases rz
        have ry' : u' = V.ref a := ry
        subst ry'
        obtain ⟨g, ob, eo, ws, rfl, ra⟩ := sat3.mu a _ hM
        refine ⟨a, ws, (j : Int), j, rfl, rfl, eo, ?_, ?_⟩
        · unfold ixN
          have : j < ws.length := by rw [ra.length]; exact hj
          rw [if_pos (by omega), if_pos (by omega)]
          simp
        · exact ⟨rfl, L.nx _ _ _ G3 _ q3 ((e'.trans e2).trans e3) (((sd.mono e').set r1 i).mono (e2.trans e3)) (sat3.put hM ⟨_, rfl, RpA.set (rp_ex (e2.trans e3) _ _ r2) j ra⟩)⟩)
/-- [d] * n, that will change -/
theorem ev_rep1M {a b : Expr} {d : PyData} {n : Nat} (ha : EE X a δ (.list [d])) (hb : EE X b δ (.int (n : Int))) (hn : n ≤ 100000) (q : ∀ p, M p = none → Ψ (.m p) (mup M p (.lst (List.replicate n d)))) : EV X (.BinOp a .Mult b pos) δ M Ψ :=
  fun σ G H sd sat Q k => SE.of (pe_op op_rep pe_SE pe_SE) (ha M (fun x M1 => x = .d (.list [d]) ∧ M1 = M) ⟨rfl, rfl⟩ σ G H sd sat _ fun v x M1 G1 H1 hx e1 sat1 r1 => by
    obtain ⟨rfl, rfl⟩ := hx
    refine hb M1 (fun x M2 => x = .d (.int (n : Int)) ∧ M2 = M1) ⟨rfl, rfl⟩ σ G1 H1 (sd.mono e1) sat1 _ fun u y M2 G2 H2 hy e2 sat2 r2 => ?_
    obtain ⟨rfl, rfl⟩ := hy
    cases r2
    cases rp_ex e2 _ _ r1 with
    | lst hs ra =>
      refine ⟨_, _, _, rfl, rfl, sat2.ex _ _ hs, by omega, by omega, ?_, fun p hp => ?_⟩
      · rw [ra.length]
        have : ([d] : List PyData).length = 1 := rfl
        rw [this, Nat.one_mul, Int.toNat_natCast]
        exact Nat.le_trans hn (by decide)
      · have e : (List.replicate n [d]).flatten = List.replicate n d := by
          clear hn hb q
          induction n with
          | zero => rfl
          | succ n ih => rw [List.replicate_succ, List.flatten_cons, ih]; rfl
        have ra2 := rpa_rep ra n
        rw [e] at ra2
        exact k _ _ _ G2 _ (q p (sat2.fresh hp).2) (e1.trans e2) (sat2.newM hp ⟨_, rfl, ra2⟩) rfl)
end
end DL
/-! Data that is alike or not. -/
namespace DL
open PySem PySem.Spec PyProof.Rows L2
theorem mup_comm {M : Mu} {a b : Addr} {o u : MO} (h : a ≠ b) : mup (mup M a o) b u = mup (mup M b u) a o := by
  funext c; unfold mup
  by_cases e : c = b
  · have : ¬ c = a := fun z => h (z.symm.trans e)
    rw [if_pos e, if_neg this, if_pos e]
  · by_cases z : c = a
    · rw [if_neg e, if_pos z, if_pos z]
    · rw [if_neg e, if_neg z, if_neg z, if_neg e]
/-- plain data of a depth -/
def Dep (k : Nat) (d : PyData) : Prop := d.canLay0 = true ∧ d.depth ≤ k
theorem Dep.shaped {k : Nat} {d : PyData} (h : Dep k d) (hk : k ≤ 64) : SeqAt.shaped d = true := by
  unfold SeqAt.shaped
  rw [h.1, decide_eq_true (Nat.le_trans h.2 hk)]; rfl
theorem dep_int {i : Int} : Dep 0 (.int i) := ⟨by simp [PyData.canLay0], by simp [PyData.depth]⟩
theorem dep_bool {i : Bool} : Dep 0 (.bool i) := ⟨by simp [PyData.canLay0], by simp [PyData.depth]⟩
theorem dep_str {i : Str} (h : PyData.strOk i = true) : Dep 0 (.str i) := ⟨by simp [PyData.canLay0, h], by simp [PyData.depth]⟩
theorem dep_none : Dep 0 .none := ⟨by simp [PyData.canLay0], by simp [PyData.depth]⟩
theorem Dep.mono {k j : Nat} {d : PyData} (h : Dep k d) (hk : k ≤ j) : Dep j d := ⟨h.1, Nat.le_trans h.2 hk⟩
theorem dep_all {k : Nat} : ∀ {ds : List PyData}, (∀ d ∈ ds, Dep k d) → PyData.canLayAll0 ds = true ∧ PyData.depthAll ds ≤ k
  | [], _ => ⟨by simp [PyData.canLayAll0], by simp [PyData.depthAll]⟩
  | d :: ds, h => by
    obtain ⟨a, b⟩ := dep_all fun x hx => h x (List.mem_cons_of_mem _ hx)
    obtain ⟨a1, b1⟩ := h d List.mem_cons_self
    refine ⟨by rw [PyData.canLayAll0, a1, a]; rfl, ?_⟩
    rw [PyData.depthAll]
    omega
theorem dep_list {k : Nat} {ds : List PyData} (h : ∀ d ∈ ds, Dep k d) : Dep (k + 1) (.list ds) := ⟨by rw [PyData.canLay0]; exact (dep_all h).1, by rw [PyData.depth]; have := (dep_all h).2; omega⟩
theorem dep_tuple {k : Nat} {ds : List PyData} (h : ∀ d ∈ ds, Dep k d) : Dep (k + 1) (.tuple ds) := ⟨by rw [PyData.canLay0]; exact (dep_all h).1, by rw [PyData.depth]; have := (dep_all h).2; omega⟩
theorem dep_maps {α : Type} {k : Nat} {xs : List α} {f : α → PyData} (h : ∀ x ∈ xs, Dep k (f x)) : ∀ d ∈ xs.map f, Dep k d := fun d hd => by
  obtain ⟨x, hx, rfl⟩ := List.mem_map.mp hd
  exact h x hx
theorem dep_lI {ns : List Int} : Dep 1 (.list (ns.map PyData.int)) := dep_list (dep_maps fun _ _ => dep_int)
theorem dep_tI {ns : List Int} : Dep 1 (.tuple (ns.map PyData.int)) := dep_tuple (dep_maps fun _ _ => dep_int)
theorem dep_ltI {rs : List (List Int)} : Dep 2 (.list (rs.map fun r => .tuple (r.map PyData.int))) := dep_list (dep_maps fun _ _ => dep_tI)
theorem dep_ttI {rs : List (List Int)} : Dep 2 (.tuple (rs.map fun r => .tuple (r.map PyData.int))) := dep_tuple (dep_maps fun _ _ => dep_tI)
/-- what is laid out alike is alike -/
theorem eqvAll_map {α : Type} [DecidableEq α] {f : α → PyData} (h : ∀ x y, PyData.eqv (f x) (f y) = decide (x = y)) : ∀ xs ys : List α, PyData.eqvAll (xs.map f) (ys.map f) = decide (xs = ys)
  | [], [] => by simp [PyData.eqvAll]
  | [], _ :: _ => by simp [PyData.eqvAll]
  | _ :: _, [] => by simp [PyData.eqvAll]
  | x :: xs, y :: ys => by
    rw [List.map_cons, List.map_cons, PyData.eqvAll, h, eqvAll_map h xs ys]
    by_cases a : x = y <;> by_cases b : xs = ys <;> simp [a, b]
theorem eqv_int {i j : Int} : PyData.eqv (.int i) (.int j) = decide (i = j) := by rw [PyData.eqv]; rfl
theorem eqv_tI {a b : List Int} : PyData.eqv (.tuple (a.map PyData.int)) (.tuple (b.map PyData.int)) = decide (a = b) := by
  rw [PyData.eqv]; exact eqvAll_map (fun _ _ => eqv_int) a b
theorem eqv_lI {a b : List Int} : PyData.eqv (.list (a.map PyData.int)) (.list (b.map PyData.int)) = decide (a = b) := by
  rw [PyData.eqv]; exact eqvAll_map (fun _ _ => eqv_int) a b
theorem eqv_ttI {a b : List (List Int)} : PyData.eqv (.tuple (a.map fun r => .tuple (r.map PyData.int))) (.tuple (b.map fun r => .tuple (r.map PyData.int))) = decide (a = b) := by
  rw [PyData.eqv]; exact eqvAll_map (fun _ _ => eqv_tI) a b
theorem eqv_listNil {α : Type} {f : α → PyData} {xs : List α} : PyData.eqv (.list (xs.map f)) (.list []) = xs.isEmpty := by
  rw [PyData.eqv]
  cases xs with
  | nil => simp [PyData.eqvAll]
  | cons x xs => simp [PyData.eqvAll]
theorem eqv_tupNil {α : Type} {f : α → PyData} {xs : List α} : PyData.eqv (.tuple (xs.map f)) (.tuple []) = xs.isEmpty := by
  rw [PyData.eqv]
  cases xs with
  | nil => simp [PyData.eqvAll]
  | cons x xs => simp [PyData.eqvAll]
section
variable {X : Cx}
theorem bv_neNil {α : Type} {f : α → PyData} {xs : List α} {k : Nat} (hu : X.A.units + 64 < cLine) (h : ∀ x ∈ xs, Dep k (f x)) (hk : k < 64) : BinV X (compareOp .NotEq) (.list (xs.map f)) (.list []) (.bool (!xs.isEmpty)) := by
  have := bv_neD (X := X) hu ((dep_list (dep_maps h)).shaped hk) ((dep_list (k := 0) (ds := []) (fun _ h => nomatch h)).shaped (by decide))
  rwa [eqv_listNil] at this
theorem bv_eqNil {α : Type} {f : α → PyData} {xs : List α} {k : Nat} (hu : X.A.units + 64 < cLine) (h : ∀ x ∈ xs, Dep k (f x)) (hk : k < 64) : BinV X (compareOp .Eq) (.list (xs.map f)) (.list []) (.bool xs.isEmpty) := by
  have := bv_eqD (X := X) hu ((dep_list (dep_maps h)).shaped hk) ((dep_list (k := 0) (ds := []) (fun _ h => nomatch h)).shaped (by decide))
  rwa [eqv_listNil] at this
end
end DL
/-! The program's text by places; what its top leaves. -/
namespace KP
open PySem PySem.Spec PyProof.Rows L2 DL
def top (i : Nat) : Stmt := PySem.Challenge.pw_idleclauses_k11_whole_halves.main.body.getD i (.Pass ⟨0, 0, 0, 0⟩)
def dOf (x : Str) (i : Nat) : He.DefD := ⟨(x, none), x, x, defArgs (top i), defBody (top i), defScope (top i), [], []⟩
def fn : List He.DefD := [dOf "is_integer" 1, dOf "is_between" 2, dOf "are_rising" 3, dOf "is_literal" 4, dOf "is_clause" 5, dOf "by_names" 6, dOf "need_bundle" 16,
  dOf "turned_table" 18, dOf "first_bound" 19, dOf "first_table" 20, dOf "greatest_of" 21, dOf "need_form" 23, dOf "weight_of" 27, dOf "does_weigh" 28, dOf "is_row" 29, dOf "are_halves_of" 30, dOf "are_halves" 31,
  dOf "all_halves" 32, dOf "rounded_row" 33, dOf "need_weighing" 34, dOf "rounded" 35, dOf "sign_in" 36, dOf "weighed_in" 37, dOf "halves_paper" 38, dOf "heft_at" 39, dOf "do_clash" 40, dOf "check_halves" 41,
  dOf "light_setting" 42, dOf "tidy_by" 43, dOf "_law_mixed" 45, dOf "_law_begin" 46, dOf "_law_draw" 47, dOf "_law_of" 48, dOf "_law_clause" 49, dOf "_law_bundle" 50, dOf "_law_is_int" 51, dOf "_law_weight" 52,
  dOf "_law_does_weigh" 53, dOf "_law_are_halves" 54, dOf "_law_rows" 55, dOf "_law_do_clash" 56, dOf "_law_due" 57, dOf "_law_light" 58, dOf "_law_weighings_right" 59, dOf "_law_bundle_right" 60, dOf "law" 61]
/-- the built-in names that are used -/
def frees : List Str := ["isinstance", "int", "bool", "tuple", "str", "len", "all", "zip", "abs", "sorted", "enumerate", "list", "range", "sum", "max", "min", "repr"]
def fa : List He.Fa := (fn.map fun d => .glo d.name) ++ (frees.map fun x => .free x) ++ [.int "MOST_NAMES" 7, .int "MOST_CLAUSES" 16, .str "HALVES" "halves", .str "CLASH" "clash"]
/-- what the top leaves -/
structure Txt (K : PySem.W.Frag) (mg : Str → Option Value) : Prop where
  ex : ∃ h : Heap, K.In h ∧ h.Ns mainGlobals mg
  says : He.SaysD fa fn K
section
variable {P : Program} {w : World} {K : PySem.W.Frag} {mg : Str → Option Value} {base : Heap}
theorem Txt.free (T : Txt K mg) (i : Nat) {x : Str} (h : fa[i]? = some (.free x)) : mg x = none := by
  obtain ⟨hp, X, G⟩ := T.ex
  exact He.free_ok X G (T.says.fact i h)
theorem Txt.glo (T : Txt K mg) (i : Nat) {x : Str} (h : fa[i]? = some (.glo x)) : mg x = some (.ref (He.ga K x)) := by
  obtain ⟨hp, X, G⟩ := T.ex
  exact He.glo_ok X G (T.says.fact i h)
theorem Txt.int (T : Txt K mg) (i : Nat) {x : Str} {z : Int} (h : fa[i]? = some (.int x z)) : ∃ t, mg x = some (.int z t) := by
  obtain ⟨hp, X, G⟩ := T.ex
  exact He.int_ok X G (T.says.fact i h)
theorem Txt.str (T : Txt K mg) (i : Nat) {x z : Str} (h : fa[i]? = some (.str x z)) : ∃ t, mg x = some (.str z t) := by
  obtain ⟨hp, X, G⟩ := T.ex
  exact He.str_ok X G (T.says.fact i h)
theorem z_isinstance (T : Txt K mg) : mg "isinstance" = none := T.free 46 rfl
theorem z_int (T : Txt K mg) : mg "int" = none := T.free 47 rfl
theorem z_bool (T : Txt K mg) : mg "bool" = none := T.free 48 rfl
theorem z_tuple (T : Txt K mg) : mg "tuple" = none := T.free 49 rfl
theorem z_str (T : Txt K mg) : mg "str" = none := T.free 50 rfl
theorem z_len (T : Txt K mg) : mg "len" = none := T.free 51 rfl
theorem z_all (T : Txt K mg) : mg "all" = none := T.free 52 rfl
theorem z_zip (T : Txt K mg) : mg "zip" = none := T.free 53 rfl
theorem z_abs (T : Txt K mg) : mg "abs" = none := T.free 54 rfl
theorem z_sorted (T : Txt K mg) : mg "sorted" = none := T.free 55 rfl
theorem z_enumerate (T : Txt K mg) : mg "enumerate" = none := T.free 56 rfl
theorem z_list (T : Txt K mg) : mg "list" = none := T.free 57 rfl
theorem z_range (T : Txt K mg) : mg "range" = none := T.free 58 rfl
theorem z_sum (T : Txt K mg) : mg "sum" = none := T.free 59 rfl
theorem z_max (T : Txt K mg) : mg "max" = none := T.free 60 rfl
theorem z_min (T : Txt K mg) : mg "min" = none := T.free 61 rfl
theorem z_repr (T : Txt K mg) : mg "repr" = none := T.free 62 rfl
/-- how a def's arguments bind -/
abbrev BindOk (x : Str) (j : Nat) (ps : List Str) : Prop := ∀ (kV doc pm : Value) (an : Option Addr) (cdv ct : Value) (us : List Value), us.length = ps.length →
  bindArgs (PySem.W.fnOf x x (defArgs (top j)) (defBody (top j)) (defScope (top j)) .none kV doc pm an cdv ct) ⟨us, []⟩ = pure (ps.zip us)
/-- the context of the j-th statement's body -/
def Xj (P : Program) (w : World) (K : PySem.W.Frag) (mg : Str → Option Value) (base : Heap) (N : List Str) (x : Str) (j : Nat) (f : Addr) (cdv : Value) (A : Around) (outer : List Env) (s : Shared) (H : Hp) (E : XK) : Cx := XOf P w K mg base N x (defScope (top j)) f cdv A outer s H E
theorem fnd (T : Txt K mg) (i : Nat) {x : Str} {j : Nat} {N ps : List Str} {k : Nat} {f : DS} (hi : fn[i]? = some (dOf x j)) (hg : fa[i]? = some (.glo x)) (Sc : FnScope N ps (defScope (top j))) (hb : BindOk x j ps) (len : ∀ xs M Φ, f xs M Φ → xs.length = ps.length)
    (body : ∀ (a : Addr) (cdv : Value) (A : Around) (outer : List Env) (s : Shared) (H : Hp) (E : XK) (xs : List S) (M : Mu) (Φ : S → Mu → Prop), Room k (Xj P w K mg base N x j a cdv A outer s H E).A → f xs M Φ →
      WS (Xj P w K mg base N x j a cdv A outer s H E) (defBody (top j)) (startD N xs) M { nx := fun _ M' => Φ (.d .none) M', rt := Φ }) : FnD P w K mg base (k + 1) x ps f := by
  obtain ⟨fd, F⟩ := T.says.def_ i hi
  have F : FunD K x x (defArgs (top j)) (defBody (top j)) (defScope (top j)) [] [] (He.ga K x) fd := F
  refine ⟨He.ga K x, fd, F.ok Sc (fun vs H Q E h => ?_) (fun cdv A outer s H vs Q E hr h => ?_), T.glo i hg, F.kp, F.bindsN hb⟩
  · obtain ⟨G, M, xs, r, sat, q⟩ := h
    rw [r.length]
    exact len _ _ _ q
  · obtain ⟨G, M, xs, r, sat, q⟩ := h
    refine ⟨_, PSs.nox pss_SSs, body (He.ga K x) cdv A outer s H E xs M _ hr q (L2.start N vs) G H (sd_start r) sat _ ⟨fun σ δ M' G' H' q e sd sat => q V.non G' H' e sat .non, fun v x M' G' H' q e sat r => q v G' H' e sat r, fun _ _ _ _ _ q => q.elim, fun _ _ _ _ _ q => q.elim⟩⟩
end
end KP
/-! What steps through an expression by itself. -/
namespace KP
open PySem PySem.Spec PyProof.Rows L2 DL
section
variable {P : Program} {w : World} {K : PySem.W.Frag} {mg : Str → Option Value} {base : Heap} {X : Cx} {δ : En} {M : Mu} {Ψ : S → Mu → Prop} {pos : Pos}
theorem fa_frees : ∀ (i : Nat), fa[46 + i]? = (frees.map fun x => He.Fa.free x)[i]? ∨ 17 ≤ i := by
  intro i
  match i with
  | 0 | 1 | 2 | 3 | 4 | 5 | 6 | 7 | 8 | 9 | 10 | 11 | 12 | 13 | 14 | 15 | 16 => exact .inl rfl
  | n + 17 => exact .inr (by omega)
theorem z_of (T : Txt K mg) {x : Str} (h : frees.contains x = true) : mg x = none := by
  have hm : x ∈ frees := List.contains_iff_mem.mp h
  obtain ⟨i, hi⟩ := List.getElem?_of_mem hm
  refine T.free (46 + i) ?_
  rcases fa_frees i with e | e
  · rw [e, List.getElem?_map, hi]; rfl
  · rw [List.getElem?_eq_none (by exact e)] at hi; cases hi
/-! built-ins, by name -/
abbrev SE1 (X : Cx) (e : Expr) (es : List Expr) (pos : Pos) : Prop := starEach (e :: es) X.env = (false, eval e X.env) :: starEach es X.env ∧ (backTo pos (starEach es X.env)).any (·.1) = false
theorem ee_absN {p : Pos} {e : Expr} {i : Int} (h : EE X e δ (.int i)) (hg : Gl X "abs") (hm : X.mg "abs" = none) (he : starEach (e :: []) X.env = (false, eval e X.env) :: starEach [] X.env) : EE X (.Call (.Name "abs" p) [e] [] pos) δ (.int (i.natAbs : Int)) :=
  ee_callB (id := "abs") (ds := [.int i]) hg hm (by decide +kernel) he rfl (ea_cons he h ea_nil) cv_abs
theorem ee_lenN {p : Pos} {e : Expr} {ds : List PyData} (h : EE X e δ (.list ds) ∨ EE X e δ (.tuple ds)) (hg : Gl X "len") (hm : X.mg "len" = none) (he : starEach (e :: []) X.env = (false, eval e X.env) :: starEach [] X.env) : EE X (.Call (.Name "len" p) [e] [] pos) δ (.int (ds.length : Int)) := by
  rcases h with h | h
  · exact ee_callB (id := "len") (ds := [.list ds]) hg hm (by decide +kernel) he rfl (ea_cons he h ea_nil) cv_lenL
  · exact ee_callB (id := "len") (ds := [.tuple ds]) hg hm (by decide +kernel) he rfl (ea_cons he h ea_nil) cv_lenT
theorem ee_lenL {p : Pos} {e : Expr} {ds : List PyData} (h : EE X e δ (.list ds)) (hg : Gl X "len") (hm : X.mg "len" = none) (he : starEach (e :: []) X.env = (false, eval e X.env) :: starEach [] X.env) : EE X (.Call (.Name "len" p) [e] [] pos) δ (.int (ds.length : Int)) := ee_lenN (.inl h) hg hm he
theorem ee_lenT {p : Pos} {e : Expr} {ds : List PyData} (h : EE X e δ (.tuple ds)) (hg : Gl X "len") (hm : X.mg "len" = none) (he : starEach (e :: []) X.env = (false, eval e X.env) :: starEach [] X.env) : EE X (.Call (.Name "len" p) [e] [] pos) δ (.int (ds.length : Int)) := ee_lenN (.inr h) hg hm he
theorem ee_tupN {p : Pos} {e : Expr} {ds : List PyData} (h : EE X e δ (.list ds)) (hg : Gl X "tuple") (hm : X.mg "tuple" = none) (he : starEach (e :: []) X.env = (false, eval e X.env) :: starEach [] X.env) : EE X (.Call (.Name "tuple" p) [e] [] pos) δ (.tuple ds) :=
  ee_callT (T := "tuple") (ds := [.list ds]) hg hm (by decide +kernel) he rfl (ea_cons he h ea_nil) cv_tupL
theorem ee_lstN {p : Pos} {e : Expr} {ds : List PyData} (h : EE X e δ (.list ds)) (hg : Gl X "list") (hm : X.mg "list" = none) (he : starEach (e :: []) X.env = (false, eval e X.env) :: starEach [] X.env) : EE X (.Call (.Name "list" p) [e] [] pos) δ (.list ds) :=
  ee_callT (T := "list") (ds := [.list ds]) hg hm (by decide +kernel) he rfl (ea_cons he h ea_nil) cv_lstL
theorem ee_intIN {p : Pos} {e : Expr} {i : Int} (h : EE X e δ (.int i)) (hg : Gl X "int") (hm : X.mg "int" = none) (he : starEach (e :: []) X.env = (false, eval e X.env) :: starEach [] X.env) : EE X (.Call (.Name "int" p) [e] [] pos) δ (.int i) :=
  ee_callT (T := "int") (ds := [.int i]) hg hm (by decide +kernel) he rfl (ea_cons he h ea_nil) cv_intI
theorem ee_intBN {p : Pos} {e : Expr} {b : Bool} (h : EE X e δ (.bool b)) (hg : Gl X "int") (hm : X.mg "int" = none) (he : starEach (e :: []) X.env = (false, eval e X.env) :: starEach [] X.env) : EE X (.Call (.Name "int" p) [e] [] pos) δ (.int (if b then 1 else 0)) :=
  ee_callT (T := "int") (ds := [.bool b]) hg hm (by decide +kernel) he rfl (ea_cons he h ea_nil) cv_intB
theorem ee_sumN {p : Pos} {e : Expr} {ns : List Int} (h : EE X e δ (.list (ns.map PyData.int))) (hc : X.calm = true) (hg : Gl X "sum") (hm : X.mg "sum" = none) (he : starEach (e :: []) X.env = (false, eval e X.env) :: starEach [] X.env) : EE X (.Call (.Name "sum" p) [e] [] pos) δ (.int ns.sum) :=
  ee_callB (id := "sum") (ds := [.list (ns.map PyData.int)]) hg hm (by decide +kernel) he rfl (ea_cons he h ea_nil) (cv_sum hc)
theorem ee_sumTN {p : Pos} {e : Expr} {ns : List Int} (h : EE X e δ (.tuple (ns.map PyData.int))) (hc : X.calm = true) (hg : Gl X "sum") (hm : X.mg "sum" = none) (he : starEach (e :: []) X.env = (false, eval e X.env) :: starEach [] X.env) : EE X (.Call (.Name "sum" p) [e] [] pos) δ (.int ns.sum) :=
  ee_callB (id := "sum") (ds := [.tuple (ns.map PyData.int)]) hg hm (by decide +kernel) he rfl (ea_cons he h ea_nil) (cv_sumT hc)
theorem ee_maxLN {p : Pos} {e : Expr} {ns : List Int} {m : Int} (h : EE X e δ (.list (ns.map PyData.int))) (h1 : m ∈ ns) (h2 : ∀ y ∈ ns, y ≤ m) (hc : X.calm = true) (hg : Gl X "max") (hm : X.mg "max" = none) (he : starEach (e :: []) X.env = (false, eval e X.env) :: starEach [] X.env) : EE X (.Call (.Name "max" p) [e] [] pos) δ (.int m) :=
  ee_callB (id := "max") (ds := [.list (ns.map PyData.int)]) hg hm (by decide +kernel) he rfl (ea_cons he h ea_nil) (cv_maxL hc h1 h2)
theorem ee_allN {p : Pos} {e : Expr} {bs : List Bool} (h : EE X e δ (.list (bs.map PyData.bool))) (hc : X.calm = true) (hg : Gl X "all") (hm : X.mg "all" = none) (he : starEach (e :: []) X.env = (false, eval e X.env) :: starEach [] X.env) : EE X (.Call (.Name "all" p) [e] [] pos) δ (.bool (bs.all id)) :=
  ee_callB (id := "all") (ds := [.list (bs.map PyData.bool)]) hg hm (by decide +kernel) he rfl (ea_cons he h ea_nil) (cv_all hc)
theorem ee_minN {p : Pos} {e e2 : Expr} {i j : Int} (h : EE X e δ (.int i)) (h2 : EE X e2 δ (.int j)) (hc : X.calm = true) (hg : Gl X "min") (hm : X.mg "min" = none) (he : starEach (e :: [e2]) X.env = (false, eval e X.env) :: starEach [e2] X.env) (he2 : starEach (e2 :: []) X.env = (false, eval e2 X.env) :: starEach [] X.env) (hpl : (backTo pos (starEach [e2] X.env)).any (·.1) = false) : EE X (.Call (.Name "min" p) [e, e2] [] pos) δ (.int (if j < i then j else i)) :=
  ee_callB (id := "min") (ds := [.int i, .int j]) hg hm (by decide +kernel) he hpl (ea_cons he h (ea_cons he2 h2 ea_nil)) (cv_min2 hc)
theorem ee_maxN {p : Pos} {e e2 : Expr} {i j : Int} (h : EE X e δ (.int i)) (h2 : EE X e2 δ (.int j)) (hc : X.calm = true) (hg : Gl X "max") (hm : X.mg "max" = none) (he : starEach (e :: [e2]) X.env = (false, eval e X.env) :: starEach [e2] X.env) (he2 : starEach (e2 :: []) X.env = (false, eval e2 X.env) :: starEach [] X.env) (hpl : (backTo pos (starEach [e2] X.env)).any (·.1) = false) : EE X (.Call (.Name "max" p) [e, e2] [] pos) δ (.int (if j > i then j else i)) :=
  ee_callB (id := "max") (ds := [.int i, .int j]) hg hm (by decide +kernel) he hpl (ea_cons he h (ea_cons he2 h2 ea_nil)) (cv_max2 hc)
/-- isinstance by kind -/
theorem ee_isiN {e : Expr} {p p2 : Pos} {T : Str} {t : String} {d : PyData} {b : Bool} (h : EE X e δ d) (hk : kitB (tyD d) t = some b) (hvT : bootBuiltins T = some (.type t)) (hmT : X.mg T = none) (hm : X.mg "isinstance" = none) (hg : Gl X "isinstance") (hgT : Gl X T) 
    (he : starEach [e, .Name T p2] X.env = (false, eval e X.env) :: starEach [.Name T p2] X.env) (hnT : T ≠ "__name__") (hdT : (T == ("__debug__" : Str)) = false) : EE X (.Call (.Name "isinstance" p) [e, .Name T p2] [] pos) δ (.bool b) :=
  ee_isi hg hm hgT hmT hvT hk he rfl rfl h hnT hdT
def isInt : PyData → Bool
  | .int _ => true
  | _ => false
def isIB : PyData → Bool
  | .int _ => true
  | .bool _ => true
  | _ => false
def isBl : PyData → Bool
  | .bool _ => true
  | _ => false
def isTup : PyData → Bool
  | .tuple _ => true
  | _ => false
def isStr : PyData → Bool
  | .str _ => true
  | _ => false
def noDict : PyData → Bool
  | .dict _ => false
  | _ => true
theorem kit_int : ∀ {d : PyData}, noDict d = true → kitB (tyD d) "int" = some (isIB d)
  | .none, _ => (by decide +kernel : kitB "NoneType" "int" = some false)
  | .bool _, _ => (by decide +kernel : kitB "bool" "int" = some true)
  | .int _, _ => (by decide +kernel : kitB "int" "int" = some true)
  | .str _, _ => (by decide +kernel : kitB "str" "int" = some false)
  | .list _, _ => (by decide +kernel : kitB "list" "int" = some false)
  | .tuple _, _ => (by decide +kernel : kitB "tuple" "int" = some false)
  | .dict _, h => by cases h
theorem kit_bool : ∀ {d : PyData}, noDict d = true → kitB (tyD d) "bool" = some (isBl d)
  | .none, _ => (by decide +kernel : kitB "NoneType" "bool" = some false)
  | .bool _, _ => (by decide +kernel : kitB "bool" "bool" = some true)
  | .int _, _ => (by decide +kernel : kitB "int" "bool" = some false)
  | .str _, _ => (by decide +kernel : kitB "str" "bool" = some false)
  | .list _, _ => (by decide +kernel : kitB "list" "bool" = some false)
  | .tuple _, _ => (by decide +kernel : kitB "tuple" "bool" = some false)
  | .dict _, h => by cases h
theorem kit_tup : ∀ {d : PyData}, noDict d = true → kitB (tyD d) "tuple" = some (isTup d)
  | .none, _ => (by decide +kernel : kitB "NoneType" "tuple" = some false)
  | .bool _, _ => (by decide +kernel : kitB "bool" "tuple" = some false)
  | .int _, _ => (by decide +kernel : kitB "int" "tuple" = some false)
  | .str _, _ => (by decide +kernel : kitB "str" "tuple" = some false)
  | .list _, _ => (by decide +kernel : kitB "list" "tuple" = some false)
  | .tuple _, _ => (by decide +kernel : kitB "tuple" "tuple" = some true)
  | .dict _, h => by cases h
theorem kit_str : ∀ {d : PyData}, noDict d = true → kitB (tyD d) "str" = some (isStr d)
  | .none, _ => (by decide +kernel : kitB "NoneType" "str" = some false)
  | .bool _, _ => (by decide +kernel : kitB "bool" "str" = some false)
  | .int _, _ => (by decide +kernel : kitB "int" "str" = some false)
  | .str _, _ => (by decide +kernel : kitB "str" "str" = some true)
  | .list _, _ => (by decide +kernel : kitB "list" "str" = some false)
  | .tuple _, _ => (by decide +kernel : kitB "tuple" "str" = some false)
  | .dict _, h => by cases h
theorem ee_isInt {e : Expr} {p p2 : Pos} {d : PyData} (h : EE X e δ d) (hk : noDict d = true) (hmT : X.mg "int" = none) (hm : X.mg "isinstance" = none) (hg : Gl X "isinstance") (hgT : Gl X "int") (he : starEach [e, .Name "int" p2] X.env = (false, eval e X.env) :: starEach [.Name "int" p2] X.env) : EE X (.Call (.Name "isinstance" p) [e, .Name "int" p2] [] pos) δ (.bool (isIB d)) :=
  ee_isiN h (kit_int hk) (by decide +kernel) hmT hm hg hgT he (by decide) (by decide)
theorem ee_isBool {e : Expr} {p p2 : Pos} {d : PyData} (h : EE X e δ d) (hk : noDict d = true) (hmT : X.mg "bool" = none) (hm : X.mg "isinstance" = none) (hg : Gl X "isinstance") (hgT : Gl X "bool") (he : starEach [e, .Name "bool" p2] X.env = (false, eval e X.env) :: starEach [.Name "bool" p2] X.env) : EE X (.Call (.Name "isinstance" p) [e, .Name "bool" p2] [] pos) δ (.bool (isBl d)) :=
  ee_isiN h (kit_bool hk) (by decide +kernel) hmT hm hg hgT he (by decide) (by decide)
theorem ee_isTup {e : Expr} {p p2 : Pos} {d : PyData} (h : EE X e δ d) (hk : noDict d = true) (hmT : X.mg "tuple" = none) (hm : X.mg "isinstance" = none) (hg : Gl X "isinstance") (hgT : Gl X "tuple") (he : starEach [e, .Name "tuple" p2] X.env = (false, eval e X.env) :: starEach [.Name "tuple" p2] X.env) : EE X (.Call (.Name "isinstance" p) [e, .Name "tuple" p2] [] pos) δ (.bool (isTup d)) :=
  ee_isiN h (kit_tup hk) (by decide +kernel) hmT hm hg hgT he (by decide) (by decide)
theorem ee_isStr {e : Expr} {p p2 : Pos} {d : PyData} (h : EE X e δ d) (hk : noDict d = true) (hmT : X.mg "str" = none) (hm : X.mg "isinstance" = none) (hg : Gl X "isinstance") (hgT : Gl X "str") (he : starEach [e, .Name "str" p2] X.env = (false, eval e X.env) :: starEach [.Name "str" p2] X.env) : EE X (.Call (.Name "isinstance" p) [e, .Name "str" p2] [] pos) δ (.bool (isStr d)) :=
  ee_isiN h (kit_str hk) (by decide +kernel) hmT hm hg hgT he (by decide) (by decide)
/-- subscripts by a plain index, a slice -/
theorem ee_ixL {a b : Expr} {ds : List PyData} {i : Int} {r : PyData} (ha : EE X a δ (.list ds)) (hb : EE X b δ (.int i)) (h : atI ds i = some r) (hs : PlainIx b) : EE X (.Subscript a b pos) δ r := ee_ix hs ha hb (ix_L h)
theorem ee_ixT {a b : Expr} {ds : List PyData} {i : Int} {r : PyData} (ha : EE X a δ (.tuple ds)) (hb : EE X b δ (.int i)) (h : atI ds i = some r) (hs : PlainIx b) : EE X (.Subscript a b pos) δ r := ee_ix hs ha hb (ix_T h)
/-- slots -/
theorem vis_l {sc : Scope} {x : Str} (h : sc.names.lookup x = some .local) : Vis sc x := .inl h
theorem vis_c {sc : Scope} {x : Str} (h : sc.names.lookup x = some .cell) : Vis sc x := .inr (.inl h)
theorem vis_f {sc : Scope} {x : Str} (h : sc.names.lookup x = some .free) : Vis sc x := .inr (.inr h)
end
end KP
/-! Guards, and rules in the shape that the steps take. -/
namespace KP
open PySem PySem.Spec PyProof.Rows L2 DL
abbrev tI (ns : List Int) : PyData := .tuple (ns.map PyData.int)
abbrev lI (ns : List Int) : PyData := .list (ns.map PyData.int)
abbrev bun (n : Nat) (cs : List (List Int)) : PyData := .tuple [.int (n : Int), .tuple (cs.map tI)]
section
variable {P : Program} {w : World} {K : PySem.W.Frag} {mg : Str → Option Value} {base : Heap} {X : Cx} {δ : En} {M : Mu} {Ψ : S → Mu → Prop} {pos : Pos}
theorem ee_id {e : Expr} {d : PyData} (h : EE X e δ d) : EE X e δ d := h
theorem eb_id {e : Expr} {d : Bool} (h : EB X e δ d) : EB X e δ d := h
theorem ew_id {e : Expr} {d : Bool} (h : EW X e δ d) : EW X e δ d := h
theorem ea_id {e : List Expr} {d : List S} (h : EA X e δ d) : EA X e δ d := h
theorem eo_id {e : Option Expr} {d : Option Int} (h : EO X e δ d) : EO X e δ d := h
theorem bv_id {f : Value → Value → Sem Value} {a b c : PyData} (h : BinV X f a b c) : BinV X f a b c := h
theorem ee_nm {x : Str} {d : PyData} (h : EE X (.Name x pos) δ d) : EE X (.Name x pos) δ d := h
theorem ee_varQ {i : Nat} {x : Str} {d : PyData} (hN : X.N[i]? = some x) (h : δ[i]? = some (some (.d d))) (hv : Vis X.env.scope x) (hd : (x == ("__debug__" : Str)) = false) (hcd : (x == ("__classdict__" : Str)) = false) : EE X (.Name x pos) δ d := ee_var hN hv h hd hcd
theorem g_const {c j} {d : PyData} (h : EE X (.Constant c j pos) δ d) : EE X (.Constant c j pos) δ d := h
theorem g_bin {a op b} {d : PyData} (h : EE X (.BinOp a op b pos) δ d) : EE X (.BinOp a op b pos) δ d := h
theorem g_cmp {a op b} {d : PyData} (h : EE X (.Compare a op b pos) δ d) : EE X (.Compare a op b pos) δ d := h
theorem g_call {a b c} {d : PyData} (h : EE X (.Call a b c pos) δ d) : EE X (.Call a b c pos) δ d := h
theorem g_call1 {a b c} {d : PyData} (h : EE X (.Call a [b] c pos) δ d) : EE X (.Call a [b] c pos) δ d := h
theorem g_call2 {a b c e} {d : PyData} (h : EE X (.Call a [b, e] c pos) δ d) : EE X (.Call a [b, e] c pos) δ d := h
theorem g_un {a op} {d : PyData} (h : EE X (.UnaryOp op a pos) δ d) : EE X (.UnaryOp op a pos) δ d := h
theorem g_bool {a op} {d : PyData} (h : EE X (.BoolOp op a pos) δ d) : EE X (.BoolOp op a pos) δ d := h
theorem g_if {a b c} {d : PyData} (h : EE X (.IfExp a b c pos) δ d) : EE X (.IfExp a b c pos) δ d := h
theorem g_sub {a b} {d : PyData} (h : EE X (.Subscript a b pos) δ d) : EE X (.Subscript a b pos) δ d := h
theorem bv_gB {op : Operator} {a b c : PyData} (h : BinV X (binaryOp op) a b c) : BinV X (binaryOp op) a b c := h
theorem bv_gC {op : CmpOp} {a b c : PyData} (h : BinV X (compareOp op) a b c) : BinV X (compareOp op) a b c := h
theorem bv_mulS {i j : Int} (h : i.natAbs.log2 + j.natAbs.log2 < 1000000) : BinV X (binaryOp .Mult) (.int i) (.int j) (.int (i * j)) := bv_mul h
theorem bv_divS {i j : Int} (h : 0 < j ∧ j.natAbs.log2 < 9000) : BinV X (binaryOp .FloorDiv) (.int i) (.int j) (.int (i / j)) := bv_div h
theorem bv_powS {i j : Int} (h : 0 ≤ j ∧ j ≤ 1000000 ∧ i.natAbs < 2 ^ 64) : BinV X (binaryOp .Pow) (.int i) (.int j) (.int (i ^ j.toNat)) := bv_pow h
theorem ee_neg {p : Pos} {i : Int} {j} : EE X (.UnaryOp .USub (.Constant (.int i) j p) pos) δ (.int (-i)) := ee_un ee_int un_negV
theorem ee_names (T : Txt K mg) {X : Cx} (hX : X.mg = mg) {δ : En} (hg : Gl X "MOST_NAMES") : EE X (.Name "MOST_NAMES" pos) δ (.int 7) := by
  obtain ⟨t, e⟩ := T.int 63 (x := "MOST_NAMES") (z := 7) rfl
  exact ee_globI hg (by rw [hX]; exact e) (by decide)
theorem ee_clauses (T : Txt K mg) {X : Cx} (hX : X.mg = mg) {δ : En} (hg : Gl X "MOST_CLAUSES") : EE X (.Name "MOST_CLAUSES" pos) δ (.int 16) := by
  obtain ⟨t, e⟩ := T.int 64 (x := "MOST_CLAUSES") (z := 16) rfl
  exact ee_globI hg (by rw [hX]; exact e) (by decide)
theorem ee_halvesS (T : Txt K mg) {X : Cx} (hX : X.mg = mg) {δ : En} (hg : Gl X "HALVES") : EE X (.Name "HALVES" pos) δ (.str "halves") := by
  obtain ⟨t, e⟩ := T.str 65 (x := "HALVES") (z := "halves") rfl
  exact ee_glob hg (by rw [hX]; exact e) (by decide)
theorem ee_clashS (T : Txt K mg) {X : Cx} (hX : X.mg = mg) {δ : En} (hg : Gl X "CLASH") : EE X (.Name "CLASH" pos) δ (.str "clash") := by
  obtain ⟨t, e⟩ := T.str 66 (x := "CLASH") (z := "clash") rfl
  exact ee_glob hg (by rw [hX]; exact e) (by decide)
/-- calls of defs, with room to spare -/
theorem ee_callK {x : Str} {p : Pos} {e : Expr} {es : List Expr} {k k' : Nat} {ps : List Str} {pre : List S → PyData → Prop} {xs : List S} {r : PyData} (F : FnD X.prog X.w X.K X.mg X.base k x ps (pureD pre)) (ha : EA X (e :: es) δ xs) (h : pre xs r) (hr : Room k' X.A) (hk : k ≤ k') (hg : Gl X x) (he : starEach (e :: es) X.env = (false, eval e X.env) :: starEach es X.env)
    (hpl : (backTo pos (starEach es X.env)).any (·.1) = false) (hdb : (x == ("__debug__" : Str)) = false) : EE X (.Call (.Name x p) (e :: es) [] pos) δ r :=
  ee_call F (hr.mono hk) hg he hpl ha h hdb
theorem ee_lst0   : EE X (.List [] pos) δ (.list []) := ee_lst (ds := []) ea_nil (by show 0 ≤ 100000; decide)
theorem ee_tup0 {x1}   : EE X (.Tuple [] x1 pos) δ (.tuple []) := ee_tup (ds := []) ea_nil (by show 0 ≤ 100000; decide)
theorem ee_lst1 {e0 : Expr} {d0 : PyData} (h0 : EE X e0 δ d0) (q0 : starEach (e0 :: []) X.env = (false, eval e0 X.env) :: starEach [] X.env) : EE X (.List [e0] pos) δ (.list [d0]) := ee_lst (ds := [d0]) (ea_cons q0 h0 ea_nil) (by show 1 ≤ 100000; decide)
theorem ee_tup1 {e0 : Expr} {d0 : PyData} {x1} (h0 : EE X e0 δ d0) (q0 : starEach (e0 :: []) X.env = (false, eval e0 X.env) :: starEach [] X.env) : EE X (.Tuple [e0] x1 pos) δ (.tuple [d0]) := ee_tup (ds := [d0]) (ea_cons q0 h0 ea_nil) (by show 1 ≤ 100000; decide)
theorem ee_lst2 {e0 e1 : Expr} {d0 d1 : PyData} (h0 : EE X e0 δ d0) (h1 : EE X e1 δ d1) (q0 : starEach (e0 :: [e1]) X.env = (false, eval e0 X.env) :: starEach [e1] X.env) (q1 : starEach (e1 :: []) X.env = (false, eval e1 X.env) :: starEach [] X.env) : EE X (.List [e0, e1] pos) δ (.list [d0, d1]) := ee_lst (ds := [d0, d1]) (ea_cons q0 h0 (ea_cons q1 h1 ea_nil)) (by show 2 ≤ 100000; decide)
theorem ee_tup2 {e0 e1 : Expr} {d0 d1 : PyData} {x1} (h0 : EE X e0 δ d0) (h1 : EE X e1 δ d1) (q0 : starEach (e0 :: [e1]) X.env = (false, eval e0 X.env) :: starEach [e1] X.env) (q1 : starEach (e1 :: []) X.env = (false, eval e1 X.env) :: starEach [] X.env) : EE X (.Tuple [e0, e1] x1 pos) δ (.tuple [d0, d1]) := ee_tup (ds := [d0, d1]) (ea_cons q0 h0 (ea_cons q1 h1 ea_nil)) (by show 2 ≤ 100000; decide)
theorem ee_lst3 {e0 e1 e2 : Expr} {d0 d1 d2 : PyData} (h0 : EE X e0 δ d0) (h1 : EE X e1 δ d1) (h2 : EE X e2 δ d2) (q0 : starEach (e0 :: [e1, e2]) X.env = (false, eval e0 X.env) :: starEach [e1, e2] X.env) (q1 : starEach (e1 :: [e2]) X.env = (false, eval e1 X.env) :: starEach [e2] X.env) (q2 : starEach (e2 :: []) X.env = (false, eval e2 X.env) :: starEach [] X.env) : EE X (.List [e0, e1, e2] pos) δ (.list [d0, d1, d2]) := ee_lst (ds := [d0, d1, d2]) (ea_cons q0 h0 (ea_cons q1 h1 (ea_cons q2 h2 ea_nil))) (by show 3 ≤ 100000; decide)
theorem ee_tup3 {e0 e1 e2 : Expr} {d0 d1 d2 : PyData} {x1} (h0 : EE X e0 δ d0) (h1 : EE X e1 δ d1) (h2 : EE X e2 δ d2) (q0 : starEach (e0 :: [e1, e2]) X.env = (false, eval e0 X.env) :: starEach [e1, e2] X.env) (q1 : starEach (e1 :: [e2]) X.env = (false, eval e1 X.env) :: starEach [e2] X.env) (q2 : starEach (e2 :: []) X.env = (false, eval e2 X.env) :: starEach [] X.env) : EE X (.Tuple [e0, e1, e2] x1 pos) δ (.tuple [d0, d1, d2]) := ee_tup (ds := [d0, d1, d2]) (ea_cons q0 h0 (ea_cons q1 h1 (ea_cons q2 h2 ea_nil))) (by show 3 ≤ 100000; decide)
theorem ee_lst4 {e0 e1 e2 e3 : Expr} {d0 d1 d2 d3 : PyData} (h0 : EE X e0 δ d0) (h1 : EE X e1 δ d1) (h2 : EE X e2 δ d2) (h3 : EE X e3 δ d3) (q0 : starEach (e0 :: [e1, e2, e3]) X.env = (false, eval e0 X.env) :: starEach [e1, e2, e3] X.env) (q1 : starEach (e1 :: [e2, e3]) X.env = (false, eval e1 X.env) :: starEach [e2, e3] X.env) (q2 : starEach (e2 :: [e3]) X.env = (false, eval e2 X.env) :: starEach [e3] X.env) (q3 : starEach (e3 :: []) X.env = (false, eval e3 X.env) :: starEach [] X.env) : EE X (.List [e0, e1, e2, e3] pos) δ (.list [d0, d1, d2, d3]) := ee_lst (ds := [d0, d1, d2, d3]) (ea_cons q0 h0 (ea_cons q1 h1 (ea_cons q2 h2 (ea_cons q3 h3 ea_nil)))) (by show 4 ≤ 100000; decide)
theorem ee_tup4 {e0 e1 e2 e3 : Expr} {d0 d1 d2 d3 : PyData} {x1} (h0 : EE X e0 δ d0) (h1 : EE X e1 δ d1) (h2 : EE X e2 δ d2) (h3 : EE X e3 δ d3) (q0 : starEach (e0 :: [e1, e2, e3]) X.env = (false, eval e0 X.env) :: starEach [e1, e2, e3] X.env) (q1 : starEach (e1 :: [e2, e3]) X.env = (false, eval e1 X.env) :: starEach [e2, e3] X.env) (q2 : starEach (e2 :: [e3]) X.env = (false, eval e2 X.env) :: starEach [e3] X.env) (q3 : starEach (e3 :: []) X.env = (false, eval e3 X.env) :: starEach [] X.env) : EE X (.Tuple [e0, e1, e2, e3] x1 pos) δ (.tuple [d0, d1, d2, d3]) := ee_tup (ds := [d0, d1, d2, d3]) (ea_cons q0 h0 (ea_cons q1 h1 (ea_cons q2 h2 (ea_cons q3 h3 ea_nil)))) (by show 4 ≤ 100000; decide)
theorem g_lst {es} {d : PyData} (h : EE X (.List es pos) δ d) : EE X (.List es pos) δ d := h
theorem g_tup {es x1} {d : PyData} (h : EE X (.Tuple es x1 pos) δ d) : EE X (.Tuple es x1 pos) δ d := h
theorem atI_litG {x : PyData} {xs : List PyData} {i : Int} {r : PyData} (h : atI (x :: xs) i = some r) : atI (x :: xs) i = some r := h
/-- table[i][j] -/
theorem ee_cell {a b c : Expr} {p : Pos} {T : List (List Int)} {r : List Int} {i j v : Int} (ha : EE X a δ (.list (T.map lI))) (hb : EE X b δ (.int i)) (hc : EE X c δ (.int j)) (h1 : atI (T.map lI) i = some (lI r)) (h2 : atI (r.map PyData.int) j = some (.int v)) (hs : PlainIx b) (hs2 : PlainIx c) : EE X (.Subscript (.Subscript a b p) c pos) δ (.int v) :=
  ee_ixL (ee_ixL ha hb h1 hs) hc h2 hs2
/-- a walk over pairs, the lists given by maps -/
theorem zip_maps {α : Type} {xs : List α} {g h : α → PyData} : zipD (xs.map g) (xs.map h) = xs.map fun x => .tuple [g x, h x] := by
  unfold zipD
  induction xs with
  | nil => rfl
  | cons x xs ih =>
    rw [List.map_cons, List.map_cons, List.zip_cons_cons, List.map_cons, List.map_cons, ih]
end
end KP
/-! Sorted pairs; repr; ranges as lists. -/
namespace DL
open PySem PySem.Spec PyProof.Rows L2
abbrev pairD (p : Int × Int) : PyData := .tuple [.int p.1, .int p.2]
def leP (x y : Int × Int) : Bool := !SrtO.lexB y x
theorem leP_iff {x y : Int × Int} : leP x y = true ↔ x.1 < y.1 ∨ (x.1 = y.1 ∧ x.2 ≤ y.2) := by
  unfold leP
  rw [Bool.not_eq_true', SrtO.lexB_no]
  omega
def sortP (ps : List (Int × Int)) : List (Int × Int) := ps.mergeSort leP
theorem sortP_perm (ps : List (Int × Int)) : (sortP ps).Perm ps := List.mergeSort_perm _ _
theorem sortP_sorted (ps : List (Int × Int)) : (sortP ps).Pairwise fun x y => leP x y = true :=
  List.pairwise_mergeSort (fun a b c h1 h2 => by rw [leP_iff] at *; omega) (fun a b => by
    cases h : leP a b with
    | true => rfl
    | false =>
      cases h2 : leP b a with
      | true => rfl
      | false =>
        have h : ¬ (a.1 < b.1 ∨ (a.1 = b.1 ∧ a.2 ≤ b.2)) := fun z => Bool.false_ne_true (h.symm.trans (leP_iff.mpr z))
        have h2 : ¬ (b.1 < a.1 ∨ (b.1 = a.1 ∧ b.2 ≤ a.2)) := fun z => Bool.false_ne_true (h2.symm.trans (leP_iff.mpr z))
        omega) ps
theorem sortP_uniq {ps qs : List (Int × Int)} (h : qs.Perm ps) (s : qs.Pairwise fun x y => leP x y = true) : qs = sortP ps :=
  List.Perm.eq_of_pairwise (le := fun x y => leP x y = true) (fun a b _ _ h1 h2 => by
    rw [leP_iff] at h1 h2
    exact Prod.ext (by omega) (by omega)) s (sortP_sorted ps) (h.trans (sortP_perm ps).symm)
theorem sortP_same {ps : List (Int × Int)} (s : ps.Pairwise fun x y => leP x y = true) : sortP ps = ps := (sortP_uniq (List.Perm.refl ps) s).symm
/-- the ints that a pair's cell holds -/
def keyG (G : Hp) : V → Int × Int
  | .ref t => match G t with
    | some (.tup [.int i, .int j]) => (i, j)
    | _ => (0, 0)
  | _ => (0, 0)
theorem keyG_of {G : Hp} {v : V} {p : Int × Int} (h : Rp G v (pairD p)) : ∃ t, v = .ref t ∧ G t = some (.tup [.int p.1, .int p.2]) ∧ keyG G v = p := by
  cases h with
  | tup hs ha =>
    cases ha with
    | cons a1 ha =>
      cases ha with
      | cons a2 ha =>
        cases ha
        cases a1
        cases a2
        refine ⟨_, rfl, hs, ?_⟩
        simp only [keyG, hs]
theorem keyG_all {G : Hp} : ∀ {vs : List V} {ps : List (Int × Int)}, RpA G vs (ps.map pairD) → vs.map (keyG G) = ps ∧ ∀ v ∈ vs, ∃ t, v = .ref t ∧ G t = some (.tup [.int (keyG G v).1, .int (keyG G v).2])
  | _, [], h => by cases h; exact ⟨rfl, fun v hv => nomatch hv⟩
  | _, p :: ps, h => by
    cases h with
    | cons a b =>
      obtain ⟨t, e1, e2, e3⟩ := keyG_of a
      obtain ⟨i1, i2⟩ := keyG_all b
      refine ⟨by rw [List.map_cons, e3, i1], fun v hv => ?_⟩
      rcases List.mem_cons.mp hv with z | z
      · rw [z, e3]; exact ⟨t, e1, e2⟩
      · exact i2 v z
theorem rpa_keys {G : Hp} : ∀ {vs : List V}, (∀ v ∈ vs, ∃ t, v = .ref t ∧ G t = some (.tup [.int (keyG G v).1, .int (keyG G v).2])) → RpA G vs ((vs.map (keyG G)).map pairD)
  | [], _ => .nil
  | v :: vs, h => by
    obtain ⟨t, e, hs⟩ := h v List.mem_cons_self
    refine .cons ?_ (rpa_keys fun u hu => h u (List.mem_cons_of_mem _ hu))
    generalize keyG G v = p at hs
    subst e
    exact .tup hs (.cons (.int _) (.cons (.int _) .nil))
section
variable {X : Cx} {δ : En} {M : Mu} {Ψ : S → Mu → Prop} {pos : Pos} {D : DE}
theorem cv_sortedP {ps : List (Int × Int)} : CallV X (.builtin "sorted") [.list (ps.map pairD)] (.list ((sortP ps).map pairD)) := fun G H M vs sat h Q k => by
  cases h with
  | cons a b =>
    cases b
    cases a with
    | lst hs ha =>
      obtain ⟨e1, e2⟩ := keyG_all ha
      refine SCl.of cr_sortedPO ⟨_, _, keyG G, rfl, .inl (.inl (sat.ex _ _ hs)), fun x hx => ?_, fun ys p h1 h2 hp => ?_⟩
      · obtain ⟨t, et, ht⟩ := e2 x hx
        exact ⟨t, et, sat.ex _ _ ht⟩
      · have f := (sat.fresh hp).1
        have e3 : ys.map (keyG G) = sortP ps := by
          refine sortP_uniq ?_ ?_
          · have := h2.perm.map (keyG G)
            rw [e1] at this; exact this
          · exact List.pairwise_map.mpr (List.Pairwise.imp (fun {x y} h => by unfold leP; rw [show SrtO.lexB (keyG G y) (keyG G x) = false from h]; rfl) h1)
        have r := rpa_keys (G := G) (vs := ys) fun v hv => e2 v (h2.perm.mem_iff.mp hv)
        rw [e3] at r
        exact k _ _ _ (Ex.new f) (sat.new hp) (.lst upd_same (rps_ex (Ex.new f) _ _ r))
theorem ee_sortedP {p : Pos} {e : Expr} {ps : List (Int × Int)} (h : EE X e δ (.list (ps.map pairD))) (hg : Gl X "sorted") (hm : X.mg "sorted" = none) (he : starEach (e :: []) X.env = (false, eval e X.env) :: starEach [] X.env) : EE X (.Call (.Name "sorted" p) [e] [] pos) δ (.list ((sortP ps).map pairD)) :=
  ee_callB (id := "sorted") (ds := [.list (ps.map pairD)]) hg hm (by decide +kernel) he rfl (ea_cons he h ea_nil) cv_sortedP
end
end DL
/-! repr of small data. -/
namespace DL
open PySem PySem.Spec PyProof.Rows L2
/-- data that is shown in short -/
structure Sm (k v : Nat) (d : PyData) : Prop where
  lay : d.canLay0 = true
  dep : d.depth ≤ k
  wei : d.weight ≤ v
  sho : d.showable = true
  sht : d.intsShort 13 = true
theorem Sm.mono {k v k' v' : Nat} {d : PyData} (h : Sm k v d) (h1 : k ≤ k') (h2 : v ≤ v') : Sm k' v' d := ⟨h.lay, Nat.le_trans h.dep h1, Nat.le_trans h.wei h2, h.sho, h.sht⟩
theorem sm_int {i : Int} (h : -8 ≤ i ∧ i ≤ 8) : Sm 0 4 (.int i) := by
  have e : i = -8 ∨ i = -7 ∨ i = -6 ∨ i = -5 ∨ i = -4 ∨ i = -3 ∨ i = -2 ∨ i = -1 ∨ i = 0 ∨ i = 1 ∨ i = 2 ∨ i = 3 ∨ i = 4 ∨ i = 5 ∨ i = 6 ∨ i = 7 ∨ i = 8 := by omega
  rcases e with e | e | e | e | e | e | e | e | e | e | e | e | e | e | e | e | e <;> subst e <;> exact ⟨by decide +kernel, by decide +kernel, by decide +kernel, by decide +kernel, by decide +kernel⟩
theorem sm_all {k v : Nat} : ∀ {ds : List PyData}, (∀ d ∈ ds, Sm k v d) → PyData.canLayAll0 ds = true ∧ PyData.depthAll ds ≤ k ∧ PyData.weightAll ds ≤ ds.length * (v + 1) ∧ PyData.showableAll ds = true ∧ PyData.intsShortAll 13 ds = true
  | [], _ => ⟨by simp [PyData.canLayAll0], by simp [PyData.depthAll], by simp [PyData.weightAll], by simp [PyData.showableAll], by simp [PyData.intsShortAll]⟩
  | d :: ds, h => by
    obtain ⟨a1, a2, a3, a4, a5⟩ := sm_all fun x hx => h x (List.mem_cons_of_mem _ hx)
    have b := h d List.mem_cons_self
    have b1 := b.dep
    have b2 := b.wei
    refine ⟨by rw [PyData.canLayAll0, b.lay, a1]; rfl, by rw [PyData.depthAll]; omega, ?_, by rw [PyData.showableAll, b.sho, a4]; rfl, by rw [PyData.intsShortAll, b.sht, a5]; rfl⟩
    rw [PyData.weightAll, List.length_cons, Nat.succ_mul]
    omega
theorem sm_list {k v n : Nat} {ds : List PyData} (h : ∀ d ∈ ds, Sm k v d) (hn : ds.length ≤ n) : Sm (k + 1) (n * (v + 1)) (.list ds) := by
  obtain ⟨a1, a2, a3, a4, a5⟩ := sm_all h
  exact ⟨by rw [PyData.canLay0]; exact a1, by rw [PyData.depth]; omega, by rw [PyData.weight]; exact Nat.le_trans a3 (Nat.mul_le_mul_right _ hn), by rw [PyData.showable]; exact a4, by rw [PyData.intsShort]; exact a5⟩
theorem sm_tuple {k v n : Nat} {ds : List PyData} (h : ∀ d ∈ ds, Sm k v d) (hn : ds.length ≤ n) : Sm (k + 1) (n * (v + 1)) (.tuple ds) := by
  obtain ⟨a1, a2, a3, a4, a5⟩ := sm_all h
  exact ⟨by rw [PyData.canLay0]; exact a1, by rw [PyData.depth]; omega, by rw [PyData.weight]; exact Nat.le_trans a3 (Nat.mul_le_mul_right _ hn), by rw [PyData.showable]; exact a4, by rw [PyData.intsShort]; exact a5⟩
theorem Sm.layable {k v : Nat} {d : PyData} (h : Sm k v d) (hk : k ≤ 64) (hv : v ≤ 1000000) : PyData.layable0 d = true := by
  unfold PyData.layable0
  rw [h.lay, decide_eq_true (Nat.le_trans h.dep hk), decide_eq_true (Nat.le_trans h.wei (Nat.le_trans hv (by decide)))]; rfl
def isTL : PyData → Bool
  | .list _ => true
  | .tuple _ => true
  | _ => false
theorem reads_ref {h : Heap} {u : Value} {d : PyData} {as : List Addr} (r : Reads h u d as) (ht : isTL d = true) : ∃ a, u = .ref a := by
  cases r <;> first | exact ⟨_, rfl⟩ | cases ht
section
variable {X : Cx} {δ : En} {M : Mu} {Ψ : S → Mu → Prop} {pos : Pos}
theorem cr_reprD (hg : X.A.guards = some []) (hu : X.A.units + 65 < cLine) : CallR X (.builtin "repr") (fun vs H Q => ∃ (x : V) (d : PyData) (k v : Nat), vs = [x] ∧ Dp X.K H x d ∧ isTL d = true ∧ Sm k v d ∧ k ≤ 64 ∧ v ≤ 1000000 ∧ Q (.str d.shown) H) := by
  intro pins s σ H vs us Q I r h
  obtain ⟨x, d, k, v, rfl, hd, ht, hs, hk, hv, q⟩ := h
  obtain ⟨u, rfl, ru⟩ := vals1 r
  obtain ⟨as, r1⟩ := Dp.reads I d x u hd ru
  obtain ⟨a, rfl⟩ := reads_ref r1 ht
  have hl := hs.layable hk hv
  exact repr_of_reads' r1 hs.sho (PyData.noDict_hsm (PyData.hasDict_of_layable hl)) hg (by have := PyData.depth_le_of_layable hl; omega) (fun _ _ e => e) (fun h' t tk hk => ⟨.str _, H, I.kept hk, ⟨_, rfl⟩, q⟩) (Nat.le_trans (PyProof.Rows.shown_le13 hl hs.sht) (by decide))
theorem cr_reprB : CallR X (.builtin "repr") (fun vs H Q => ∃ b : Bool, vs = [.bl b] ∧ Q (.str (if b then "True" else "False")) H) := by
  intro pins s σ H vs us Q I r h
  obtain ⟨b, rfl, q⟩ := h
  obtain ⟨u, rfl, ru⟩ := vals1 r
  have e : u = .bool b := ru
  subst e
  exact PySem.P.repr_of_bool ⟨.str _, H, I.tok _, ⟨_, rfl⟩, q⟩
theorem ee_reprD {p : Pos} {e : Expr} {d : PyData} {k v : Nat} (h : EE X e δ d) (hs : Sm k v d) (ht : isTL d = true) (hk : k ≤ 64) (hv : v ≤ 1000000) (hgd : X.A.guards = some []) (hu : X.A.units + 65 < cLine) (hg : Gl X "repr") (hm : X.mg "repr" = none) (he : starEach (e :: []) X.env = (false, eval e X.env) :: starEach [] X.env) : EE X (.Call (.Name "repr" p) [e] [] pos) δ (.str d.shown) :=
  ee_callB (id := "repr") (ds := [d]) hg hm (by decide +kernel) he rfl (ea_cons he h ea_nil) fun G H M vs sat h Q q => by
    cases h with
    | cons a b =>
      cases b
      exact SCl.of (cr_reprD hgd hu) ⟨_, d, k, v, rfl, rp_dp sat.ex _ _ a, ht, hs, hk, hv, q _ G H (Ex.refl G) sat (.str _)⟩
theorem ee_reprB {p : Pos} {e : Expr} {b : Bool} (h : EE X e δ (.bool b)) (hg : Gl X "repr") (hm : X.mg "repr" = none) (he : starEach (e :: []) X.env = (false, eval e X.env) :: starEach [] X.env) : EE X (.Call (.Name "repr" p) [e] [] pos) δ (.str (if b then "True" else "False")) :=
  ee_callB (id := "repr") (ds := [.bool b]) hg hm (by decide +kernel) he rfl (ea_cons he h ea_nil) fun G H M vs sat h Q q => by
    cases h with
    | cons a c =>
      cases c
      cases a
      exact SCl.of cr_reprB ⟨b, rfl, q _ G H (Ex.refl G) sat (.str _)⟩
end
end DL
/-! Defs that need to know that no guard stands beneath them: repr looks at the guards. -/
namespace DL
open PySem PySem.Spec PyProof.Rows L2
/-- a def's promise where no guard stands beneath the call -/
structure FnG (P : Program) (w : World) (K : PySem.W.Frag) (mg : Str → Option Value) (base : Heap) (k : Nat) (f : Addr) (fd : FuncData) (ps : List Str) (sp : Sp) : Prop where
  same : ∀ vs H Q E, sp vs H Q E → vs.length = ps.length
  goes : ∀ (A : Around) (outer : List Env) (s : Shared) (H : Hp) (args : Args) (us : List Value) (vs : List V) (Q : VK) (E : XK), A.guards = some [] → Room k A → Env0 P w K mg base A outer s H → BindsTo s fd args (ps.zip us) → Vals vs us → sp vs H Q E →
    codeAny (model P w) A (.call (.ref f) args) (CR CX0 outer P w H s Q E) s
section
variable {P : Program} {w : World} {K : PySem.W.Frag} {mg : Str → Option Value} {base : Heap} {x qual : Str} {params : Arguments} {body : List Stmt} {scope : Scope} {f : Addr} {fd : FuncData}
theorem fng_of {N ps : List Str} {k : Nat} {sp : Sp} (F : FunD K x qual params body scope [] [] f fd) (Sc : FnScope N ps scope) (same : ∀ vs H Q E, sp vs H Q E → vs.length = ps.length)
    (hb : ∀ (cdv : Value) (A : Around) (outer : List Env) (s : Shared) (H : Hp) (vs : List V) (Q : VK) (E : XK), A.guards = some [] → Room k (A.deeper (envOfC qual scope s.heap.objs.size f cdv)) → sp vs H Q E →
      ∃ t, PSs (cxOf CX0 P w K mg base N qual scope f cdv A outer s H E) body t ∧ t { nx := fun _ H' => Q .non H', rt := Q } (L2.start N vs) H) : FnG P w K mg base (k + 1) f fd ps sp := by
  obtain ⟨oc, od, dV, kV, doc, pm, an, cdv, ct, osl, rfl, lk, hcd, _, _⟩ := F.ex
  constructor
  · exact same
  · intro A outer s H args us vs Q E hgd hr e0 bt r hsp
    have old : ∀ b o, base.get? b = some o → s.heap.get? b = some o := fun b o e => (e0.bs b o e).1
    refine codeAny_call_function hr.depth ((e0.mod.kin.keeps old) _ _ lk) rfl Sc.co Sc.gen rfl (PySem.W.codeRec_of (e0.mod.kin.keeps old) hcd) (bt _ _ _ _ ?_)
    refine wpAny_newFunctionEnv_cells Sc.kind (fun y hy => ?_) fun env he s1 inc => ?_
    · rcases Sc.par y.1 (List.of_mem_zip (show (y.1, y.2) ∈ ps.zip us from hy)).1 with q | q
      · exact .inl q
      · exact .inr ⟨q, PySem.W.cellsFrom_some _ _ _ (.inl q)⟩
    · subst he
      refine ⟨(e0.mod.nolimit.keeps old).keeps inc.toInCall.keep, codeAny_func ?_⟩
      obtain ⟨t, ht, hq⟩ := hb cdv A outer s H vs Q E hgd (hr.deeper _) hsp
      refine wpAny_mono (ht.run [] s1 (L2.start N vs) H _ (inv_start Sc hr.hd e0 (same _ _ _ _ hsp) r inc) hq) (fun fl s' hs => ?_) fun _ _ hs => hs
      match fl, hs with
      | .ret u, ⟨v, σ', H', J, rv, q⟩ => exact ⟨v, H', J.os, J.bare, J.base, J.hok, rv, q⟩
      | .next, ⟨σ', H', J, q⟩ => exact ⟨V.non, H', J.os, J.bare, J.base, J.hok, (rfl : Value.none = Value.none), q⟩
      | .brk, ⟨_, _, _, q⟩ => exact q.elim
      | .cont, ⟨_, _, _, q⟩ => exact q.elim
end
/-- such a def, by data -/
structure FnE (P : Program) (w : World) (K : PySem.W.Frag) (mg : Str → Option Value) (base : Heap) (k : Nat) (x : Str) (ps : List Str) (f : DS) : Prop where
  ok : ∃ (a : Addr) (fd : FuncData), FnG P w K mg base k a fd ps (spD f) ∧ mg x = some (.ref a) ∧ PySem.W.keepIn K (.ref a) = true ∧ Binds K fd ps []
section
variable {X : Cx} {δ : En} {M : Mu} {Ψ : S → Mu → Prop} {pos : Pos}
theorem goes_here {pins : List (Addr × Obj)} {σ : L2.St} {H : Hp} {s : Shared} {Q : VK} {us : List Value} {vs : List V} {k : Nat} {f : Addr} {fd : FuncData} {ps : List Str} {sp : Sp} (F : FnG X.prog X.w X.K X.mg X.base k f fd ps sp) (hgd : X.A.guards = some []) (hr : Room k X.A) (hb : Binds X.K fd ps [])
    (I : L2.Inv X pins σ H s) (r : Vals vs us) (h : sp vs H Q E0) : wpAny (model X.prog X.w) X.A (call (.ref f) us) (EP X pins σ Q) X.xe s := by
  have hl : us.length = ps.length := by rw [← r.length]; exact F.same _ _ _ _ h
  have bt := hb s us I.kIn (by rw [List.append_nil]; exact hl)
  rw [List.append_nil] at bt
  refine wpAny_call (codeAny_mono (F.goes X.A X.stack s H ⟨us, []⟩ us vs Q E0 hgd hr I.env0 bt r h) fun res s' hq => ?_)
  match res, hq with
  | .error e, hq => exact pass0 pins σ H s e s' I hq
  | .ok (.ret u), hq => exact I.after hq
  | .ok .next, hq => exact hq.elim
  | .ok .brk, hq => exact hq.elim
  | .ok .cont, hq => exact hq.elim
theorem ev_callG {x : Str} {p : Pos} {e : Expr} {es : List Expr} {k k' : Nat} {ps : List Str} {f : DS} (F : FnE X.prog X.w X.K X.mg X.base k x ps f) (hgd : X.A.guards = some []) (hr : Room k' X.A) (hk : k ≤ k') (hg : Gl X x) (he : starEach (e :: es) X.env = (false, eval e X.env) :: starEach es X.env) (hpl : (backTo pos (starEach es X.env)).any (·.1) = false)
    (h : AV X (e :: es) δ M fun xs M1 => f xs M1 Ψ) (hmo : ∀ xs M1 (Φ Φ' : S → Mu → Prop), f xs M1 Φ → (∀ x M2, Φ x M2 → Φ' x M2) → f xs M1 Φ') (hdb : (x == ("__debug__" : Str)) = false) : EV X (.Call (.Name x p) (e :: es) [] pos) δ M Ψ :=
  fun σ G H sd sat Q kk => by
    obtain ⟨a, fd, fo, hm, hk2, hb⟩ := F.ok
    have pe : PE X (.Call (.Name x p) (e :: es) [] pos) (tCall (spD f) [] E0 (SA X (e :: es))) := ⟨fun pins s σ H Q I h => by
      refine wpAny_Call_Name_kw (ld_glob I hg hm ?_ hdb)
      refine PySem.W.callWith_K (h₀ := X.base) I.ok.mod.kin hk2 (thn (pa_SA.run pos pins s σ H _ I h) fun us s1 ⟨vs, H1, I1, r, q⟩ => ⟨I1.kIn, ?_⟩) he hpl
      have q : spD f (vs ++ []) H1 Q E0 := q
      rw [List.append_nil] at q
      exact goes_here fo hgd (hr.mono hk) hb I1 r q⟩
    refine SE.of pe (h σ G H sd sat _ fun vs xs M1 G1 H1 q e1 sat1 r1 => ?_)
    show spD f (vs ++ []) H1 Q E0
    rw [List.append_nil]
    exact ⟨G1, M1, xs, r1, sat1, hmo _ _ _ _ q fun y M2 q2 v G2 H2 e2 sat2 r2 => kk v y M2 G2 H2 q2 (e1.trans e2) sat2 r2⟩
end
/-! ### the law's end -/
section
variable {P : Program} {w : World} {K : PySem.W.Frag} {mg mb : Str → Option Value}
/-- the law is called from where no guard stands -/
theorem law_goes {k : Nat} {fa a : Addr} {fd : FuncData} {x : Str} {sp : Sp} {s₁ : Shared} {vs : List Value} {ns : List Int}
    (KX : K.In s₁.heap) (hns : s₁.heap.Ns mainGlobals mg) (hb : s₁.heap.Ns builtinsNs mb) (hbb : ∀ x : Str, x ≠ "__name__" → mb x = bootBuiltins x) (hlim : s₁.heap.NoLimit) (hg : s₁.gens = #[])
    (ha : s₁.heap.get? a = some { cls := .type "list", data := .seq vs.toArray }) (hi : IntsAre vs ns) (hl : ns.length ≤ sizeLine) (hr : Room k callerA)
    (F : ∀ base : Heap, K.In base → base.Ns mainGlobals mg → FnG P w K mg base k fa fd [x] sp) (hbind : ∀ (s : Shared) (u : Value), BindsTo s fd ⟨[u], []⟩ [(x, u)])
    (hsp : ∀ H : Hp, Only H → SqL K H a (ns.map V.int) → sp [.ref a] H (fun v _ => v = .bl true) fun _ _ _ => False) :
    codeAny (model P w) callerA (.call (.ref fa) ⟨[.ref a], []⟩) (fun r s' => r = .ok (.ret (.bool true)) ∧ OldK s₁.heap s'.heap ∧ s'.os = s₁.os ∧ AllBare s'.gens) s₁ := by
  obtain ⟨o, ho⟩ : ∃ o : Obj, o = { cls := .type "list", data := .seq vs.toArray } := ⟨_, rfl⟩
  obtain ⟨c, hc⟩ : ∃ c : Bool, c = (K.lookup a).isNone := ⟨_, rfl⟩
  obtain ⟨H, hH⟩ : ∃ H : Hp, H = fun b => if b = a ∧ c = true then some (.frz o (.lst (ns.map V.int))) else none := ⟨_, rfl⟩
  rw [← ho] at ha
  have some_of : ∀ {b : Addr} {u : HO}, H b = some u → b = a ∧ c = true ∧ u = .frz o (.lst (ns.map V.int)) := fun {b u} z => by
    rw [hH] at z
    by_cases y : b = a ∧ c = true
    · exact ⟨y.1, y.2, (Option.some.inj ((if_pos y).symm.trans z)).symm⟩
    · exact nomatch (if_neg y).symm.trans z
  have free : ∀ {b : Addr} {ob : Obj}, s₁.heap.get? b = some ob → ob ≠ o → H b = none := fun {b ob} e n => by
    cases z : H b with
    | none => rfl
    | some u => exact absurd (Option.some.inj (e.symm.trans ((some_of z).1 ▸ ha))) n
  have keepB : ∀ {b : Addr} {ob : Obj}, s₁.heap.get? b = some ob → H b = none → (hidT s₁.heap H).get? b = some ob := fun e n => hidT_get e n
  have nsB : ∀ {b : Addr} {m : Str → Option Value}, s₁.heap.Ns b m → (hidT s₁.heap H).Ns b m := fun {b m} ⟨ob, es, ep, e, d, r⟩ =>
    ⟨ob, es, ep, keepB e (free e fun z => by rw [z, ho] at d; cases d), d, r⟩
  have kB : K.In (hidT s₁.heap H) := fun b ob e => keepB (KX b ob e) (by
    cases z : H b with
    | none => rfl
    | some u =>
      obtain ⟨e1, e2, _⟩ := some_of z
      rw [hc, ← e1, e] at e2; cases e2)
  have len := hi.length
  have rel := vals_ints hi
  have hok : HOk P w H s₁.heap := fun b u z => by
    obtain ⟨e1, _, e3⟩ := some_of z
    subst e1
    subst e3
    exact ⟨ha, by rw [List.length_map]; exact hl, vs, _, rel, by rw [ha, ho]⟩
  have only : Only H := fun b => by
    cases z : H b with
    | none => exact .inl rfl
    | some u => obtain ⟨_, _, e⟩ := some_of z; exact .inr ⟨_, _, by rw [e]⟩
  have seen : SqL K H a (ns.map V.int) := by
    cases hk : K.lookup a with
    | none => exact .inl (.inr ⟨o, by rw [hH]; exact if_pos ⟨rfl, by rw [hc, hk]; rfl⟩⟩)
    | some ob =>
      have e := KX a ob hk
      rw [ha] at e
      cases e
      subst ho
      exact .inr ⟨_, vs.toArray, _, hk, rfl, rfl, rfl, by rw [List.size_toArray, len]; exact hl, by simpa using rel⟩
  obtain ⟨mc, l1, l2⟩ := hlim
  have e0 : Env0 P w K mg (hidT s₁.heap H) callerA [] s₁ H :=
    ⟨rfl, ⟨kB, nsB hns, ⟨mb, nsB hb, hbb⟩, ⟨mc, nsB l1, l2⟩⟩, fun b ob e => of_hidT e, Nat.le_of_eq (hidT_size _ _), trivial, fun b z => (nomatch (show b ∈ ([] : List Addr) from z)), hok, .of_eq hg⟩
  refine codeAny_mono ((F _ kB (nsB hns)).goes callerA [] s₁ H ⟨[.ref a], []⟩ [.ref a] [.ref a] (fun v _ => v = .bl true) (fun _ _ _ => False) rfl hr e0 (hbind s₁ (.ref a)) (.cons rfl .nil) (hsp H only seen)) fun res s' h => ?_
  match res, h with
  | .error e, h => exact (show False from h).elim
  | .ok .next, h => exact h.elim
  | .ok .brk, h => exact h.elim
  | .ok .cont, h => exact h.elim
  | .ok (.ret u), ⟨v, H', os, bare, un, hok2, r2, q⟩ =>
    have q : v = .bl true := q
    subst q
    have r2 : u = .bool true := r2
    subst r2
    refine ⟨rfl, OldK.of_keep fun b ob e => ?_, os, bare⟩
    cases z : H b with
    | none => exact un.keep b ob e z (fun y => (nomatch (show b ∈ ([] : List Addr) from y))) (by simp)
    | some y =>
      obtain ⟨e1, _, e3⟩ := some_of z
      subst e3
      have e4 := (hok2 b _ (un.frzs b o _ z)).1
      rw [e1, ha] at e
      rw [e4]; exact e
theorem walk_goes {l : PySem.W.OpenLaw} {n k : Nat} {q : Program} {loose : List Str} {XP : (Str → Option Value) → Heap → Prop} {YP : World → Heap → Prop} {d : DefRec} {x : Str} (hn : l.most = some n) (hn2 : n ≤ sizeLine) (hdf : d.params.defaults = []) (hr : Room k callerA)
    (F : ∀ (w : World) (mg : Str → Option Value) (fa : Addr) (h : Heap), YP w h → h.Ns mainGlobals mg → mg d.name = some (.ref fa) →
      ∃ (K : PySem.W.Frag) (fd : FuncData) (sp : Sp), K.In h ∧ (∀ (s : Shared) (u : Value), BindsTo s fd ⟨[u], []⟩ [(x, u)]) ∧
        (∀ (H : Hp) (a : Addr) (ns : List Int), ns.length ≤ n → Only H → SqL K H a (ns.map V.int) → sp [.ref a] H (fun v _ => v = .bl true) fun _ _ _ => False) ∧
        ∀ base : Heap, K.In base → base.Ns mainGlobals mg → FnG l.prog w K mg base k fa fd [x] sp) :
    PySem.W.WalkO q loose XP YP l.row.toRowW d [] (fun f vs => PySem.call f vs) := by
  refine Att.attach_call hn hdf fun w s₀ s₁ mg mb fa o pm cd doc a vs ns G Y ho hd hcd hmg hobj hints hlen hg => ?_
  obtain ⟨K, fd, sp, KX, hb, hsp, hF⟩ := F w mg fa _ Y G.T.g hmg
  exact law_goes KX G.T.g G.T.b G.T.builtins G.T.nolimit hg hobj hints (Nat.le_trans hlen hn2) hr hF hb fun H hO hS => hsp H a ns hlen hO hS
end
end DL
/-! Comprehensions of two clauses; a dict's display; ranges as lists. -/
namespace DL
open PySem PySem.Spec PyProof.Rows L2
section
variable {X : Cx} {δ : En} {M : Mu} {Ψ : S → Mu → Prop} {pos : Pos} {D : DE} {α β : Type}
def siB (X : Cx) (scope : Scope) (tg iter : Expr) : TI := fun σ H R => ∀ s H0 C cl fp, SI (blkX X scope s H0 C cl fp) tg iter σ H R
theorem flat_take {xs : List α} {F : α → List β} {i : Nat} {x : α} (h : xs[i]? = some x) : (xs.take (i + 1)).flatMap F = (xs.take i).flatMap F ++ F x := by
  rw [List.take_add_one, h, List.flatMap_append]
  show _ = _
  congr 1
  show [x].flatMap F = F x
  rw [List.flatMap_cons, List.flatMap_nil, List.append_nil]
theorem flat_le {xs : List α} {F : α → List β} (i : Nat) : ((xs.take i).flatMap F).length ≤ (xs.flatMap F).length := by
  conv => rhs; rw [← List.take_append_drop i xs, List.flatMap_append, List.length_append]
  omega
section
variable {tg iter tg1 iter1 elt : Expr} {scope : Scope} {xs : List α} {ys : α → List β} {g : α → PyData} {g1 : β → PyData} {f : α → β → PyData} {δt : α → En} {δu : α → β → En}
theorem lc2_wp (hi : IV X tg iter δ (xs.map g)) {vs ws vs1 ws1 : List Nat} (hvs : ∀ i ∈ ws, i ∈ vs) (hvs1 : ∀ i ∈ ws1, i ∈ vs1) (hl : (xs.flatMap fun z => (ys z).map (f z)).length ≤ 100000)
    (hg : ∀ s H0 C cl fp, ∀ z ∈ xs, GV (blkX X scope s H0 C cl fp) tg (g z) (wipeD δ vs) (δt z) ws)
    (hi1 : ∀ s H0 C cl fp, ∀ z ∈ xs, IV (blkX X scope s H0 C cl fp) tg1 iter1 (δt z) ((ys z).map g1))
    (hg1 : ∀ s H0 C cl fp, ∀ z ∈ xs, ∀ y ∈ ys z, GV (blkX X scope s H0 C cl fp) tg1 (g1 y) (wipeD (δt z) vs1) (δu z y) ws1)
    (he : ∀ s H0 C cl fp, ∀ z ∈ xs, ∀ y ∈ ys z, EE (blkX X scope s H0 C cl fp) elt (δu z y) (f z y))
    {σ : L2.St} {G H : Hp} (sd : SD G σ δ) (sat : Sat G M H) {Q : VK} (k : ∀ v G' H', Ex G G' → Sat G' M H' → Rp G' v (.list (xs.flatMap fun z => (ys z).map (f z))) → Q v H') :
    tLc2 (SI X tg iter) (tgB X scope tg) (ttB X scope []) (siB X scope tg1 iter1) (tgB X scope tg1) (ttB X scope []) (teB X scope elt) vs vs1 σ H Q := by
  refine hi σ G H M sd sat _ fun J G1 H1 e1 sat1 W D hD => ?_
  have hDf := sat1.fresh hD
  refine ⟨fun i m H => m + i = xs.length ∧ ∃ G2, Ex G1 G2 ∧ Sat G2 (mup M D (.lst ((xs.take i).flatMap fun z => (ys z).map (f z)))) H, ⟨xs.length, rfl, G1, Ex.refl G1, sat1.newM hD ⟨[], rfl, by rw [List.take_zero]; exact .nil⟩⟩, ?_⟩
  rintro i m H2 ⟨hm, G2, e2, sat2⟩
  obtain ⟨w1, w2⟩ := W i G2 H2 _ e2 sat2
  rcases Nat.lt_or_ge i xs.length with hlt | hge
  · have hx : xs[i]? = some xs[i] := List.getElem?_eq_getElem hlt
    have hmem : xs[i] ∈ xs := List.getElem_mem _
    generalize xs[i] = z at hx hmem
    obtain ⟨go, yl⟩ := w1 (g z) (by rw [List.getElem?_map, hx]; rfl)
    refine .inr ⟨go, fun H' => ∃ G3, Ex G1 G3 ∧ Sat G3 (mup M D (.lst ((xs.take (i + 1)).flatMap fun z => (ys z).map (f z)))) H', fun H' h => ⟨m - 1, by omega, by omega, h⟩, fun v H3 y => ?_⟩
    obtain ⟨G3, e3, sat3, r3⟩ := yl v H3 y
    intro s H0 C cl fp
    refine hg s H0 C cl fp z hmem _ G3 H3 _ v ((sd.wipe vs).mono ((e1.trans e2).trans e3)) sat3 r3 _ fun σ2 sd2 hw => ⟨(hw vs hvs).trans (wipe_wipe σ vs), fun s H0 C cl fp => ?_⟩
    refine (eif_nil (X := blkX X scope s H0 C cl fp) (δ := δt z)) _ σ2 G3 H3 sd2 sat3 _ fun G4 H4 e4 sat4 => ?_
    rw [if_pos rfl]
    intro s H0 C cl fp
    refine hi1 s H0 C cl fp z hmem σ2 G4 H4 _ (sd2.mono e4) sat4 _ fun J1 G5 H5 e5 sat5 W1 => ?_
    refine ⟨fun j k H => k + j = (ys z).length ∧ ∃ G6, Ex G5 G6 ∧ Sat G6 (mup M D (.lst (((xs.take i).flatMap fun z => (ys z).map (f z)) ++ ((ys z).take j).map (f z)))) H, ⟨(ys z).length, rfl, G5, Ex.refl G5, by rw [List.take_zero, List.map_nil, List.append_nil]; exact sat5⟩, ?_⟩
    rintro j k' H6 ⟨hk, G6, e6, sat6⟩
    obtain ⟨u1, u2⟩ := W1 j G6 H6 _ e6 sat6
    rcases Nat.lt_or_ge j (ys z).length with jlt | jge
    · have hy : (ys z)[j]? = some (ys z)[j] := List.getElem?_eq_getElem jlt
      have hmy : (ys z)[j] ∈ ys z := List.getElem_mem _
      generalize (ys z)[j] = y2 at hy hmy
      obtain ⟨go1, yl1⟩ := u1 (g1 y2) (by rw [List.getElem?_map, hy]; rfl)
      refine .inr ⟨go1, fun H' => ∃ G7, Ex G5 G7 ∧ Sat G7 (mup M D (.lst (((xs.take i).flatMap fun z => (ys z).map (f z)) ++ ((ys z).take (j + 1)).map (f z)))) H', fun H' h => ⟨k' - 1, by omega, by omega, h⟩, fun v1 H7 y1 => ?_⟩
      obtain ⟨G7, e7, sat7, r7⟩ := yl1 v1 H7 y1
      intro s H0 C cl fp
      refine hg1 s H0 C cl fp z hmem y2 hmy _ G7 H7 _ v1 ((sd2.wipe vs1).mono (((e4.trans e5).trans e6).trans e7)) sat7 r7 _ fun σ3 sd3 hw1 => ⟨(hw1 vs1 hvs1).trans (wipe_wipe σ2 vs1), fun s H0 C cl fp => ?_⟩
      refine (eif_nil (X := blkX X scope s H0 C cl fp) (δ := δu z y2)) _ σ3 G7 H7 sd3 sat7 _ fun G8 H8 e8 sat8 => ?_
      rw [if_pos rfl]
      intro s H0 C cl fp
      refine he s H0 C cl fp z hmem y2 hmy _ (fun zz M5 => zz = .d (f z y2) ∧ M5 = mup M D (.lst (((xs.take i).flatMap fun z => (ys z).map (f z)) ++ ((ys z).take j).map (f z)))) ⟨rfl, rfl⟩ σ3 G8 H8 (sd3.mono e8) sat8 _ fun v zz M5 G9 H9 hz e9 sat9 r9 => ?_
      obtain ⟨rfl, rfl⟩ := hz
      obtain ⟨gD, o, eo, acc, rfl, ra⟩ := sat9.mu D _ mup_same
      have hfl : ((xs.take i).flatMap fun z => (ys z).map (f z)).length + (ys z).length ≤ 100000 := by
        have := flat_le (xs := xs) (F := fun z => (ys z).map (f z)) (i + 1)
        rw [flat_take hx, List.length_append, List.length_map] at this
        omega
      refine ⟨acc, eo, ?_, G9, ((e6.trans e7).trans e8).trans e9, ?_⟩
      · rw [ra.length, List.length_append, List.length_map, List.length_take]
        exact Nat.lt_of_le_of_lt (by omega) (by decide : (100000 : Nat) < sizeLine)
      · have e := sat9.put (p := D) (m := .lst ((((xs.take i).flatMap fun z => (ys z).map (f z)) ++ ((ys z).take j).map (f z)) ++ [f z y2])) mup_same ⟨_, rfl, ra.append (.cons r9 .nil)⟩
        rw [mup_mup] at e
        have et : ((ys z).take (j + 1)).map (f z) = ((ys z).take j).map (f z) ++ [f z y2] := by rw [List.take_add_one, hy, List.map_append]; rfl
        rw [et, ← List.append_assoc]
        exact e
    · refine .inl ⟨u2 (by rw [List.length_map]; exact jge), G6, ((((e2.trans e3).trans e4).trans e5).trans e6), ?_⟩
      rw [List.take_of_length_le jge] at sat6
      rw [flat_take hx]
      exact sat6
  · refine .inl ⟨w2 (by rw [List.length_map]; exact hge), ?_⟩
    rw [List.take_of_length_le hge] at sat2
    obtain ⟨G3, e3, sat3, r3⟩ := sat2.freeze mup_same
    rw [mdel_mup hDf.2] at sat3
    exact k _ G3 H2 ((e1.trans e2).trans e3) sat3 r3
theorem w1_setLc2 (own : List (Str × Nat)) (ws vs1 ws1 : List Nat) {i : Nat} {y : Str} {py spos : Pos} (hc : X.calm = true) (hN : X.N.Nodup) (hy : X.N[i]? = some y) (hyl : X.env.scope.names.lookup y = some .local)
    (hsw : swapsWith (.ListComp elt [⟨tg, iter, [], 0⟩, ⟨tg1, iter1, [], 0⟩] scope pos) (some (.Name y py)) spos.line X.env = pure true) (ok : BlkOk X.N X.env.scope scope own) (hv : ∀ i ∈ vs1, i ∈ own.map (·.2)) (hvs : ∀ i ∈ ws, i ∈ own.map (·.2)) (hvs1 : ∀ i ∈ ws1, i ∈ vs1)
    (hs : ∀ x, foldedSetIterable iter X.env x = pure x) (hs1 : ∀ env x, foldedSetIterable iter1 env x = pure x)
    (hi : IV X tg iter δ (xs.map g)) (hl : (xs.flatMap fun z => (ys z).map (f z)).length ≤ 100000)
    (hg : ∀ s H0 C cl fp, ∀ z ∈ xs, GV (blkX X scope s H0 C cl fp) tg (g z) (wipeD δ (own.map (·.2))) (δt z) ws)
    (hi1 : ∀ s H0 C cl fp, ∀ z ∈ xs, IV (blkX X scope s H0 C cl fp) tg1 iter1 (δt z) ((ys z).map g1))
    (hg1 : ∀ s H0 C cl fp, ∀ z ∈ xs, ∀ y ∈ ys z, GV (blkX X scope s H0 C cl fp) tg1 (g1 y) (wipeD (δt z) vs1) (δu z y) ws1)
    (he : ∀ s H0 C cl fp, ∀ z ∈ xs, ∀ y ∈ ys z, EE (blkX X scope s H0 C cl fp) elt (δu z y) (f z y)) (q : D.nx (δ.set i (some (.d (.list (xs.flatMap fun z => (ys z).map (f z)))))) M) : W1 X (.Assign [.Name y py] (.ListComp elt [⟨tg, iter, [], 0⟩, ⟨tg1, iter1, [], 0⟩] scope pos) spos) δ M D :=
  fun σ G H sd sat D' L => SS1.of (ps_setLc2 (vs1 := vs1) (tt := ttB X scope []) (tt1 := ttB X scope []) (g := tgB X scope tg) (g1 := tgB X scope tg1) (te := teB X scope elt) (wi1 := siB X scope tg1 iter1) hc hN hy hyl hsw pi_SI ok hv (fun s H0 C cl fp => ⟨fun pins s' σ H v u Q I r h => h s H0 C cl fp pins s' u I r⟩) (fun s H0 C cl fp => ⟨fun pins s' σ H Q I h => h s H0 C cl fp pins s' I⟩)
      (fun s H0 C cl fp => ⟨fun pins s' σ H Q I h => h s H0 C cl fp pins s' I⟩) (fun s H0 C cl fp => ⟨fun pins s' σ H v u Q I r h => h s H0 C cl fp pins s' u I r⟩) (fun s H0 C cl fp => ⟨fun pins s' σ H Q I h => h s H0 C cl fp pins s' I⟩) (fun s H0 C cl fp => ⟨fun pins s' σ H Q I h => h s H0 C cl fp pins s' I⟩) hs hs1)
    (lc2_wp hi hvs hvs1 hl hg hi1 hg1 he sd sat fun v G' H' e' sat' r => L.nx _ _ _ G' H' q e' ((sd.mono e').set (x := .d _) r i) sat')
end
/-- list(range(lo, lo + n)), that will change -/
theorem ev_listRg2 {a b : Expr} {p p1 pos1 : Pos} {lo : Int} {n : Nat} (ha : EE X a δ (.int lo)) (hb : EE X b δ (.int (lo + (n : Int)))) (h0 : 0 ≤ lo ∧ lo ≤ 100000) (hn : n ≤ 100000) (hc : X.calm = true) (hg : Gl X "list") (hm : X.mg "list" = none) (hg1 : Gl X "range") (hm1 : X.mg "range" = none)
    (na : starEach [.Call (.Name "range" p1) [a, b] [] pos1] X.env = (false, eval (.Call (.Name "range" p1) [a, b] [] pos1) X.env) :: starEach [] X.env) (n1 : starEach [a, b] X.env = (false, eval a X.env) :: starEach [b] X.env) (n2 : starEach [b] X.env = (false, eval b X.env) :: starEach [] X.env) (hp : (backTo pos1 (starEach [b] X.env)).any (·.1) = false)
    (q : ∀ r, M r = none → Ψ (.m r) (mup M r (.lst (rangeD lo n)))) : EV X (.Call (.Name "list" p) [.Call (.Name "range" p1) [a, b] [] pos1] [] pos) δ M Ψ :=
  fun σ G H sd sat Q k => SE.of (pe_listRg hc hg hm (prg_2 hg1 hm1 pe_SE pe_SE n1 n2 hp) na) (ha M (fun x M1 => x = .d (.int lo) ∧ M1 = M) ⟨rfl, rfl⟩ σ G H sd sat _ fun v x M1 G1 H1 hx e1 sat1 r1 => by
    obtain ⟨rfl, rfl⟩ := hx
    cases r1
    refine hb M1 (fun x M2 => x = .d (.int (lo + (n : Int))) ∧ M2 = M1) ⟨rfl, rfl⟩ σ G1 H1 (sd.mono e1) sat1 _ fun u y M2 G2 H2 hy e2 sat2 r2 => ?_
    obtain ⟨rfl, rfl⟩ := hy
    cases r2
    refine ⟨lo, lo + (n : Int), rfl, rfl, RgOk.of_le (by omega) (by omega) (by omega) (by omega), fun p hp => ?_⟩
    have e : RpA G2 (rgV lo (lo + (n : Int))) (rangeD lo n) := by
      unfold rgV rangeD
      rw [show (lo + (n : Int) - lo).toNat = n by omega]
      generalize List.range n = l
      induction l with
      | nil => exact .nil
      | cons x l ih => exact .cons (.int _) ih
    exact k _ _ _ G2 _ (q p (sat2.fresh hp).2) (e1.trans e2) (sat2.newM hp ⟨_, rfl, e⟩) rfl)
end
end DL
/-! The script; a dict's display. -/
namespace DL
open PySem PySem.Spec PyProof.Rows L2
/-- a is a list of these ints that nothing changes -/
def Scr (K : PySem.W.Frag) (M : Mu) (a : Addr) (ns : List Int) : Prop := M a = some (.scr (ns.map PyData.int)) ∨ ∀ H : Hp, SqL K H a (ns.map V.int)
theorem Scr.sq {K : PySem.W.Frag} {M : Mu} {a : Addr} {ns : List Int} {G H : Hp} (h : Scr K M a ns) (sat : Sat G M H) : SqL K H a (ns.map V.int) := by
  rcases h with h | h
  · obtain ⟨g, o, eo, ob, vs, rfl, ra⟩ := sat.mu a _ h
    rw [ra.ints] at eo
    exact .inl (.inr ⟨ob, eo⟩)
  · exact h H
theorem dpall_ints {K : PySem.W.Frag} {H : Hp} : ∀ {ns : List Int}, DpAll K H (ns.map V.int) (ns.map PyData.int)
  | [] => .nil
  | n :: ns => .cons (.int n) dpall_ints
theorem rpa_ints {G : Hp} : ∀ {ns : List Int}, RpA G (ns.map V.int) (ns.map PyData.int)
  | [] => .nil
  | n :: ns => .cons (.int n) rpa_ints
section
variable {X : Cx} {δ : En} {M : Mu} {Ψ : S → Mu → Prop} {pos : Pos} {D : DE}
theorem ev_lenScr {i : Nat} {x : Str} {p p2 : Pos} {a : Addr} {ns : List Int} (hM : Scr X.K M a ns) (h : δ[i]? = some (some (.m a))) (q : Ψ (.d (.int (ns.length : Int))) M) (hg : Gl X "len") (hm : X.mg "len" = none) (hN : X.N[i]? = some x) (hv : Vis X.env.scope x)
    (he : starEach [.Name x p2] X.env = (false, eval (.Name x p2) X.env) :: starEach [] X.env) (hd : (x == ("__debug__" : Str)) = false) (hcd : (x == ("__classdict__" : Str)) = false) : EV X (.Call (.Name "len" p) [.Name x p2] [] pos) δ M Ψ :=
  fun σ G H sd sat Q k => SE.of (pe_callB call_len_seq hg hm PySem.boot_len (pa_cons (pe_var hN hv hd hcd) pa_nil he) (he := he) (hpl := rfl)) (by
    obtain ⟨v, ev, rv⟩ := sd.at_ i _ h
    refine ⟨v, ev, a, ns.map V.int, by rw [show v = V.ref a from rv], .inl (hM.sq sat), ?_⟩
    rw [List.length_map]
    exact k _ _ M _ _ q (Ex.refl G) sat (.int _))
theorem ev_lstScr {i : Nat} {x : Str} {p p2 : Pos} {a : Addr} {ns : List Int} (hM : Scr X.K M a ns) (h : δ[i]? = some (some (.m a))) (q : Ψ (.d (.list (ns.map PyData.int))) M) (hg : Gl X "list") (hm : X.mg "list" = none) (hN : X.N[i]? = some x) (hv : Vis X.env.scope x)
    (he : starEach [.Name x p2] X.env = (false, eval (.Name x p2) X.env) :: starEach [] X.env) (hd : (x == ("__debug__" : Str)) = false) (hcd : (x == ("__classdict__" : Str)) = false) : EV X (.Call (.Name "list" p) [.Name x p2] [] pos) δ M Ψ :=
  fun σ G H sd sat Q k => SE.of (pe_callTy call_list_of hg hm (by decide +kernel) (pa_cons (pe_var hN hv hd hcd) pa_nil he) (he := he) (hpl := rfl)) (by
    obtain ⟨v, ev, rv⟩ := sd.at_ i _ h
    refine ⟨v, ev, a, ns.map V.int, by rw [show v = V.ref a from rv], .inl (hM.sq sat), fun p hp => ?_⟩
    have f := (sat.fresh hp).1
    exact k _ _ M _ _ q (Ex.new f) (sat.new hp) (.lst upd_same rpa_ints))
theorem tv_neScr {i : Nat} {x : Str} {p : Pos} {a : Addr} {ns : List Int} {b : Expr} {Φ : Bool → Mu → Prop} (hM : Scr X.K M a ns) (h : δ[i]? = some (some (.m a))) (hb : EE X b δ (.list [])) (q : Φ (!ns.isEmpty) M) (hu : X.A.units + 64 < cLine) (hN : X.N[i]? = some x) (hv : Vis X.env.scope x)
    (hm : behindInMarks .NotEq b = false) (hd : (x == ("__debug__" : Str)) = false) (hcd : (x == ("__classdict__" : Str)) = false) : TV X (.Compare (.Name x p) [.NotEq] [b] pos) δ M Φ :=
  fun σ G H sd sat Q k => ST.of (pt_cmpR (op_neD hu) (pe_var hN hv hd hcd) pe_SE hm) (by
    obtain ⟨v, ev, rv⟩ := sd.at_ i _ h
    refine ⟨v, ev, hb M (fun y M1 => y = .d (.list []) ∧ M1 = M) ⟨rfl, rfl⟩ σ G H sd sat _ fun u y M1 G1 H1 hy e1 sat1 r1 => ?_⟩
    obtain ⟨rfl, rfl⟩ := hy
    have rv : v = V.ref a := rv
    subst rv
    refine ⟨.list (ns.map PyData.int), .list [], .lst (hM.sq sat1) dpall_ints, rp_dp sat1.ex _ _ r1, dep_lI.shaped (by decide), (dep_list (k := 0) (ds := []) (fun _ h => nomatch h)).shaped (by decide), ?_⟩
    rw [eqv_listNil]
    exact ⟨_, rfl, k _ M1 G1 H1 q e1 sat1⟩)
end
end DL
/-! A dict's display of four; an item of a list that changes. -/
namespace DL
open PySem PySem.Spec PyProof.Rows L2
section
variable {X : Cx} {δ : En} {M : Mu} {Ψ : S → Mu → Prop} {pos : Pos} {D : DE}
theorem ev_ixV {o b : Expr} (hs : PlainIx b) (h : EV X o δ M fun y M1 => EV X b δ M1 fun z M2 => ∃ a ds j r, y = .m a ∧ z = .d (.int j) ∧ M2 a = some (.lst ds) ∧ atI ds j = some r ∧ Ψ (.d r) M2) : EV X (.Subscript o b pos) δ M Ψ :=
  fun σ G H sd sat Q k => SE.of (pe_ix ix_list pe_SE pe_SE hs) (h σ G H sd sat _ fun v y M1 G1 H1 q1 e1 sat1 r1 => q1 σ G1 H1 (sd.mono e1) sat1 _ fun u z M2 G2 H2 ⟨a, ds, j, r, ey, ez, hM, hj, q⟩ e2 sat2 r2 => by
    subst ey; subst ez
    cases r2
    have r1 : v = V.ref a := r1
    subst r1
    obtain ⟨g, o, eo, vs, rfl, ra⟩ := sat2.mu a _ hM
    obtain ⟨w', ew, rw'⟩ := atI_rp ra hj
    exact ⟨a, vs, j, w', rfl, rfl, .inl (.inl eo), ew, k w' _ M2 G2 H2 q (e1.trans e2) sat2 rw'⟩)
def dk4 (k1 k2 k3 k4 : Str) (s1 s2 s3 s4 : S) : List (Key × S) := putG (putG (putG (putG [] (Sum.inr k1) s1) (Sum.inr k2) s2) (Sum.inr k3) s3) (Sum.inr k4) s4
theorem ev_disp4 {k1 k2 k3 k4 : Str} {j1 j2 j3 j4 : Nat} {p1 p2 p3 p4 : Pos} {e1 e2 e3 e4 : Expr}
    (h : ∀ a, M a = none → EV X e1 δ (mup M a (.dK [])) fun s1 M1 => EV X e2 δ M1 fun s2 M2 => EV X e3 δ M2 fun s3 M3 => EV X e4 δ M3 fun s4 M4 => M4 a = some (.dK []) ∧ Ψ (.m a) (mup M4 a (.dK (dk4 k1 k2 k3 k4 s1 s2 s3 s4)))) :
    EV X (.Dict [some (.Constant (.str k1) j1 p1), some (.Constant (.str k2) j2 p2), some (.Constant (.str k3) j3 p3), some (.Constant (.str k4) j4 p4)] [e1, e2, e3, e4] pos) δ M Ψ :=
  fun σ G H sd sat Q k => SE.of (pe_disp (pps_cons pe_str pe_SE (pps_cons pe_str pe_SE (pps_cons pe_str pe_SE (pps_cons pe_str pe_SE pps_nil)))) rfl rfl (by simp) (by show 4 ≤ 15; decide)) fun p hp => by
    refine h p (sat.fresh hp).2 σ G _ sd (sat.newM hp ⟨[], rfl, .nil⟩) _ fun v1 s1 M1 G1 H1 q1 f1 sat1 r1 => ?_
    refine q1 σ G1 H1 (sd.mono f1) sat1 _ fun v2 s2 M2 G2 H2 q2 f2 sat2 r2 => ?_
    refine q2 σ G2 H2 (sd.mono (f1.trans f2)) sat2 _ fun v3 s3 M3 G3 H3 q3 f3 sat3 r3 => ?_
    refine q3 σ G3 H3 (sd.mono ((f1.trans f2).trans f3)) sat3 _ fun v4 s4 M4 G4 H4 ⟨hM, q4⟩ f4 sat4 r4 => ?_
    obtain ⟨g, o, eo, ps, rfl, pr⟩ := sat4.mu p _ hM
    cases pr
    refine ⟨eo, [(Sum.inr k1, v1), (Sum.inr k2, v2), (Sum.inr k3, v3), (Sum.inr k4, v4)], rfl, by show 4 ≤ 15; decide, ?_⟩
    refine k _ _ _ G4 _ q4 (((f1.trans f2).trans f3).trans f4) (sat4.put hM ⟨_, rfl, ?_⟩) rfl
    show Paired _ (putK (putK (putK (putK [] (Sum.inr k1) v1) (Sum.inr k2) v2) (Sum.inr k3) v3) (Sum.inr k4) v4) _
    exact pr_put (R := RepS G4) (pr_put (R := RepS G4) (pr_put (R := RepS G4) (pr_put (R := RepS G4) .nil (reps_ex ((f2.trans f3).trans f4) r1)) (reps_ex (f3.trans f4) r2)) (reps_ex f4 r3)) r4
end
end DL
/-! A walk over a range whose length is drawn. -/
namespace DL
open PySem PySem.Spec PyProof.Rows L2
section
variable {X : Cx} {δ : En} {M : Mu} {Ψ : S → Mu → Prop} {pos : Pos} {D : DE}
theorem w1_forRgV {i : Nat} {x : Str} {px p pos1 : Pos} {a : Expr} {body : List Stmt} (h : EV X a δ M fun y M1 => ∃ (n : Nat) (inv : Nat → En → Mu → Prop), y = .d (.int (n : Int)) ∧ n ≤ 100000 ∧ inv 0 δ M1 ∧
      (∀ j δ' M', j < n → inv j δ' M' → WS X body (δ'.set i (some (.d (.int (0 + (j : Int)))))) M' { nx := inv (j + 1), rt := D.rt, bk := D.nx, ct := inv (j + 1) }) ∧ ∀ δ' M', inv n δ' M' → D.nx δ' M')
    (hg : Gl X "range") (hm : X.mg "range" = none) (hs : starEach [a] X.env = [(false, eval a X.env)]) (hN : X.N.Nodup) (hn : X.N[i]? = some x) (hx : Loc X.env.scope x) (hf : X.fn x = true ∨ X.env.scope.names.lookup x = some .local) (hp : PassesOwn (model X.prog X.w) X.A X.env X.xe) (hc : X.calm = true)
    (hst : ∀ v, foldedSetIterable (.Call (.Name "range" p) [a] [] pos1) X.env v = pure v) : W1 X (.For (.Name x px) (.Call (.Name "range" p) [a] [] pos1) body [] pos) δ M D :=
  fun σ G H sd sat D' L => SS1.of (ps_for hp hc (pi_range1 hg hm (pa_cons pe_SE pa_nil hs) hs) pg_STg pss_SSs hst) (h σ G H sd sat _ fun v y M1 G1 H1 ⟨n, inv, ey, hn1, h0, step, fin⟩ e1 sat1 r1 => by
    subst ey
    cases r1
    refine ⟨(n : Int), rfl, by omega, by omega, ?_⟩
    rw [Int.toNat_natCast]
    have W : Walks (Itr 0 n) (rangeD 0 n) G1 := walks_range
    refine ⟨fun i m σ' H' => m + i = n ∧ ∃ δ' M' G', Ex G1 G' ∧ SD G' σ' δ' ∧ Sat G' M' H' ∧ inv i δ' M', ⟨n, rfl, δ, M1, G1, Ex.refl G1, sd.mono e1, sat1, h0⟩, ?_⟩
    rintro j m σ2 H2 ⟨hm2, δ2, M2, G2, e2, sd2, sat2, v2⟩
    obtain ⟨w1, w2⟩ := W j G2 H2 M2 e2 sat2
    rcases Nat.lt_or_ge j n with hlt | hge
    · have hx2 : (rangeD 0 n)[j]? = some (.int (0 + (j : Int))) := by
        unfold rangeD
        rw [List.getElem?_map, List.getElem?_range hlt]; rfl
      obtain ⟨go, yl⟩ := w1 _ hx2
      refine .inr ⟨go, fun σ' H' => ∃ δ' M' G', Ex G1 G' ∧ SD G' σ' δ' ∧ Sat G' M' H' ∧ inv (j + 1) δ' M', fun σ' H' h => ⟨m - 1, by omega, by omega, h⟩, fun v H3 y => ?_⟩
      obtain ⟨G3, e3, sat3, r3⟩ := yl v H3 y
      refine (gv_name hN hn hx hf : GV X (.Name x px) (.int (0 + (j : Int))) δ2 _ _) σ2 G3 H3 M2 v (sd2.mono e3) sat3 r3 _ fun σ4 sd4 _ => ?_
      refine step j δ2 M2 hlt v2 σ4 G3 H3 sd4 sat3 _ ⟨fun σ' δ' M' G' H' q e sd' sat' => ⟨δ', M', G', (e2.trans e3).trans e, sd', sat', q⟩, fun v x M' G' H' q e => L.rt v x M' G' H' q (((e1.trans e2).trans e3).trans e), fun σ' δ' M' G' H' q e => L.nx σ' δ' M' G' H' q (((e1.trans e2).trans e3).trans e), fun σ' δ' M' G' H' q e sd' sat' => ⟨δ', M', G', (e2.trans e3).trans e, sd', sat', q⟩⟩
    · refine .inl ⟨w2 (by rw [range_len]; exact hge), ?_⟩
      have ei : j = n := by omega
      rw [ei] at v2
      exact L.nx σ2 δ2 M2 G2 H2 (fin δ2 M2 v2) (e1.trans e2) sd2 sat2)
theorem ws_drop {sts : List Stmt} (i : Nat) {a : Addr} (h : WS X sts (δ.set i none) (mdel M a) D) (h1 : δ[i]? = some (some (.m a)) ∨ True) : WS X sts δ M D := fun σ G H sd sat D' L =>
  h σ G H (sd.less ⟨by rw [List.length_set], fun j x q => by
    by_cases e : i = j
    · subst e
      by_cases hl : i < δ.length
      · rw [List.getElem?_set_self hl] at q; cases q
      · rw [List.getElem?_eq_none (by rw [List.length_set]; omega)] at q; cases q
    · rwa [List.getElem?_set_ne e] at q⟩) (sat.del a) D' L
end
end DL
/-! Tuples of ints of any length, sorted. -/
namespace DL
open PySem PySem.Spec PyProof.Rows L2
/-- v is a tuple of these ints -/
def TupZ (h : Heap) (v : Value) (ns : List Int) : Prop := ∃ (a : Addr) (o : Obj) (xs : Array Value) (n : Nat), v = .ref a ∧ h.get? a = some o ∧ o.cls = .type "tuple" ∧ o.data = .seq xs n ∧ IntsAre xs.toList ns
theorem TupZ.keep {h h' : Heap} {v : Value} {ns : List Int} (t : TupZ h v ns) (k : ∀ b o, h.get? b = some o → o.cls = .type "tuple" → h'.get? b = some o) : TupZ h' v ns := by
  obtain ⟨a, o, xs, n, e, ho, hc, hd, hi⟩ := t
  exact ⟨a, o, xs, n, e, k a o ho hc, hc, hd, hi⟩
theorem reads_ints {h : Heap} : ∀ {vs : List Value} {ns : List Int}, IntsAre vs ns → ∃ as, ReadsAll h vs (ns.map PyData.int) as
  | _, _, .nil => ⟨_, .nil⟩
  | _, _, .cons n t r => by
    obtain ⟨as, q⟩ := reads_ints r
    exact ⟨_, .cons (.int n t) q⟩
section
variable {prog : Program} {w : World} {A : Around} {E : Value → Shared → Prop} {s : Shared}
theorem first_z {v : Value} {ns : List Int} (t : TupZ s.heap v ns) : ∃ f : Option Value, (∀ x, f = some x → ∃ i t, x = Value.int i t) ∧ ∀ (M : Model) (A : Around) (E : Value → Shared → Prop) (Q : Option Value → Shared → Prop), Q f s → wpAny M A (firstOfTuple' v) Q E s := by
  obtain ⟨a, o, xs, n, rfl, ho, hc, hd, hi⟩ := t
  refine ⟨xs[0]?, fun x hx => ?_, fun M A E Q q => ?_⟩
  · exact SrtO.ints_mem hi x (by
      rw [← Array.getElem?_toList] at hx
      exact List.mem_of_getElem? hx)
  · rw [PySem.W.kas_first_eq]
    refine wpAny_bind (PySem.W.Looks.here (show PySem.W.Looks M s.heap (typeOf (.ref a)) o.cls from (PySem.W.Looks.ld ho).andThen .now) ?_)
    rw [hc, if_neg (by first | decide | simp)]
    exact wpAny_bind (listItems_at ho hd (wpAny_pure q))
theorem firsts_z : ∀ {vs : List Value}, (∀ v ∈ vs, ∃ ns, TupZ s.heap v ns) → ∃ fs : List (Option Value), fs.length = vs.length ∧ (∀ f ∈ fs, ∀ x, f = some x → ∃ i t, x = Value.int i t) ∧ ∀ (M : Model) (A : Around) (E : Value → Shared → Prop) (Q : List (Option Value) → Shared → Prop), Q fs s → wpAny M A (vs.mapM firstOfTuple') Q E s
  | [], _ => ⟨[], rfl, fun f hf => (nomatch hf), fun M A E Q q => by rw [List.mapM_nil]; exact wpAny_pure q⟩
  | v :: vs, h => by
    obtain ⟨ns, t⟩ := h v List.mem_cons_self
    obtain ⟨f, hf, hw⟩ := first_z t
    obtain ⟨fs, h1, h2, h3⟩ := firsts_z fun u hu => h u (List.mem_cons_of_mem _ hu)
    refine ⟨f :: fs, by rw [List.length_cons, List.length_cons, h1], fun g hg => ?_, fun M A E Q q => ?_⟩
    · rcases List.mem_cons.mp hg with z | z
      · rw [z]; exact hf
      · exact h2 g z
    · rw [List.mapM_cons]
      exact wpAny_bind (hw M A E _ (wpAny_bind (h3 M A E (fun bs s' => wpAny M A (pure (f :: bs)) Q E s') (wpAny_pure q))))
theorem only_z {T : Value} (hT : (T == T) = true) {vs : List Value} (h0 : 0 < vs.length) (h : ∀ v ∈ vs, PySem.W.Looks (model prog w) s.heap (typeOf v) T) {Q : Option Value → Shared → Prop} (q : Q (some T) s) : wpAny (model prog w) A (oneTypeOnly' vs.toArray) Q E s := by
  obtain ⟨v, r, rfl⟩ : ∃ v r, vs = v :: r := by
    match vs, h0 with
    | v :: r, _ => exact ⟨v, r, rfl⟩
  rw [oneTypeOnly'_eq, List.mapM_toArray, map_eq_pure_bind]
  refine wpAny_bind (wpAny_bind (PySem.W.kas_mapM (r := T) _ (fun u hu Q' hq => (h u hu).here hq) (wpAny_pure ?_)))
  have hall : ((List.map (fun _ => T) (v :: r)).toArray.all fun x => x == T) = true := by
    simp only [List.all_toArray, List.all_map, List.all_eq_true]
    intro _ _
    exact hT
  have e : (List.map (fun _ => T) (v :: r)).toArray[0]? = some T := by simp
  rw [e]
  simp only [hall, if_true]
  exact wpAny_pure q
/-- which way the sort compares: three ways there are -/
theorem kind_z {vs : List Value} (h2 : 2 ≤ vs.length) (h : ∀ v ∈ vs, ∃ ns, TupZ s.heap v ns) : ∃ κ, (κ = tuples' true ∨ κ = general' ∨ κ = oneType') ∧ ∀ (Q : SortKind → Shared → Prop) (E : Value → Shared → Prop), Q κ s → wpAny (model prog w) A (keyKind' vs.toArray) Q E s := by
  obtain ⟨fs, h1, h3, h4⟩ := firsts_z h
  have hlook : ∀ v ∈ vs, PySem.W.Looks (model prog w) s.heap (typeOf v) (.type "tuple") := fun v hv => by
    obtain ⟨ns, a, o, xs, n, rfl, ho, hc, hd, hi⟩ := h v hv
    rw [← hc]
    exact (PySem.W.Looks.ld ho).andThen .now
  by_cases ha : (fs.toArray.all fun x => x.isSome) = true
  · refine ⟨tuples' true, .inl rfl, fun Q E q => ?_⟩
    rw [keyKind'_eq, List.mapM_toArray, map_eq_pure_bind]
    refine wpAny_bind (wpAny_bind (h4 _ _ _ _ (wpAny_pure ?_)))
    rw [if_pos ha]
    refine wpAny_bind (wpAny_rule ?_)
    obtain ⟨gs, eg, hg, lg⟩ : ∃ gs : List Value, fs = gs.map some ∧ (∀ x ∈ gs, ∃ i t, x = Value.int i t) ∧ gs.length = fs.length := by
      have ha' : fs.all (fun x => x.isSome) = true := by simpa using ha
      clear ha h4 h1
      induction fs with
      | nil => exact ⟨[], rfl, fun x hx => (nomatch hx), rfl⟩
      | cons f fs ih =>
        rw [List.all_cons] at ha'
        have ha2 := Bool.and_eq_true_iff.mp ha'
        obtain ⟨gs, e1, e2, e3⟩ := ih (fun g hg => h3 g (List.mem_cons_of_mem _ hg)) ha2.2
        cases f with
        | none => cases ha2.1
        | some x =>
          refine ⟨x :: gs, by rw [List.map_cons, e1], fun y hy => ?_, by rw [List.length_cons, List.length_cons, e3]⟩
          rcases List.mem_cons.mp hy with z | z
          · rw [z]; exact h3 _ List.mem_cons_self x rfl
          · exact e2 y z
    have hfm : (fs.toArray.filterMap id) = gs.toArray := by rw [eg]; simp
    rw [hfm]
    refine wpAny_bind (only_z (T := .type "int") (beq_self_eq_true _) (by omega) (fun v hv => ?_) (wpAny_pure ?_))
    · obtain ⟨i, t, rfl⟩ := hg v hv
      exact PySem.W.Looks.now
    · exact q
  · by_cases hb : (fs.toArray[0]?.bind id).isSome = true
    · refine ⟨general', .inr (.inl rfl), fun Q E q => ?_⟩
      rw [keyKind'_eq, List.mapM_toArray, map_eq_pure_bind]
      refine wpAny_bind (wpAny_bind (h4 _ _ _ _ (wpAny_pure ?_)))
      rw [if_neg ha, if_pos hb]
      exact wpAny_pure q
    · refine ⟨oneType', .inr (.inr rfl), fun Q E q => ?_⟩
      rw [keyKind'_eq, List.mapM_toArray, map_eq_pure_bind]
      refine wpAny_bind (wpAny_bind (h4 _ _ _ _ (wpAny_pure ?_)))
      rw [if_neg ha, if_neg hb]
      refine wpAny_bind (only_z (T := .type "tuple") (beq_self_eq_true _) (by omega) hlook (wpAny_pure ?_))
      exact q
/-- any two compare, whichever way -/
theorem lt_z {κ : SortKind} (hκ : κ = tuples' true ∨ κ = general' ∨ κ = oneType') {x y : Value} {a b : List Int} (hx : TupZ s.heap x a) (hy : TupZ s.heap y b) (hu : A.units + 2 < cLine) {Q : Bool → Shared → Prop} (q : Q (decide (a < b)) s) : wpAny (model prog w) A (keyLt' κ x y) Q E s := by
  obtain ⟨p, o, xs, n, rfl, ho, hc, hd, hi⟩ := hx
  obtain ⟨p2, o2, ys, n2, rfl, ho2, hc2, hd2, hi2⟩ := hy
  obtain ⟨as, r1⟩ := reads_ints (h := s.heap) hi
  obtain ⟨bs, r2⟩ := reads_ints (h := s.heap) hi2
  have al := PySem.W.alike_ints a b
  have rd1 : Reads s.heap (.ref p) (.tuple (a.map PyData.int)) as := .tuple ho hc hd r1
  have rd2 : Reads s.heap (.ref p2) (.tuple (b.map PyData.int)) bs := .tuple ho2 hc2 hd2 r2
  have dep : ∀ ns : List Int, (PyData.tuple (ns.map PyData.int)).depth = 1 := fun ns => by rw [PyData.depth, PySem.W.depth_ints]
  have q' : Q (PySem.W.dataLt (.tuple (a.map PyData.int)) (.tuple (b.map PyData.int))) s := by rw [dataLt_tI]; exact q
  have l1 : xs.size = (a.map PyData.int).length := by simpa using SeqAt.ReadsAll.length _ _ _ r1
  have l2 : ys.size = (b.map PyData.int).length := by simpa using SeqAt.ReadsAll.length _ _ _ r2
  rcases hκ with rfl | rfl | rfl
  · rw [PySem.W.dataLt_tuple] at q'
    refine PySem.W.kat_lt ho hd ho2 hd2 (PySem.W.katLex_alike (a.map PyData.int) (b.map PyData.int) 0 _ _ _ _ r1 r2 al (by rw [PySem.W.depth_ints, PySem.W.depth_ints]; omega) (fun _ _ x r t e => ?_) (by rw [l1, l2]) q')
    cases a with
    | nil => cases e
    | cons i a => cases e; exact fun z => nomatch z
  · exact PySem.W.oneLt_alike (f := false) (fun z => nomatch z) rd1 rd2 (by rw [PySem.W.alike]; exact al) (fun z => nomatch z) (by rw [dep, dep]; omega) q'
  · rw [keyLt'_oneType, oneLt'_eq]
    simp only [if_true]
    rw [PySem.W.dataLt_tuple, ← PySem.W.firstLt_toks _ _ al, ← l1, ← l2] at q'
    refine wpAny_bind (wpAny_cRoomFor (by omega) ?_)
    obtain ⟨cls, dd, data, sl⟩ := o
    obtain ⟨cls2, dd2, data2, sl2⟩ := o2
    simp only at hc hd hc2 hd2
    subst hc hd hc2 hd2
    refine wpAny_bind (wpAny_callSpecialIfBound?_slot (T := "tuple") ⟨_, ho, rfl⟩ F.slot_tuple_lt (call_meets F.slot_tuple_lt ⟨_, ho, rfl⟩ F.entry_tuple_lt (F.args_tuple_lt_2 _ _) (SeqAt.tuple_ltAt p p2 xs ys n n2 dd dd2 sl sl2 (SeqAt.pairEq (a.map PyData.int) (b.map PyData.int)) fun j => PySem.W.dataLt ((a.map PyData.int).getD j .none) ((b.map PyData.int).getD j .none)) ⟨ho, ho2, fun j j1 j2 => ?_, fun j j1 j2 hj => ?_, ?_⟩))
    · have := PySem.W.eqAt_alikeAll (a.map PyData.int) (b.map PyData.int) A.in1 s xs.toList ys.toList _ _ r1 r2 al (by rw [PySem.W.depth_ints, PySem.W.depth_ints]; show A.units + 1 + 0 < cLine; omega) j (by simpa using j1) (by simpa using j2)
      simpa using this
    · have := PySem.W.rcLt_alikeAll (a.map PyData.int) (b.map PyData.int) A.in1 s xs.toList ys.toList _ _ r1 r2 al (by rw [PySem.W.depth_ints, PySem.W.depth_ints]; show A.units + 1 + 0 < cLine; omega) j (by simpa using j1) (by simpa using j2) hj
      simpa using this
    · exact wpAny_truthy_bool q'
end
end DL
/-! sorted(d) of a dict whose keys are tuples of ints. -/
namespace DL
open PySem PySem.Spec PyProof.Rows L2
theorem li_asymm {a b : List Int} (h : a < b) : ¬ b < a := List.lt_asymm h
theorem li_tr {a b c : List Int} (h1 : ¬ b < a) (h2 : ¬ c < b) : ¬ c < a := fun h => by
  have g1 : a ≤ b := List.not_lt.mp h1
  have g2 : b ≤ c := List.not_lt.mp h2
  exact (List.not_lt.mpr (List.le_trans g1 g2)) h
def vInt : V → Int
  | .int i => i
  | _ => 0
/-- the ints of a key -/
def keyZ (H : Hp) : Value → List Int
  | .ref b => match H b with
    | some (.tup vs) => vs.map vInt
    | _ => []
  | _ => []
theorem keyZ_of {H : Hp} {b : Addr} {k : List Int} (h : H b = some (.tup (k.map V.int))) : keyZ H (.ref b) = k := by
  have e : (k.map V.int).map vInt = k := by rw [List.map_map]; exact List.map_id'' (fun _ => rfl) k
  simp only [keyZ, h]
  exact e
theorem swo_z (H : Hp) : SrtO.Swo fun v u => decide (keyZ H v < keyZ H u) := by
  refine ⟨fun x y h => ?_, fun x y z h1 h2 => ?_⟩
  · exact decide_eq_false (li_asymm (of_decide_eq_true h))
  · exact decide_eq_false (li_tr (of_decide_eq_false h1) (of_decide_eq_false h2))
theorem keys_z {H : Hp} : ∀ {kvs : List (List Key × V)} {bs : List Addr} {ks : List (List Int)}, IsKeys H kvs bs → kvs.map (·.1) = ks.map (fun k => k.map Sum.inl) → bs.map (fun b => keyZ H (.ref b)) = ks ∧ ∀ b ∈ bs, ∃ k, H b = some (.tup ((k : List Int).map V.int))
  | [], _, ks, h, e => by
    cases h
    cases ks with
    | nil => exact ⟨rfl, fun b hb => (nomatch hb)⟩
    | cons k ks => cases e
  | p :: kvs, _, ks, h, e => by
    cases h with
    | cons hp ht =>
      cases ks with
      | nil => cases e
      | cons k ks =>
        rw [List.map_cons, List.map_cons] at e
        obtain ⟨e1, e2⟩ := List.cons.inj e
        obtain ⟨i1, i2⟩ := keys_z ht e2
        rename_i b0 _
        have hb : H b0 = some (.tup (k.map V.int)) := by
          rw [hp, e1, List.map_map]; rfl
        refine ⟨by rw [List.map_cons, keyZ_of hb, i1], fun b hm => ?_⟩
        rcases List.mem_cons.mp hm with z | z
        · rw [z]; exact ⟨k, hb⟩
        · exact i2 b z
section
variable {X : Cx}
theorem cr_sortedDT (hc : X.calm = true) (hu : X.A.units + 64 < cLine) : CallR X (.builtin "sorted") (fun xs H Q => ∃ (d : Addr) (kvs : List (List Key × V)) (ks : List (List Int)), xs = [V.ref d] ∧ H d = some (.dT kvs) ∧ kvs.map (·.1) = ks.map (fun k => k.map Sum.inl) ∧
    ∀ (bs : List Addr) (p : Addr), H p = none → (bs.map fun b => keyZ H (.ref b)).Perm ks → (bs.map fun b => keyZ H (.ref b)).Pairwise (fun x y => ¬ y < x) → (∀ b ∈ bs, ∃ k : List Int, H b = some (.tup (k.map V.int))) → Q (.ref p) (upd H p (.lst (bs.map V.ref)))) := by
  intro pins s σ H xs us Q I r h
  obtain ⟨d, kvs, ks, rfl, hd, hk, q⟩ := h
  obtain ⟨u, rfl, rx⟩ := r.one
  cases rx
  obtain ⟨z, hs, ks', pr, o, es, ep, ho, hx, hdt, he, hn⟩ := (show ObjOk X.prog X.w H s.heap d (.dT kvs) from I.hok d _ hd)
  have l1 : es.size = ks'.length := size_of_entries he
  have l2 : kvs.length = ks'.length := Paired.length pr
  obtain ⟨k1, k2⟩ := keys_z (isKeys_of pr) hk
  generalize hbs : (ks'.map fun x => x.2.1) = bs at k1 k2
  have lb : bs.length = ks'.length := by rw [← hbs, List.length_map]
  refine Calls.call_function_entry PyProof.Rows.kind_sorted PyProof.Rows.plain_sorted PyProof.Rows.entry_sorted (PyProof.Rows.args_sorted1 _) ?_
  unfold Builtin.«sorted»
  refine wpAny_bind (m := checkCount "sorted" 1 1 _) (wpAny_pure ?_)
  refine wpAny_bind (PySem.W.kdu_collect (A := X.A.in1) (kdl_raw hs hx hdt) (I.ok.hd hc) ho (by omega) fun h' tk acc kp it => ?_)
  have ea : acc.toList = bs.map Value.ref := by
    rw [← hbs, List.map_map]
    refine List.ext_getElem? fun j => ?_
    rw [List.getElem?_map]
    have qe := entry_at he j
    cases hj : acc.toList[j]? with
    | none =>
      have h1 := List.getElem?_eq_none_iff.mp hj
      rw [Array.length_toList, it.1] at h1
      rw [List.getElem?_eq_none (by omega)]; rfl
    | some v =>
      obtain ⟨en, hen, hv⟩ := it.2 j v (by rw [← Array.getElem?_toList]; exact hj)
      rw [hen] at qe
      cases hb : ks'[j]? with
      | none => rw [hb] at qe; exact nomatch (show some en = none from qe)
      | some b =>
        rw [hb] at qe
        have e2 : en = entryOfKey (tupleKind (mixKind X.prog X.w)) b := Option.some.inj qe
        rw [hv, e2]; rfl
  have I1 : L2.Inv X pins σ H { s with heap := h', toks := tk } := I.kept kp
  have tz : ∀ v ∈ acc.toList, TupZ h' v (keyZ H v) := fun v hv => by
    rw [ea] at hv
    obtain ⟨b, hb, rfl⟩ := List.mem_map.mp hv
    obtain ⟨k, hbk⟩ := k2 b hb
    rw [keyZ_of hbk]
    obtain ⟨_, its, rv, ob, hob, hoc, n, hod⟩ := (show ObjOk X.prog X.w H h' b (.tup (k.map V.int)) from I1.hok b _ hbk)
    exact ⟨b, ob, _, n, rfl, hob, hoc, hod, by simpa using rv.ints⟩
  have lacc : acc.toList.length = ks'.length := by rw [ea, List.length_map, lb]
  refine wpAny_bind (wpAny_newList ?_ (by rw [lacc]; omega))
  have hoL : (h'.push (seqObj "list" acc.toList.toArray 0)).get? h'.objs.size = some (seqObj "list" acc.toList.toArray 0) := Heap.get?_push_size _ rfl
  show wpAny _ _ _ _ _ { s with heap := h'.push (seqObj "list" acc.toList.toArray 0), toks := tk }
  refine wpAny_bind (wpAny_holding (wpAny_call_entry PyProof.Rows.slot_list_sort ⟨_, hoL, rfl⟩ PyProof.Rows.entry_list_sort
    (SrtO.list_sort_ord (s := { s with heap := h'.push (seqObj "list" acc.toList.toArray 0), toks := tk }) (swo_z H) hoL (by rw [lacc]; omega) (fun h2 h3 keep => ?_) fun out g1 g2 => ⟨_, rfl, ?_⟩) (PyProof.Rows.args_list_sort _)))
  · have t3 : ∀ v ∈ acc.toList, TupZ h3 v (keyZ H v) := fun v hv => (tz v hv).keep fun b ob e hcl => keep b ob (fun y => by
        have e5 := Heap.lt_size e
        rw [y] at e5
        exact Nat.lt_irrefl _ e5) (Heap.get?_push_of_some _ e)
    obtain ⟨κ, hκ, hq⟩ := kind_z (s := { s with heap := h3, toks := tk }) h2 fun v hv => ⟨_, t3 v hv⟩
    exact ⟨κ, fun Q E qq => hq Q E qq, fun p2 p3 m2 m3 => lt_z hκ (t3 _ m2) (t3 _ m3) (by show X.A.units + 1 + 1 + 2 < cLine; omega) ⟨rfl, rfl⟩⟩
  · obtain ⟨e', he'⟩ := PyProof.Rows.sortedHeap_at (vs := acc.toList) (out := out.toArray) hoL
    have hperm : out.Perm (bs.map Value.ref) := by rw [← ea]; exact g2.perm
    have hall : ∀ v ∈ out, ∃ b, v = Value.ref b ∧ b ∈ bs := fun v hv => by
      obtain ⟨b, hb, e⟩ := List.mem_map.mp (hperm.mem_iff.mp hv)
      exact ⟨b, e.symm, hb⟩
    obtain ⟨cs, ecs, hcs⟩ : ∃ cs : List Addr, out = cs.map Value.ref ∧ ∀ b ∈ cs, b ∈ bs := by
      clear g1 g2 he' hperm
      induction out with
      | nil => exact ⟨[], rfl, fun b hb => (nomatch hb)⟩
      | cons v out ih =>
        obtain ⟨cs, e1, e2⟩ := ih fun u hu => hall u (List.mem_cons_of_mem _ hu)
        obtain ⟨b, e3, e4⟩ := hall v List.mem_cons_self
        refine ⟨b :: cs, by rw [List.map_cons, e1, e3], fun c hc => ?_⟩
        rcases List.mem_cons.mp hc with y | y
        · rw [y]; exact e4
        · exact e2 c y
    have hz : ((cs.map V.ref).length) ≤ sizeLine := by
      have := hperm.length_eq
      rw [ecs, List.length_map, List.length_map] at this
      rw [List.length_map]; omega
    refine wpAny_pure ⟨_, rfl, .ref h'.objs.size, upd H h'.objs.size (.lst (cs.map V.ref)), I1.laid (t' := tk) (fun b ub e => ?_) (Nat.le_refl _)
      (show ObjOk X.prog X.w _ _ _ (.lst (cs.map V.ref)) from ⟨hz, out, e', by rw [ecs]; exact vals_refs cs, he'⟩), rfl, q cs _ (I1.hok.fresh (Nat.le_refl _)) ?_ ?_ fun b hb => k2 b (hcs b hb)⟩
    · have hb := Heap.lt_size e
      rw [PyProof.Rows.sortedHeap_old (Nat.ne_of_lt hb) (by rw [size_push']; exact Nat.lt_succ_of_lt hb)]
      exact Heap.get?_push_of_some _ e
    · have := hperm.map (keyZ H)
      rw [ecs, List.map_map, List.map_map] at this
      rw [← k1]; exact this
    · have g3 := g1
      rw [ecs] at g3
      refine List.pairwise_map.mpr ((List.pairwise_map.mp g3).imp fun {x y} hxy => ?_)
      exact of_decide_eq_false hxy
end
end DL
/-! The same as rules of the layer. -/
namespace DL
open PySem PySem.Spec PyProof.Rows L2
/-- tuples that stand in the heap are data -/
theorem Sat.adopt {G H : Hp} {M : Mu} (h : Sat G M H) (bs : List Addr) (hb : ∀ b ∈ bs, ∃ vs, H b = some (.tup vs)) : ∃ G', Ex G G' ∧ Sat G' M H ∧ ∀ b ∈ bs, G' b = H b := by
  refine ⟨fun b => if b ∈ bs then H b else G b, fun b o e => ?_, ⟨fun b o e => ?_, fun b m e => ?_⟩, fun b hm => if_pos hm⟩
  · show (if b ∈ bs then H b else G b) = some o
    by_cases hm : b ∈ bs
    · rw [if_pos hm]; exact h.ex b o e
    · rw [if_neg hm]; exact e
  · by_cases hm : b ∈ bs
    · rw [if_pos hm] at e; exact e
    · rw [if_neg hm] at e; exact h.ex b o e
  · obtain ⟨g, u, eu, rm⟩ := h.mu b m e
    have hm : b ∉ bs := fun hm => by
      obtain ⟨vs, e2⟩ := hb b hm
      rw [eu] at e2
      cases e2
      cases m with
      | lst _ => obtain ⟨_, z, _⟩ := rm; cases z
      | dK _ => obtain ⟨_, z, _⟩ := rm; cases z
      | dT _ => obtain ⟨_, z, _⟩ := rm; cases z
      | scr _ => obtain ⟨_, _, z, _⟩ := rm; cases z
    refine ⟨by rw [if_neg hm]; exact g, u, eu, repm_ex (fun c o e3 => ?_) rm⟩
    by_cases hc : c ∈ bs
    · rw [if_pos hc]; exact h.ex c o e3
    · rw [if_neg hc]; exact e3
theorem paired_keys {G : Hp} : ∀ {ps : List (List Key × V)} {es : List (List Key × PyData)}, Paired (fun p q => p.1 = q.1 ∧ Rp G p.2 q.2) ps es → ps.map (·.1) = es.map (·.1)
  | _, _, .nil => rfl
  | _, _, .cons a b => by rw [List.map_cons, List.map_cons, a.1, paired_keys b]
section
variable {X : Cx} {δ : En} {M : Mu} {Ψ : S → Mu → Prop} {pos : Pos} {D : DE}
theorem ev_sortedDT {i : Nat} {x : Str} {p p2 : Pos} {a : Addr} {es : List (List Key × PyData)} {ks : List (List Int)} (hk : es.map (·.1) = ks.map (fun k => k.map Sum.inl)) (hM : M a = some (.dT es)) (h : δ[i]? = some (some (.m a)))
    (q : ∀ out : List (List Int), out.Perm ks → out.Pairwise (fun x y => ¬ y < x) → Ψ (.d (.list (out.map fun k => .tuple (k.map PyData.int)))) M) (hc : X.calm = true) (hu : X.A.units + 64 < cLine) (hg : Gl X "sorted") (hm : X.mg "sorted" = none) (hN : X.N[i]? = some x) (hv : Vis X.env.scope x)
    (he : starEach [.Name x p2] X.env = (false, eval (.Name x p2) X.env) :: starEach [] X.env) (hd : (x == ("__debug__" : Str)) = false) (hcd : (x == ("__classdict__" : Str)) = false) : EV X (.Call (.Name "sorted" p) [.Name x p2] [] pos) δ M Ψ :=
  fun σ G H sd sat Q k => SE.of (pe_callB (id := "sorted") (cr_sortedDT hc hu) hg hm (by decide +kernel) (pa_cons (pe_var hN hv hd hcd) pa_nil he) (he := he) (hpl := rfl)) (by
    obtain ⟨v, ev, rv⟩ := sd.at_ i _ h
    obtain ⟨g, o, eo, ps, rfl, pr⟩ := sat.mu a _ hM
    refine ⟨v, ev, a, ps, ks, by rw [show v = V.ref a from rv], eo, (paired_keys pr).trans hk, fun bs r hr h1 h2 h3 => ?_⟩
    obtain ⟨G', ex, sat', hG⟩ := sat.adopt bs fun b hb => (h3 b hb).elim fun k hk => ⟨_, hk⟩
    have f := (sat'.fresh hr).1
    have ra : RpA (upd G' r (.lst (bs.map V.ref))) (bs.map V.ref) ((bs.map fun b => keyZ H (.ref b)).map fun k => .tuple (k.map PyData.int)) := by
      have all : ∀ b ∈ bs, Rp (upd G' r (.lst (bs.map V.ref))) (.ref b) (.tuple ((keyZ H (.ref b)).map PyData.int)) := fun b hb => by
        obtain ⟨k, hk⟩ := h3 b hb
        rw [keyZ_of hk]
        have e : upd G' r (.lst (bs.map V.ref)) b = some (.tup (k.map V.int)) := by
          rw [upd_ne (ne_of_none (by rw [hG b hb]; exact hk) f), hG b hb]; exact hk
        exact .tup e rpa_ints
      generalize upd G' r (.lst (bs.map V.ref)) = G2 at all
      clear h1 h2 h3 hG
      induction bs with
      | nil => exact .nil
      | cons b bs ih => exact .cons (all b List.mem_cons_self) (ih fun c hc => all c (List.mem_cons_of_mem _ hc))
    exact k _ _ M _ _ (q _ h1 h2) (ex.trans (Ex.new f)) (sat'.new hr) (.lst upd_same ra))
theorem ev_slL {e : Expr} {lo hi : Option Expr} {p2 : Pos} (h : EV X e δ M fun x M1 => ∃ ds l u, x = .d (.list ds) ∧ EO X lo δ l ∧ EO X hi δ u ∧ Ψ (.d (.list (cutD ds l u))) M1) : EV X (.Subscript e (.Slice lo hi none p2) pos) δ M Ψ :=
  fun σ G H sd sat Q k => SE.of (pe_slice sl_list pe_SE po_SPt po_SPt) (h σ G H sd sat _ fun v x M1 G1 H1 ⟨ds, l, u, ex, hl, hh, q⟩ e1 sat1 r1 => by
    subst ex
    refine hl M1 σ G1 H1 (sd.mono e1) sat1 _ fun G2 H2 e2 sat2 => ?_
    refine hh M1 σ G2 H2 (sd.mono (e1.trans e2)) sat2 _ fun G3 H3 e3 sat3 => ?_
    cases rp_ex (e2.trans e3) _ _ r1 with
    | lst hs ha =>
      refine ⟨_, _, rfl, .inl (.inl (sat3.ex _ _ hs)), fun p hp => ?_⟩
      have f := (sat3.fresh hp).1
      refine k _ _ M1 _ _ q (((e1.trans e2).trans e3).trans (Ex.new f)) (sat3.new hp) (.lst upd_same (rps_ex (Ex.new f) _ _ ?_))
      unfold cutV cutD
      rw [ha.length]
      exact (ha.drop _).take _)
end
end DL
/-! A def that looks at the guards, by its body; more of repr and in. -/
namespace KP
open PySem PySem.Spec PyProof.Rows L2 DL
section
variable {P : Program} {w : World} {K : PySem.W.Frag} {mg : Str → Option Value} {base : Heap}
theorem fndG0 {x : Str} {j : Nat} {N ps : List Str} {k : Nat} {f : DS} {fd : FuncData} (F : FunD K x x (defArgs (top j)) (defBody (top j)) (defScope (top j)) [] [] (He.ga K x) fd) (Sc : FnScope N ps (defScope (top j))) (len : ∀ xs M Φ, f xs M Φ → xs.length = ps.length)
    (body : ∀ (a : Addr) (cdv : Value) (A : Around) (outer : List Env) (s : Shared) (H : Hp) (E : XK) (xs : List S) (M : Mu) (Φ : S → Mu → Prop), (Xj P w K mg base N x j a cdv A outer s H E).A.guards = some [] → Room k (Xj P w K mg base N x j a cdv A outer s H E).A → f xs M Φ →
      WS (Xj P w K mg base N x j a cdv A outer s H E) (defBody (top j)) (startD N xs) M { nx := fun _ M' => Φ (.d .none) M', rt := Φ }) : FnG P w K mg base (k + 1) (He.ga K x) fd ps (spD f) := by
  refine fng_of F Sc (fun vs H Q E h => ?_) (fun cdv A outer s H vs Q E hgd hr h => ?_)
  · obtain ⟨G, M, xs, r, sat, q⟩ := h
    rw [r.length]
    exact len _ _ _ q
  · obtain ⟨G, M, xs, r, sat, q⟩ := h
    refine ⟨_, PSs.nox pss_SSs, body (He.ga K x) cdv A outer s H E xs M _ hgd hr q (L2.start N vs) G H (sd_start r) sat _ ⟨fun σ δ M' G' H' q e sd sat => q V.non G' H' e sat .non, fun v x M' G' H' q e sat r => q v G' H' e sat r, fun _ _ _ _ _ q => q.elim, fun _ _ _ _ _ q => q.elim⟩⟩
theorem fndG (T : Txt K mg) (i : Nat) {x : Str} {j : Nat} {N ps : List Str} {k : Nat} {f : DS} (hi : fn[i]? = some (dOf x j)) (hg : fa[i]? = some (.glo x)) (Sc : FnScope N ps (defScope (top j))) (hb : BindOk x j ps) (len : ∀ xs M Φ, f xs M Φ → xs.length = ps.length)
    (body : ∀ (a : Addr) (cdv : Value) (A : Around) (outer : List Env) (s : Shared) (H : Hp) (E : XK) (xs : List S) (M : Mu) (Φ : S → Mu → Prop), (Xj P w K mg base N x j a cdv A outer s H E).A.guards = some [] → Room k (Xj P w K mg base N x j a cdv A outer s H E).A → f xs M Φ →
      WS (Xj P w K mg base N x j a cdv A outer s H E) (defBody (top j)) (startD N xs) M { nx := fun _ M' => Φ (.d .none) M', rt := Φ }) : FnE P w K mg base (k + 1) x ps f := by
  obtain ⟨fd, F⟩ := T.says.def_ i hi
  have F : FunD K x x (defArgs (top j)) (defBody (top j)) (defScope (top j)) [] [] (He.ga K x) fd := F
  exact ⟨He.ga K x, fd, fndG0 F Sc len body, T.glo i hg, F.kp, F.bindsN hb⟩
end
end KP
namespace DL
open PySem PySem.Spec PyProof.Rows L2
section
variable {X : Cx} {δ : En} {M : Mu} {Ψ : S → Mu → Prop} {pos : Pos}
theorem ev_and1 {op : BoolOp} {a : Expr} (h : EV X a δ M Ψ) : EV X (.BoolOp op [a] pos) δ M Ψ := fun σ G H sd sat Q k => SE.of (pe_one pe_SE) (h σ G H sd sat Q k)
theorem ev_and {a b : Expr} {rest : List Expr} {p : Bool} (ha : EE X a δ (.bool p)) (hb : p = true → EV X (.BoolOp .And (b :: rest) pos) δ M Ψ) (hf : p = false → Ψ (.d (.bool false)) M) : EV X (.BoolOp .And (a :: b :: rest) pos) δ M Ψ :=
  fun σ G H sd sat Q k => SE.of (pe_and pe_SE pe_SE) (ha M (fun x M1 => x = .d (.bool p) ∧ M1 = M) ⟨rfl, rfl⟩ σ G H sd sat _ fun v x M1 G1 H1 hx e1 sat1 r1 => by
    obtain ⟨rfl, rfl⟩ := hx
    cases r1
    refine ⟨p, rfl, ?_⟩
    cases p with
    | false => exact k _ _ M1 G1 H1 (hf rfl) e1 sat1 (.bl false)
    | true => exact hb rfl σ G1 H1 (sd.mono e1) sat1 Q fun v x M2 G2 H2 q2 e2 => k v x M2 G2 H2 q2 (e1.trans e2))
/-- data in a tuple of data -/
theorem op_inDT (hu : X.A.units + 65 < cLine) : OpR X (compareOp .In) (fun x y H Q => ∃ d ds, Dp X.K H x d ∧ Dp X.K H y (.tuple ds) ∧ SeqAt.shaped d = true ∧ SeqAt.shaped (.list ds) = true ∧ Q (.bl (ds.any fun z => PyData.eqv z d)) H) := by
  intro pins s σ H x y v u Q I rx ry h
  obtain ⟨d, ds, hd, he, sd, se, q⟩ := h
  obtain ⟨as, r1⟩ := Dp.reads I d x v hd rx
  obtain ⟨bs, r2⟩ := Dp.reads I (.tuple ds) y u he ry
  have hc := SeqAt.canLay_of_shaped se
  exact SeqAt.in_tuple_reads r2 r1 (by simpa only [PyData.canLay0] using hc) (SeqAt.canLay_of_shaped sd) (room_in_shaped sd hu) ⟨.bl _, H, I, rfl, q⟩
theorem bv_inDT {d : PyData} {ds : List PyData} (hu : X.A.units + 65 < cLine) (hd : SeqAt.shaped d = true) (he : SeqAt.shaped (.list ds) = true) : BinV X (compareOp .In) d (.tuple ds) (.bool (ds.any fun z => PyData.eqv z d)) := fun G H M x y sat hx hy Q k =>
  SOp.of (op_inDT hu) ⟨d, ds, rp_dp sat.ex _ _ hx, rp_dp sat.ex _ _ hy, hd, he, k _ G H (Ex.refl G) sat (.bl _)⟩
theorem any_tI {row : List Int} {rs : List (List Int)} : ((rs.map fun r => PyData.tuple (r.map PyData.int)).any fun z => PyData.eqv z (.tuple (row.map PyData.int))) = decide (row ∈ rs) := by
  induction rs with
  | nil => simp
  | cons r rs ih =>
    rw [List.map_cons, List.any_cons, ih, eqv_tI]
    by_cases e : r = row
    · subst e; simp
    · have e' : ¬ row = r := fun z => e z.symm
      simp [e, e']
end
end DL
namespace KP
open PySem PySem.Spec PyProof.Rows L2 DL
section
variable {P : Program} {w : World} {K : PySem.W.Frag} {mg : Str → Option Value} {base : Heap}
/-! steps -/
local macro_rules | `(tactic| walk_at "vis") => `(tactic| first | exact vis_l (by rfl) | exact vis_c (by rfl) | exact vis_f (by rfl))
local macro_rules | `(tactic| walk_at "vs") => `(tactic| first | rfl | (walk_at "vis") | decide)
local macro_rules | `(tactic| walk_at "mg") => `(tactic| exact z_of (by assumption) (by decide +kernel))
local macro_rules | `(tactic| walk_at "var") => `(tactic| fail)
local macro_rules | `(tactic| walk_at "glo") => `(tactic| first | exact ee_names (by assumption) (by rfl) (by rfl) | exact ee_clauses (by assumption) (by rfl) (by rfl) | exact ee_halvesS (by assumption) (by rfl) (by rfl) | exact ee_clashS (by assumption) (by rfl) (by rfl))
local macro_rules | `(tactic| walk_at "side") => `(tactic| first | assumption | ((with_reducible apply atI_litG); rfl) | ((fail_if_success (with_reducible apply atI_litG)); skip))
local macro_rules | `(tactic| walk_at "call") => `(tactic| fail)
local macro_rules | `(tactic| walk_at "bv") => `(tactic| first
  | (with_reducible apply bv_gB); first
    | (with_reducible exact bv_add) | (with_reducible exact bv_sub) | (with_reducible apply bv_mulS; walk_at "side") | (with_reducible apply bv_divS; walk_at "side") | (with_reducible apply bv_mod; walk_at "side") | (with_reducible apply bv_powS; walk_at "side")
    | (with_reducible apply bv_cat <;> walk_at "side") | (with_reducible apply bv_rep1 <;> walk_at "side") | (with_reducible apply bv_rep <;> walk_at "side") | (with_reducible apply bv_catT <;> walk_at "side")
  | (with_reducible apply bv_gC); first
    | (with_reducible exact bv_lt) | (with_reducible exact bv_le) | (with_reducible exact bv_gt) | (with_reducible exact bv_ge) | (with_reducible exact bv_eqI) | (with_reducible exact bv_neI) | (with_reducible exact bv_eqS) | (with_reducible exact bv_neS) | (with_reducible exact bv_isNone) | (with_reducible exact bv_inT) | (with_reducible exact bv_notin2)
    | (with_reducible apply bv_eqD <;> walk_at "side") | (with_reducible apply bv_neD <;> walk_at "side") | (with_reducible apply bv_inD <;> walk_at "side"))
local macro_rules | `(tactic| walk_at "any") => `(tactic| first
  | (with_reducible apply ee_id); walk_at "go"
  | (with_reducible apply ea_id); first | (with_reducible exact ea_nil) | ((with_reducible apply ea_cons) <;> walk_at "any")
  | (with_reducible apply eb_id); walk_at "gb"
  | (with_reducible apply ew_id); walk_at "gw"
  | (with_reducible apply eo_id); first | (with_reducible exact eo_none) | (apply eo_some; walk_at "go")
  | (with_reducible apply bv_id); walk_at "bv"
  | (fail_if_success (with_reducible apply ee_id)); (fail_if_success (with_reducible apply ea_id)); (fail_if_success (with_reducible apply eb_id)); (fail_if_success (with_reducible apply ew_id)); (fail_if_success (with_reducible apply bv_id)); first
    | (intro _; walk_at "any")
    | rfl | (walk_at "mg") | decide | (intro _; rfl) | (intro _ _; rfl) | (walk_at "side"))
local macro_rules | `(tactic| walk_at "gb") => `(tactic| first
  | (with_reducible apply eb_not); walk_at "gb"
  | (with_reducible apply eb_cmp) <;> walk_at "any"
  | (with_reducible apply EW.eb); walk_at "gw"
  | (apply eb_val) <;> walk_at "any")
local macro_rules | `(tactic| walk_at "gw") => `(tactic| first
  | (with_reducible apply ew_and) <;> walk_at "any"
  | (with_reducible apply ew_or) <;> walk_at "any"
  | (with_reducible apply ew_and1); walk_at "gb"
  | (with_reducible apply ew_or1); walk_at "gb")
local macro_rules | `(tactic| walk_at "go") => `(tactic| first
  | (with_reducible apply ee_nm); first | walk_at "var" | walk_at "glo"
  | (with_reducible apply g_const); first | (with_reducible exact ee_int) | (with_reducible exact ee_str) | (with_reducible exact ee_bl) | (with_reducible exact ee_non)
  | (with_reducible apply g_call); first
    | (with_reducible apply g_call1); first | ((with_reducible apply ee_lenL) <;> walk_at "any") | ((with_reducible apply ee_lenT) <;> walk_at "any") | ((with_reducible apply ee_intIN) <;> walk_at "any") | ((with_reducible apply ee_intBN) <;> walk_at "any") | ((with_reducible apply ee_tupN) <;> walk_at "any") | ((with_reducible apply ee_absN) <;> walk_at "any") | ((with_reducible apply ee_sumN) <;> walk_at "any") | ((with_reducible apply ee_sumTN) <;> walk_at "any") | ((with_reducible apply ee_allN) <;> walk_at "any") | ((with_reducible apply ee_lstN) <;> walk_at "any") | walk_at "call"
    | (with_reducible apply g_call2); first | ((with_reducible apply ee_isInt) <;> walk_at "any") | ((with_reducible apply ee_isBool) <;> walk_at "any") | ((with_reducible apply ee_isTup) <;> walk_at "any") | ((with_reducible apply ee_isStr) <;> walk_at "any") | ((with_reducible apply ee_minN) <;> walk_at "any") | ((with_reducible apply ee_maxN) <;> walk_at "any") | walk_at "call"
    | walk_at "call"
  | ((with_reducible apply ee_bin) <;> walk_at "any")
  | (with_reducible apply g_cmp); first | ((with_reducible apply ee_cmp) <;> walk_at "any") | ((with_reducible apply ee_chain) <;> walk_at "any")
  | (with_reducible apply g_sub); first | ((with_reducible apply ee_slL) <;> walk_at "any") | ((with_reducible apply ee_cell) <;> walk_at "any") | ((with_reducible apply ee_ixT) <;> walk_at "any") | ((with_reducible apply ee_ixL) <;> walk_at "any")
  | (with_reducible apply g_un); first | ((with_reducible apply ee_not); walk_at "go") | (with_reducible exact ee_neg)
  | (with_reducible apply g_bool); first | ((with_reducible apply ee_and) <;> walk_at "any") | ((with_reducible apply ee_or) <;> walk_at "any") | ((with_reducible apply ee_and1) <;> walk_at "any")
  | (with_reducible apply g_if); first | ((with_reducible apply ee_ifI) <;> walk_at "any") | ((with_reducible apply ee_if) <;> walk_at "any")
  | (with_reducible apply g_lst); first | ((with_reducible apply ee_lst0) <;> walk_at "any") | ((with_reducible apply ee_lst1) <;> walk_at "any") | ((with_reducible apply ee_lst2) <;> walk_at "any") | ((with_reducible apply ee_lst3) <;> walk_at "any") | ((with_reducible apply ee_lst4) <;> walk_at "any")
  | (with_reducible apply g_tup); first | ((with_reducible apply ee_tup0) <;> walk_at "any") | ((with_reducible apply ee_tup1) <;> walk_at "any") | ((with_reducible apply ee_tup2) <;> walk_at "any") | ((with_reducible apply ee_tup3) <;> walk_at "any") | ((with_reducible apply ee_tup4) <;> walk_at "any"))
local macro_rules | `(tactic| walk_at "loc") => `(tactic| first | exact .inl (by rfl) | exact .inr (by rfl))
local macro_rules | `(tactic| walk_at "locf") => `(tactic| first | exact .inr (by rfl) | exact .inl (by rfl))
local macro_rules | `(tactic| walk_at "iv") => `(tactic| first
  | ((with_reducible apply iv_tup); walk_at "go") | ((with_reducible apply iv_list); walk_at "go")
  | ((with_reducible apply iv_range) <;> walk_at "any") | ((with_reducible apply iv_range2) <;> walk_at "any")
  | ((with_reducible apply iv_enumL) <;> walk_at "any") | ((with_reducible apply iv_enumT) <;> walk_at "any") | ((with_reducible apply iv_enumT1) <;> walk_at "any")
  | ((with_reducible apply iv_zipL) <;> walk_at "any") | ((with_reducible apply iv_zipT) <;> walk_at "any"))
local macro_rules | `(tactic| walk_at "fm") => `(tactic| ((try rw [filter_tt]); first | rfl | (rw [List.map_map]; done) | (rw [List.map_map]; rfl) | (simp only [lI, tI, List.map_map]; done) | (simp only [lI, tI, List.map_map]; rfl)))
theorem sc1 : FnScope ["thing"] ["thing"] (defScope (top 1)) := ⟨rfl, rfl, rfl, by decide +kernel, rfl, by decide +kernel, by decide +kernel⟩
local macro_rules | `(tactic| walk_at "var") => `(tactic| first | ((with_reducible apply ee_varQ (x := "thing") (i := 0)) <;> walk_at "vs"))
local macro_rules | `(tactic| walk_at "nd") => `(tactic| exact sc1.nd)
theorem ok_is_integer (T : Txt K mg) : FnD P w K mg base 1 "is_integer" ["thing"] (pureD fun xs r => ∃ d, xs = [.d d] ∧ noDict d = true ∧ r = .bool (isInt d)) := by
  refine fnd T 0 rfl rfl sc1 (fun _ _ _ _ _ _ us hl => match us, hl with | [_], _ => rfl) (fun xs M Φ h => ?_) (fun a cdv A outer s H E xs M Φ hr h => ?_)
  · obtain ⟨r, ⟨d, rfl, _, rfl⟩, q⟩ := h
    rfl
  · obtain ⟨r, ⟨d, rfl, hd, rfl⟩, q⟩ := h
    refine ws_cons (w1_retE ?_ q)
    apply EE.to
    walk_at "any"
    cases d <;> rfl
theorem ee_is_integer {X : Cx} {δ : En} {pos p : Pos} {e : Expr} {k' : Nat} {d : PyData} (h_e : EE X e δ d) (s0 : noDict d = true) (T : Txt X.K X.mg) (hr : Room k' X.A) (hk : 1 ≤ k') (hg : Gl X "is_integer") (q0 : starEach (e :: []) X.env = (false, eval e X.env) :: starEach [] X.env) (hpl : (backTo pos (starEach [] X.env)).any (·.1) = false) : EE X (.Call (.Name "is_integer" p) [e] [] pos) δ (.bool (isInt d)) :=
  ee_callK (ok_is_integer T) (ea_cons q0 h_e ea_nil) (⟨d, rfl, s0, rfl⟩) hr hk hg q0 hpl (by decide)
local macro_rules | `(tactic| walk_at "call") => `(tactic| (with_reducible apply ee_is_integer) <;> walk_at "any")
def betw (d : PyData) (a b : Int) : Bool := match d with
  | .int i => decide (a ≤ i) && decide (i ≤ b)
  | _ => false
theorem sc2 : FnScope ["thing", "least", "most"] ["thing", "least", "most"] (defScope (top 2)) := ⟨rfl, rfl, rfl, by decide +kernel, rfl, by decide +kernel, by decide +kernel⟩
local macro_rules | `(tactic| walk_at "var") => `(tactic| first | ((with_reducible apply ee_varQ (x := "thing") (i := 0)) <;> walk_at "vs") | ((with_reducible apply ee_varQ (x := "least") (i := 1)) <;> walk_at "vs") | ((with_reducible apply ee_varQ (x := "most") (i := 2)) <;> walk_at "vs"))
local macro_rules | `(tactic| walk_at "nd") => `(tactic| exact sc2.nd)
theorem ok_is_between (T : Txt K mg) : FnD P w K mg base 2 "is_between" ["thing", "least", "most"] (pureD fun xs r => ∃ d a b, xs = [.d d, .d (.int a), .d (.int b)] ∧ noDict d = true ∧ r = .bool (betw d a b)) := by
  refine fnd T 1 rfl rfl sc2 (fun _ _ _ _ _ _ us hl => match us, hl with | [_, _, _], _ => rfl) (fun xs M Φ h => ?_) (fun a cdv A outer s H E xs M Φ hr h => ?_)
  · obtain ⟨r, ⟨d, x, y, rfl, _, rfl⟩, q⟩ := h
    rfl
  · obtain ⟨r, ⟨d, x, y, rfl, hd, rfl⟩, q⟩ := h
    refine ws_cons (w1_retE ?_ q)
    refine EE.to (ee_and (p := isInt d) (r := betw d x y) ?_ (fun hp => ?_)) ?_
    · walk_at "any"
    · cases d with
      | int i => 
        refine ee_and1 ?_
        apply EE.to
        walk_at "any"
        rfl
      | _ => cases hp
    · cases d <;> rfl
theorem ee_is_between {X : Cx} {δ : En} {pos p : Pos} {e e2 e3 : Expr} {k' : Nat} {d : PyData} {a b : Int} (h_e : EE X e δ d) (h_e2 : EE X e2 δ (.int a)) (h_e3 : EE X e3 δ (.int b)) (s0 : noDict d = true) (T : Txt X.K X.mg) (hr : Room k' X.A) (hk : 2 ≤ k') (hg : Gl X "is_between") (q0 : starEach (e :: [e2, e3]) X.env = (false, eval e X.env) :: starEach [e2, e3] X.env) (q1 : starEach (e2 :: [e3]) X.env = (false, eval e2 X.env) :: starEach [e3] X.env) (q2 : starEach (e3 :: []) X.env = (false, eval e3 X.env) :: starEach [] X.env) (hpl : (backTo pos (starEach [e2, e3] X.env)).any (·.1) = false) : EE X (.Call (.Name "is_between" p) [e, e2, e3] [] pos) δ (.bool (betw d a b)) :=
  ee_callK (ok_is_between T) (ea_cons q0 h_e (ea_cons q1 h_e2 (ea_cons q2 h_e3 ea_nil))) (⟨d, a, b, rfl, s0, rfl⟩) hr hk hg q0 hpl (by decide)
local macro_rules | `(tactic| walk_at "call") => `(tactic| (with_reducible apply ee_is_between) <;> walk_at "any")
end
end KP
namespace KP
open PySem PySem.Spec PyProof.Rows L2 DL
section
variable {P : Program} {w : World} {K : PySem.W.Frag} {mg : Str → Option Value} {base : Heap}
/-! steps -/
local macro_rules | `(tactic| walk_at "vis") => `(tactic| first | exact vis_l (by rfl) | exact vis_c (by rfl) | exact vis_f (by rfl))
local macro_rules | `(tactic| walk_at "vs") => `(tactic| first | rfl | (walk_at "vis") | decide)
local macro_rules | `(tactic| walk_at "mg") => `(tactic| exact z_of (by assumption) (by decide +kernel))
local macro_rules | `(tactic| walk_at "var") => `(tactic| fail)
local macro_rules | `(tactic| walk_at "glo") => `(tactic| first | exact ee_names (by assumption) (by rfl) (by rfl) | exact ee_clauses (by assumption) (by rfl) (by rfl) | exact ee_halvesS (by assumption) (by rfl) (by rfl) | exact ee_clashS (by assumption) (by rfl) (by rfl))
local macro_rules | `(tactic| walk_at "side") => `(tactic| first | assumption | ((with_reducible apply atI_litG); rfl) | ((fail_if_success (with_reducible apply atI_litG)); skip))
local macro_rules | `(tactic| walk_at "call") => `(tactic| fail)
local macro_rules | `(tactic| walk_at "bv") => `(tactic| first
  | (with_reducible apply bv_gB); first
    | (with_reducible exact bv_add) | (with_reducible exact bv_sub) | (with_reducible apply bv_mulS; walk_at "side") | (with_reducible apply bv_divS; walk_at "side") | (with_reducible apply bv_mod; walk_at "side") | (with_reducible apply bv_powS; walk_at "side")
    | (with_reducible apply bv_cat <;> walk_at "side") | (with_reducible apply bv_rep1 <;> walk_at "side") | (with_reducible apply bv_rep <;> walk_at "side") | (with_reducible apply bv_catT <;> walk_at "side")
  | (with_reducible apply bv_gC); first
    | (with_reducible exact bv_lt) | (with_reducible exact bv_le) | (with_reducible exact bv_gt) | (with_reducible exact bv_ge) | (with_reducible exact bv_eqI) | (with_reducible exact bv_neI) | (with_reducible exact bv_eqS) | (with_reducible exact bv_neS) | (with_reducible exact bv_isNone) | (with_reducible exact bv_inT) | (with_reducible exact bv_notin2)
    | (with_reducible apply bv_eqD <;> walk_at "side") | (with_reducible apply bv_neD <;> walk_at "side") | (with_reducible apply bv_inD <;> walk_at "side"))
local macro_rules | `(tactic| walk_at "any") => `(tactic| first
  | (with_reducible apply ee_id); walk_at "go"
  | (with_reducible apply ea_id); first | (with_reducible exact ea_nil) | ((with_reducible apply ea_cons) <;> walk_at "any")
  | (with_reducible apply eb_id); walk_at "gb"
  | (with_reducible apply ew_id); walk_at "gw"
  | (with_reducible apply eo_id); first | (with_reducible exact eo_none) | (apply eo_some; walk_at "go")
  | (with_reducible apply bv_id); walk_at "bv"
  | (fail_if_success (with_reducible apply ee_id)); (fail_if_success (with_reducible apply ea_id)); (fail_if_success (with_reducible apply eb_id)); (fail_if_success (with_reducible apply ew_id)); (fail_if_success (with_reducible apply bv_id)); first
    | (intro _; walk_at "any")
    | rfl | (walk_at "mg") | decide | (intro _; rfl) | (intro _ _; rfl) | (walk_at "side"))
local macro_rules | `(tactic| walk_at "gb") => `(tactic| first
  | (with_reducible apply eb_not); walk_at "gb"
  | (with_reducible apply eb_cmp) <;> walk_at "any"
  | (with_reducible apply EW.eb); walk_at "gw"
  | (apply eb_val) <;> walk_at "any")
local macro_rules | `(tactic| walk_at "gw") => `(tactic| first
  | (with_reducible apply ew_and) <;> walk_at "any"
  | (with_reducible apply ew_or) <;> walk_at "any"
  | (with_reducible apply ew_and1); walk_at "gb"
  | (with_reducible apply ew_or1); walk_at "gb")
local macro_rules | `(tactic| walk_at "go") => `(tactic| first
  | (with_reducible apply ee_nm); first | walk_at "var" | walk_at "glo"
  | (with_reducible apply g_const); first | (with_reducible exact ee_int) | (with_reducible exact ee_str) | (with_reducible exact ee_bl) | (with_reducible exact ee_non)
  | (with_reducible apply g_call); first
    | (with_reducible apply g_call1); first | ((with_reducible apply ee_lenL) <;> walk_at "any") | ((with_reducible apply ee_lenT) <;> walk_at "any") | ((with_reducible apply ee_intIN) <;> walk_at "any") | ((with_reducible apply ee_intBN) <;> walk_at "any") | ((with_reducible apply ee_tupN) <;> walk_at "any") | ((with_reducible apply ee_absN) <;> walk_at "any") | ((with_reducible apply ee_sumN) <;> walk_at "any") | ((with_reducible apply ee_sumTN) <;> walk_at "any") | ((with_reducible apply ee_allN) <;> walk_at "any") | ((with_reducible apply ee_lstN) <;> walk_at "any") | walk_at "call"
    | (with_reducible apply g_call2); first | ((with_reducible apply ee_isInt) <;> walk_at "any") | ((with_reducible apply ee_isBool) <;> walk_at "any") | ((with_reducible apply ee_isTup) <;> walk_at "any") | ((with_reducible apply ee_isStr) <;> walk_at "any") | ((with_reducible apply ee_minN) <;> walk_at "any") | ((with_reducible apply ee_maxN) <;> walk_at "any") | walk_at "call"
    | walk_at "call"
  | ((with_reducible apply ee_bin) <;> walk_at "any")
  | (with_reducible apply g_cmp); first | ((with_reducible apply ee_cmp) <;> walk_at "any") | ((with_reducible apply ee_chain) <;> walk_at "any")
  | (with_reducible apply g_sub); first | ((with_reducible apply ee_slL) <;> walk_at "any") | ((with_reducible apply ee_cell) <;> walk_at "any") | ((with_reducible apply ee_ixT) <;> walk_at "any") | ((with_reducible apply ee_ixL) <;> walk_at "any")
  | (with_reducible apply g_un); first | ((with_reducible apply ee_not); walk_at "go") | (with_reducible exact ee_neg)
  | (with_reducible apply g_bool); first | ((with_reducible apply ee_and) <;> walk_at "any") | ((with_reducible apply ee_or) <;> walk_at "any") | ((with_reducible apply ee_and1) <;> walk_at "any")
  | (with_reducible apply g_if); first | ((with_reducible apply ee_ifI) <;> walk_at "any") | ((with_reducible apply ee_if) <;> walk_at "any")
  | (with_reducible apply g_lst); first | ((with_reducible apply ee_lst0) <;> walk_at "any") | ((with_reducible apply ee_lst1) <;> walk_at "any") | ((with_reducible apply ee_lst2) <;> walk_at "any") | ((with_reducible apply ee_lst3) <;> walk_at "any") | ((with_reducible apply ee_lst4) <;> walk_at "any")
  | (with_reducible apply g_tup); first | ((with_reducible apply ee_tup0) <;> walk_at "any") | ((with_reducible apply ee_tup1) <;> walk_at "any") | ((with_reducible apply ee_tup2) <;> walk_at "any") | ((with_reducible apply ee_tup3) <;> walk_at "any") | ((with_reducible apply ee_tup4) <;> walk_at "any"))
local macro_rules | `(tactic| walk_at "loc") => `(tactic| first | exact .inl (by rfl) | exact .inr (by rfl))
local macro_rules | `(tactic| walk_at "locf") => `(tactic| first | exact .inr (by rfl) | exact .inl (by rfl))
local macro_rules | `(tactic| walk_at "iv") => `(tactic| first
  | ((with_reducible apply iv_tup); walk_at "go") | ((with_reducible apply iv_list); walk_at "go")
  | ((with_reducible apply iv_range) <;> walk_at "any") | ((with_reducible apply iv_range2) <;> walk_at "any")
  | ((with_reducible apply iv_enumL) <;> walk_at "any") | ((with_reducible apply iv_enumT) <;> walk_at "any") | ((with_reducible apply iv_enumT1) <;> walk_at "any")
  | ((with_reducible apply iv_zipL) <;> walk_at "any") | ((with_reducible apply iv_zipT) <;> walk_at "any"))
local macro_rules | `(tactic| walk_at "fm") => `(tactic| ((try rw [filter_tt]); first | rfl | (rw [List.map_map]; done) | (rw [List.map_map]; rfl) | (simp only [lI, tI, List.map_map]; done) | (simp only [lI, tI, List.map_map]; rfl)))
local macro_rules | `(tactic| walk_at "call") => `(tactic| (with_reducible apply ee_is_integer) <;> walk_at "any")
local macro_rules | `(tactic| walk_at "call") => `(tactic| (with_reducible apply ee_is_between) <;> walk_at "any")
theorem sc27 : FnScope ["whole", "row", "literal"] ["whole", "row", "literal"] (defScope (top 27)) := ⟨rfl, rfl, rfl, by decide +kernel, rfl, by decide +kernel, by decide +kernel⟩
local macro_rules | `(tactic| walk_at "var") => `(tactic| first | ((with_reducible apply ee_varQ (x := "whole") (i := 0)) <;> walk_at "vs") | ((with_reducible apply ee_varQ (x := "row") (i := 1)) <;> walk_at "vs") | ((with_reducible apply ee_varQ (x := "literal") (i := 2)) <;> walk_at "vs"))
local macro_rules | `(tactic| walk_at "nd") => `(tactic| exact sc27.nd)
theorem ok_weight_of (T : Txt K mg) : FnD P w K mg base 1 "weight_of" ["whole", "row", "literal"] (pureD fun xs r => ∃ (v : Int) (row : List Int) (l : Int), xs = [.d (.int v), .d (.tuple (row.map .int)), .d (.int l)] ∧ (1 ≤ l.natAbs ∧ l.natAbs ≤ row.length) ∧ r = .int (IC.weight v row l)) := by
  refine fnd T 12 rfl rfl sc27 (fun _ _ _ _ _ _ us hl => match us, hl with | [_, _, _], _ => rfl) (fun xs M Φ h => ?_) (fun a cdv A outer s H E xs M Φ hr h => ?_)
  · obtain ⟨r, ⟨v, row, l, rfl, _, rfl⟩, q⟩ := h
    rfl
  · obtain ⟨r, ⟨v, row, l, rfl, hl, rfl⟩, q⟩ := h
    refine ws_cons (w1_retE ?_ q)
    refine EE.to (ee_if (p := decide (0 < l)) (d1 := .int (row.getD (l - 1).toNat 0)) (d2 := .int (v - row.getD (0 - l - 1).toNat 0)) ?_ (fun hp => ?_) (fun hp => ?_)) ?_
    · walk_at "any"
    · have hp := of_decide_eq_true hp
      walk_at "any"
      exact at_int (by omega) (by omega)
    · have hp := of_decide_eq_false hp
      walk_at "any"
      exact at_int (by omega) (by omega)
    · unfold IC.weight
      by_cases hp : 0 < l
      · rw [decide_eq_true hp, if_pos rfl, if_pos hp]
      · rw [decide_eq_false hp, if_neg Bool.false_ne_true, if_neg hp]
theorem ee_weight_of {X : Cx} {δ : En} {pos p : Pos} {e e2 e3 : Expr} {k' : Nat} {v : Int} {row : List Int} {l : Int} (h_e : EE X e δ (.int v)) (h_e2 : EE X e2 δ (.tuple (row.map .int))) (h_e3 : EE X e3 δ (.int l)) (s0 : 1 ≤ l.natAbs ∧ l.natAbs ≤ row.length) (T : Txt X.K X.mg) (hr : Room k' X.A) (hk : 1 ≤ k') (hg : Gl X "weight_of") (q0 : starEach (e :: [e2, e3]) X.env = (false, eval e X.env) :: starEach [e2, e3] X.env) (q1 : starEach (e2 :: [e3]) X.env = (false, eval e2 X.env) :: starEach [e3] X.env) (q2 : starEach (e3 :: []) X.env = (false, eval e3 X.env) :: starEach [] X.env) (hpl : (backTo pos (starEach [e2, e3] X.env)).any (·.1) = false) : EE X (.Call (.Name "weight_of" p) [e, e2, e3] [] pos) δ (.int (IC.weight v row l)) :=
  ee_callK (ok_weight_of T) (ea_cons q0 h_e (ea_cons q1 h_e2 (ea_cons q2 h_e3 ea_nil))) (⟨v, row, l, rfl, s0, rfl⟩) hr hk hg q0 hpl (by decide)
local macro_rules | `(tactic| walk_at "call") => `(tactic| (with_reducible apply ee_weight_of) <;> walk_at "any")
structure CsOk (n : Nat) (cs : List (List Int)) : Prop where
  ok : ∀ c ∈ cs, IC.ClOk n c
  len : cs.length ≤ 16
  pos : 1 ≤ n
  le : n ≤ 7
theorem CsOk.few {n : Nat} {cs : List (List Int)} (h : CsOk n cs) : cs.length ≤ 100000 := Nat.le_trans h.len (by decide)
theorem CsOk.few1 {n : Nat} {cs : List (List Int)} (h : CsOk n cs) {c : List Int} (hc : c ∈ cs) : c.length ≤ 100000 := Nat.le_trans (IC.clause_len (h.ok c hc)) (Nat.le_trans h.le (by decide))
theorem all_map {α : Type} {xs : List α} {p : α → Bool} : (xs.map p).all id = xs.all p := by
  induction xs with
  | nil => rfl
  | cons x xs ih => rw [List.map_cons, List.all_cons, List.all_cons, ih]; rfl
theorem sc28 : FnScope ["bundle", "whole", "row", "clause", "literal"] ["bundle", "whole", "row"] (defScope (top 28)) := ⟨rfl, rfl, rfl, by decide +kernel, rfl, by decide +kernel, by decide +kernel⟩
local macro_rules | `(tactic| walk_at "var") => `(tactic| first | ((with_reducible apply ee_varQ (x := "bundle") (i := 0)) <;> walk_at "vs") | ((with_reducible apply ee_varQ (x := "whole") (i := 1)) <;> walk_at "vs") | ((with_reducible apply ee_varQ (x := "row") (i := 2)) <;> walk_at "vs") | ((with_reducible apply ee_varQ (x := "clause") (i := 3)) <;> walk_at "vs") | ((with_reducible apply ee_varQ (x := "literal") (i := 4)) <;> walk_at "vs"))
local macro_rules | `(tactic| walk_at "nd") => `(tactic| exact sc28.nd)
theorem ok_does_weigh (T : Txt K mg) : FnD P w K mg base 2 "does_weigh" ["bundle", "whole", "row"] (pureD fun xs r => ∃ (n : Nat) (cs : List (List Int)) (v : Int) (row : List Int), xs = [.d (bun n cs), .d (.int v), .d (tI row)] ∧ CsOk n cs ∧ row.length = n ∧ r = .bool (IC.doesW v row cs)) := by
  refine fnd T 13 rfl rfl sc28 (fun _ _ _ _ _ _ us hl => match us, hl with | [_, _, _], _ => rfl) (fun xs M Φ h => ?_) (fun a cdv A outer s H E xs M Φ hr h => ?_)
  · obtain ⟨r, ⟨n, cs, v, row, rfl, _, _, rfl⟩, q⟩ := h
    rfl
  · obtain ⟨r, ⟨n, cs, v, row, rfl, hb, hl, rfl⟩, q⟩ := h
    refine ws_cons (w1_retE ?_ q)
    refine EE.to (ee_allN (bs := cs.map fun c => decide (IC.heavy v row c ≤ v)) (EE.to (LC1.ee (own := [("clause", 3)]) (i := 3) (xs := cs) (g := tI) (f := fun c => .bool (decide (IC.heavy v row c ≤ v))) (p := fun _ => true) ?_) ?_) (by rfl) (by rfl) (by walk_at "mg") (by rfl)) ?_
    · refine ⟨?_, fun s0 H0 C cl fp z hz => ?_, fun s0 H0 C cl fp z hz hp => ?_, ?_, fun _ => by rfl, blkOk_by (by rfl), fun _ _ _ _ _ => by walk_at "loc", fun _ _ _ _ _ => by walk_at "locf", by rfl, by decide, by walk_at "nd", by rfl⟩
      · walk_at "iv"
      · exact eif_nil
      · refine ee_cmp (by rfl) (ee_sumN (ns := z.map (IC.weight v row)) (EE.to (LC1.ee (own := [("literal", 4)]) (i := 4) (xs := z) (g := PyData.int) (f := fun l => .int (IC.weight v row l)) (p := fun _ => true) ?_) ?_) (by rfl) (by rfl) (by walk_at "mg") (by rfl)) ?_ bv_le
        · refine ⟨?_, fun s1 H1 C1 cl1 fp1 l hl1 => ?_, fun s1 H1 C1 cl1 fp1 l hl1 hp => ?_, ?_, fun _ => by rfl, blkOk_by (by rfl), fun _ _ _ _ _ => by walk_at "loc", fun _ _ _ _ _ => by walk_at "locf", by rfl, by decide, by walk_at "nd", by rfl⟩
          · walk_at "iv"
          · exact eif_nil
          · walk_at "any"
            rw [hl]; exact (hb.ok z hz).lit l hl1
          · exact hb.few1 hz
        · walk_at "fm"
        · walk_at "any"
      · exact hb.few
    · walk_at "fm"
    · rw [all_map]; rfl
theorem ee_does_weigh {X : Cx} {δ : En} {pos p : Pos} {e e2 e3 : Expr} {k' : Nat} {n : Nat} {cs : List (List Int)} {v : Int} {row : List Int} (h_e : EE X e δ (bun n cs)) (h_e2 : EE X e2 δ (.int v)) (h_e3 : EE X e3 δ (tI row)) (s0 : CsOk n cs) (s1 : row.length = n) (T : Txt X.K X.mg) (hr : Room k' X.A) (hk : 2 ≤ k') (hg : Gl X "does_weigh") (q0 : starEach (e :: [e2, e3]) X.env = (false, eval e X.env) :: starEach [e2, e3] X.env) (q1 : starEach (e2 :: [e3]) X.env = (false, eval e2 X.env) :: starEach [e3] X.env) (q2 : starEach (e3 :: []) X.env = (false, eval e3 X.env) :: starEach [] X.env) (hpl : (backTo pos (starEach [e2, e3] X.env)).any (·.1) = false) : EE X (.Call (.Name "does_weigh" p) [e, e2, e3] [] pos) δ (.bool (IC.doesW v row cs)) :=
  ee_callK (ok_does_weigh T) (ea_cons q0 h_e (ea_cons q1 h_e2 (ea_cons q2 h_e3 ea_nil))) (⟨n, cs, v, row, rfl, s0, s1, rfl⟩) hr hk hg q0 hpl (by decide)
local macro_rules | `(tactic| walk_at "call") => `(tactic| (with_reducible apply ee_does_weigh) <;> walk_at "any")
end
end KP
namespace KP
open PySem PySem.Spec PyProof.Rows L2 DL
section
variable {P : Program} {w : World} {K : PySem.W.Frag} {mg : Str → Option Value} {base : Heap}
/-! steps -/
local macro_rules | `(tactic| walk_at "vis") => `(tactic| first | exact vis_l (by rfl) | exact vis_c (by rfl) | exact vis_f (by rfl))
local macro_rules | `(tactic| walk_at "vs") => `(tactic| first | rfl | (walk_at "vis") | decide)
local macro_rules | `(tactic| walk_at "mg") => `(tactic| exact z_of (by assumption) (by decide +kernel))
local macro_rules | `(tactic| walk_at "var") => `(tactic| fail)
local macro_rules | `(tactic| walk_at "glo") => `(tactic| first | exact ee_names (by assumption) (by rfl) (by rfl) | exact ee_clauses (by assumption) (by rfl) (by rfl) | exact ee_halvesS (by assumption) (by rfl) (by rfl) | exact ee_clashS (by assumption) (by rfl) (by rfl))
local macro_rules | `(tactic| walk_at "side") => `(tactic| first | assumption | ((with_reducible apply atI_litG); rfl) | ((fail_if_success (with_reducible apply atI_litG)); skip))
local macro_rules | `(tactic| walk_at "call") => `(tactic| fail)
local macro_rules | `(tactic| walk_at "bv") => `(tactic| first
  | (with_reducible apply bv_gB); first
    | (with_reducible exact bv_add) | (with_reducible exact bv_sub) | (with_reducible apply bv_mulS; walk_at "side") | (with_reducible apply bv_divS; walk_at "side") | (with_reducible apply bv_mod; walk_at "side") | (with_reducible apply bv_powS; walk_at "side")
    | (with_reducible apply bv_cat <;> walk_at "side") | (with_reducible apply bv_rep1 <;> walk_at "side") | (with_reducible apply bv_rep <;> walk_at "side") | (with_reducible apply bv_catT <;> walk_at "side")
  | (with_reducible apply bv_gC); first
    | (with_reducible exact bv_lt) | (with_reducible exact bv_le) | (with_reducible exact bv_gt) | (with_reducible exact bv_ge) | (with_reducible exact bv_eqI) | (with_reducible exact bv_neI) | (with_reducible exact bv_eqS) | (with_reducible exact bv_neS) | (with_reducible exact bv_isNone) | (with_reducible exact bv_inT) | (with_reducible exact bv_notin2)
    | (with_reducible apply bv_eqD <;> walk_at "side") | (with_reducible apply bv_neD <;> walk_at "side") | (with_reducible apply bv_inD <;> walk_at "side"))
local macro_rules | `(tactic| walk_at "any") => `(tactic| first
  | (with_reducible apply ee_id); walk_at "go"
  | (with_reducible apply ea_id); first | (with_reducible exact ea_nil) | ((with_reducible apply ea_cons) <;> walk_at "any")
  | (with_reducible apply eb_id); walk_at "gb"
  | (with_reducible apply ew_id); walk_at "gw"
  | (with_reducible apply eo_id); first | (with_reducible exact eo_none) | (apply eo_some; walk_at "go")
  | (with_reducible apply bv_id); walk_at "bv"
  | (fail_if_success (with_reducible apply ee_id)); (fail_if_success (with_reducible apply ea_id)); (fail_if_success (with_reducible apply eb_id)); (fail_if_success (with_reducible apply ew_id)); (fail_if_success (with_reducible apply bv_id)); first
    | (intro _; walk_at "any")
    | rfl | (walk_at "mg") | decide | (intro _; rfl) | (intro _ _; rfl) | (walk_at "side"))
local macro_rules | `(tactic| walk_at "gb") => `(tactic| first
  | (with_reducible apply eb_not); walk_at "gb"
  | (with_reducible apply eb_cmp) <;> walk_at "any"
  | (with_reducible apply EW.eb); walk_at "gw"
  | (apply eb_val) <;> walk_at "any")
local macro_rules | `(tactic| walk_at "gw") => `(tactic| first
  | (with_reducible apply ew_and) <;> walk_at "any"
  | (with_reducible apply ew_or) <;> walk_at "any"
  | (with_reducible apply ew_and1); walk_at "gb"
  | (with_reducible apply ew_or1); walk_at "gb")
local macro_rules | `(tactic| walk_at "go") => `(tactic| first
  | (with_reducible apply ee_nm); first | walk_at "var" | walk_at "glo"
  | (with_reducible apply g_const); first | (with_reducible exact ee_int) | (with_reducible exact ee_str) | (with_reducible exact ee_bl) | (with_reducible exact ee_non)
  | (with_reducible apply g_call); first
    | (with_reducible apply g_call1); first | ((with_reducible apply ee_lenL) <;> walk_at "any") | ((with_reducible apply ee_lenT) <;> walk_at "any") | ((with_reducible apply ee_intIN) <;> walk_at "any") | ((with_reducible apply ee_intBN) <;> walk_at "any") | ((with_reducible apply ee_tupN) <;> walk_at "any") | ((with_reducible apply ee_absN) <;> walk_at "any") | ((with_reducible apply ee_sumN) <;> walk_at "any") | ((with_reducible apply ee_sumTN) <;> walk_at "any") | ((with_reducible apply ee_allN) <;> walk_at "any") | ((with_reducible apply ee_lstN) <;> walk_at "any") | walk_at "call"
    | (with_reducible apply g_call2); first | ((with_reducible apply ee_isInt) <;> walk_at "any") | ((with_reducible apply ee_isBool) <;> walk_at "any") | ((with_reducible apply ee_isTup) <;> walk_at "any") | ((with_reducible apply ee_isStr) <;> walk_at "any") | ((with_reducible apply ee_minN) <;> walk_at "any") | ((with_reducible apply ee_maxN) <;> walk_at "any") | walk_at "call"
    | walk_at "call"
  | ((with_reducible apply ee_bin) <;> walk_at "any")
  | (with_reducible apply g_cmp); first | ((with_reducible apply ee_cmp) <;> walk_at "any") | ((with_reducible apply ee_chain) <;> walk_at "any")
  | (with_reducible apply g_sub); first | ((with_reducible apply ee_slL) <;> walk_at "any") | ((with_reducible apply ee_cell) <;> walk_at "any") | ((with_reducible apply ee_ixT) <;> walk_at "any") | ((with_reducible apply ee_ixL) <;> walk_at "any")
  | (with_reducible apply g_un); first | ((with_reducible apply ee_not); walk_at "go") | (with_reducible exact ee_neg)
  | (with_reducible apply g_bool); first | ((with_reducible apply ee_and) <;> walk_at "any") | ((with_reducible apply ee_or) <;> walk_at "any") | ((with_reducible apply ee_and1) <;> walk_at "any")
  | (with_reducible apply g_if); first | ((with_reducible apply ee_ifI) <;> walk_at "any") | ((with_reducible apply ee_if) <;> walk_at "any")
  | (with_reducible apply g_lst); first | ((with_reducible apply ee_lst0) <;> walk_at "any") | ((with_reducible apply ee_lst1) <;> walk_at "any") | ((with_reducible apply ee_lst2) <;> walk_at "any") | ((with_reducible apply ee_lst3) <;> walk_at "any") | ((with_reducible apply ee_lst4) <;> walk_at "any")
  | (with_reducible apply g_tup); first | ((with_reducible apply ee_tup0) <;> walk_at "any") | ((with_reducible apply ee_tup1) <;> walk_at "any") | ((with_reducible apply ee_tup2) <;> walk_at "any") | ((with_reducible apply ee_tup3) <;> walk_at "any") | ((with_reducible apply ee_tup4) <;> walk_at "any"))
local macro_rules | `(tactic| walk_at "loc") => `(tactic| first | exact .inl (by rfl) | exact .inr (by rfl))
local macro_rules | `(tactic| walk_at "locf") => `(tactic| first | exact .inr (by rfl) | exact .inl (by rfl))
local macro_rules | `(tactic| walk_at "iv") => `(tactic| first
  | ((with_reducible apply iv_tup); walk_at "go") | ((with_reducible apply iv_list); walk_at "go")
  | ((with_reducible apply iv_range) <;> walk_at "any") | ((with_reducible apply iv_range2) <;> walk_at "any")
  | ((with_reducible apply iv_enumL) <;> walk_at "any") | ((with_reducible apply iv_enumT) <;> walk_at "any") | ((with_reducible apply iv_enumT1) <;> walk_at "any")
  | ((with_reducible apply iv_zipL) <;> walk_at "any") | ((with_reducible apply iv_zipT) <;> walk_at "any"))
local macro_rules | `(tactic| walk_at "fm") => `(tactic| ((try rw [filter_tt]); first | rfl | (rw [List.map_map]; done) | (rw [List.map_map]; rfl) | (simp only [lI, tI, List.map_map]; done) | (simp only [lI, tI, List.map_map]; rfl)))
local macro_rules | `(tactic| walk_at "call") => `(tactic| (with_reducible apply ee_weight_of) <;> walk_at "any")
local macro_rules | `(tactic| walk_at "call") => `(tactic| (with_reducible apply ee_does_weigh) <;> walk_at "any")
local macro_rules | `(tactic| walk_at "call") => `(tactic| (with_reducible apply ee_is_integer) <;> walk_at "any")
local macro_rules | `(tactic| walk_at "call") => `(tactic| (with_reducible apply ee_is_between) <;> walk_at "any")
theorem zip_map2 {α β : Type} {xs : List α} {ys : List β} {g : α → PyData} {h : β → PyData} : zipD (xs.map g) (ys.map h) = (xs.zip ys).map fun z => .tuple [g z.1, h z.2] := by
  unfold zipD
  rw [List.zip_map, List.map_map]; rfl
def asc (ns : List Int) : Bool := (ns.zip (ns.drop 1)).all fun z => decide (z.1 < z.2)
theorem asc_of : ∀ {ns : List Int}, ns.Pairwise (· < ·) → asc ns = true
  | [], _ => rfl
  | [_], _ => rfl
  | a :: b :: ns, h => by
    have h1 := List.pairwise_cons.mp h
    have ih := asc_of h1.2
    unfold asc at ih ⊢
    show (decide (a < b) && ((b :: ns).zip ns).all fun z => decide (z.1 < z.2)) = true
    rw [decide_eq_true (h1.1 b List.mem_cons_self), Bool.true_and]
    exact ih
theorem sc3 : FnScope ["some", "one", "other"] ["some"] (defScope (top 3)) := ⟨rfl, rfl, rfl, by decide +kernel, rfl, by decide +kernel, by decide +kernel⟩
local macro_rules | `(tactic| walk_at "var") => `(tactic| first | ((with_reducible apply ee_varQ (x := "some") (i := 0)) <;> walk_at "vs") | ((with_reducible apply ee_varQ (x := "one") (i := 1)) <;> walk_at "vs") | ((with_reducible apply ee_varQ (x := "other") (i := 2)) <;> walk_at "vs"))
local macro_rules | `(tactic| walk_at "nd") => `(tactic| exact sc3.nd)
theorem ok_are_rising (T : Txt K mg) : FnD P w K mg base 1 "are_rising" ["some"] (pureD fun xs r => ∃ ns : List Int, xs = [.d (lI ns)] ∧ ns.length ≤ 100000 ∧ r = .bool (asc ns)) := by
  refine fnd T 2 rfl rfl sc3 (fun _ _ _ _ _ _ us hl => match us, hl with | [_], _ => rfl) (fun xs M Φ h => ?_) (fun a cdv A outer s H E xs M Φ hr h => ?_)
  · obtain ⟨r, ⟨ns, rfl, _, rfl⟩, q⟩ := h
    rfl
  · obtain ⟨r, ⟨ns, rfl, hl, rfl⟩, q⟩ := h
    refine ws_cons (w1_retE ?_ q)
    refine EE.to (ee_allN (bs := (ns.zip (ns.drop 1)).map fun z => decide (z.1 < z.2)) (EE.to (LC2.ee (own := [("one", 1), ("other", 2)]) (i := 1) (j := 2) (xs := ns.zip (ns.drop 1)) (g := fun z => .int z.1) (g2 := fun z => .int z.2) (f := fun z => .bool (decide (z.1 < z.2))) (p := fun _ => true) ?_) ?_) (by rfl) (by rfl) (by walk_at "mg") (by rfl)) ?_
    · refine ⟨?_, fun s0 H0 C0 cl0 fp0 z0 hz0 => ?_, fun s0 H0 C0 cl0 fp0 z0 hz0 hp0 => ?_, ?_, fun _ => by rfl, blkOk_by (by rfl), fun _ _ _ _ _ => by walk_at "loc", fun _ _ _ _ _ => by walk_at "locf", fun _ _ _ _ _ => by walk_at "loc", fun _ _ _ _ _ => by walk_at "locf", by rfl, by rfl, by decide, by decide, by walk_at "nd", by rfl⟩
      · apply IV.to
        walk_at "iv"
        have e : cutD (ns.map PyData.int) (some 1) none = (ns.drop 1).map PyData.int := by
          rw [List.map_drop]; exact cut_from (k := 1)
        rw [e, zip_map2]
      · exact eif_nil
      · walk_at "any"
      · rw [List.length_zip]; omega
    · walk_at "fm"
    · rw [all_map]; rfl
theorem ee_are_rising {X : Cx} {δ : En} {pos p : Pos} {e : Expr} {k' : Nat} {ns : List Int} (h_e : EE X e δ (lI ns)) (s0 : ns.length ≤ 100000) (T : Txt X.K X.mg) (hr : Room k' X.A) (hk : 1 ≤ k') (hg : Gl X "are_rising") (q0 : starEach (e :: []) X.env = (false, eval e X.env) :: starEach [] X.env) (hpl : (backTo pos (starEach [] X.env)).any (·.1) = false) : EE X (.Call (.Name "are_rising" p) [e] [] pos) δ (.bool (asc ns)) :=
  ee_callK (ok_are_rising T) (ea_cons q0 h_e ea_nil) (⟨ns, rfl, s0, rfl⟩) hr hk hg q0 hpl (by decide)
local macro_rules | `(tactic| walk_at "call") => `(tactic| (with_reducible apply ee_are_rising) <;> walk_at "any")
theorem sc4 : FnScope ["names", "thing"] ["names", "thing"] (defScope (top 4)) := ⟨rfl, rfl, rfl, by decide +kernel, rfl, by decide +kernel, by decide +kernel⟩
local macro_rules | `(tactic| walk_at "var") => `(tactic| first | ((with_reducible apply ee_varQ (x := "names") (i := 0)) <;> walk_at "vs") | ((with_reducible apply ee_varQ (x := "thing") (i := 1)) <;> walk_at "vs"))
local macro_rules | `(tactic| walk_at "nd") => `(tactic| exact sc4.nd)
theorem ok_is_literal (T : Txt K mg) : FnD P w K mg base 2 "is_literal" ["names", "thing"] (pureD fun xs r => ∃ (n : Nat) (l : Int), xs = [.d (.int n), .d (.int l)] ∧ (1 ≤ l.natAbs ∧ l.natAbs ≤ n) ∧ r = .bool true) := by
  refine fnd T 3 rfl rfl sc4 (fun _ _ _ _ _ _ us hl => match us, hl with | [_, _], _ => rfl) (fun xs M Φ h => ?_) (fun a cdv A outer s H E xs M Φ hr h => ?_)
  · obtain ⟨r, ⟨n, l, rfl, _, rfl⟩, q⟩ := h
    rfl
  · obtain ⟨r, ⟨n, l, rfl, hl, rfl⟩, q⟩ := h
    refine ws_cons (w1_retE ?_ q)
    refine EE.to (ee_and (p := true) (r := true) (EE.to (d := .bool (isInt (.int l))) ?_ rfl) (fun hp => ?_)) rfl
    · walk_at "any"
    · refine ee_and1 ?_
      apply EE.to
      walk_at "any"
      rw [decide_eq_true (show (1 : Int) ≤ (l.natAbs : Int) by omega), decide_eq_true (show (l.natAbs : Int) ≤ (n : Int) by omega)]; rfl
theorem ee_is_literal {X : Cx} {δ : En} {pos p : Pos} {e e2 : Expr} {k' : Nat} {n : Nat} {l : Int} (h_e : EE X e δ (.int (n : Int))) (h_e2 : EE X e2 δ (.int l)) (s0 : 1 ≤ l.natAbs ∧ l.natAbs ≤ n) (T : Txt X.K X.mg) (hr : Room k' X.A) (hk : 2 ≤ k') (hg : Gl X "is_literal") (q0 : starEach (e :: [e2]) X.env = (false, eval e X.env) :: starEach [e2] X.env) (q1 : starEach (e2 :: []) X.env = (false, eval e2 X.env) :: starEach [] X.env) (hpl : (backTo pos (starEach [e2] X.env)).any (·.1) = false) : EE X (.Call (.Name "is_literal" p) [e, e2] [] pos) δ (.bool true) :=
  ee_callK (ok_is_literal T) (ea_cons q0 h_e (ea_cons q1 h_e2 ea_nil)) (⟨n, l, rfl, s0, rfl⟩) hr hk hg q0 hpl (by decide)
local macro_rules | `(tactic| walk_at "call") => `(tactic| (with_reducible apply ee_is_literal) <;> walk_at "any")
theorem all_tt {α : Type} {xs : List α} : (xs.map fun _ => true).all id = true := by
  induction xs with
  | nil => rfl
  | cons x xs ih => rw [List.map_cons, List.all_cons, ih]; rfl
theorem few_cl {n : Nat} {c : List Int} (h : IC.ClOk n c) (h7 : n ≤ 7) : c.length ≤ 100000 := Nat.le_trans (IC.clause_len h) (Nat.le_trans h7 (by decide))
theorem sc5 : FnScope ["names", "thing", "literal"] ["names", "thing"] (defScope (top 5)) := ⟨rfl, rfl, rfl, by decide +kernel, rfl, by decide +kernel, by decide +kernel⟩
local macro_rules | `(tactic| walk_at "var") => `(tactic| first | ((with_reducible apply ee_varQ (x := "names") (i := 0)) <;> walk_at "vs") | ((with_reducible apply ee_varQ (x := "thing") (i := 1)) <;> walk_at "vs") | ((with_reducible apply ee_varQ (x := "literal") (i := 2)) <;> walk_at "vs"))
local macro_rules | `(tactic| walk_at "nd") => `(tactic| exact sc5.nd)
theorem ok_is_clause (T : Txt K mg) : FnD P w K mg base 3 "is_clause" ["names", "thing"] (pureD fun xs r => ∃ (n : Nat) (c : List Int), xs = [.d (.int n), .d (tI c)] ∧ IC.ClOk n c ∧ n ≤ 7 ∧ r = .bool true) := by
  refine fnd T 4 rfl rfl sc5 (fun _ _ _ _ _ _ us hl => match us, hl with | [_, _], _ => rfl) (fun xs M Φ h => ?_) (fun a cdv A outer s H E xs M Φ hr h => ?_)
  · obtain ⟨r, ⟨n, c, rfl, _, _, rfl⟩, q⟩ := h
    rfl
  · obtain ⟨r, ⟨n, c, rfl, hc, h7, rfl⟩, q⟩ := h
    refine ws_cons (w1_ifE (p := false) (EB.to (EW.eb (ew_or (p := false) (r := false) (EB.to (b := !isTup (tI c)) (eb_not ?_) rfl) (fun _ => ew_or1 (EB.to (b := !((c.map fun _ => true).all id)) (eb_not (eb_val (fun _ => rfl) (ee_allN (EE.to (LC1.ee (own := [("literal", 2)]) (i := 2) (xs := c) (g := PyData.int) (f := fun _ => .bool true) (p := fun _ => true) ?_) ?_) (by rfl) (by rfl) (by walk_at "mg") (by rfl)))) ?_)))) rfl) (fun h => nomatch h) (fun _ => ws_nil ?_))
    · walk_at "any"
    · refine ⟨?_, fun s0 H0 C0 cl0 fp0 z0 hz0 => ?_, fun s0 H0 C0 cl0 fp0 z0 hz0 hp0 => ?_, ?_, fun _ => by rfl, blkOk_by (by rfl), fun _ _ _ _ _ => by walk_at "loc", fun _ _ _ _ _ => by walk_at "locf", by rfl, by decide, by walk_at "nd", by rfl⟩
      · walk_at "iv"
      · exact eif_nil
      · walk_at "any"
        exact hc.lit _ hz0
      · exact few_cl hc h7
    · walk_at "fm"
    · rw [all_tt]; rfl
    · refine ws_cons (w1_retE ?_ q)
      refine EE.to (ee_are_rising (ns := c.map fun l => (l.natAbs : Int)) (EE.to (LC1.ee (own := [("literal", 2)]) (i := 2) (xs := c) (g := PyData.int) (f := fun l => .int (l.natAbs : Int)) (p := fun _ => true) ?_) ?_) ?_ (by assumption) (by assumption) (by decide) (by rfl) (by rfl) (by rfl)) ?_
      · refine ⟨?_, fun s1 H1 C1 cl1 fp1 z1 hz1 => ?_, fun s1 H1 C1 cl1 fp1 z1 hz1 hp1 => ?_, ?_, fun _ => by rfl, blkOk_by (by rfl), fun _ _ _ _ _ => by walk_at "loc", fun _ _ _ _ _ => by walk_at "locf", by rfl, by decide, by walk_at "nd", by rfl⟩
        · walk_at "iv"
        · exact eif_nil
        · walk_at "any"
        · exact few_cl hc h7
      · walk_at "fm"
      · rw [List.length_map]; exact few_cl hc h7
      · rw [asc_of]
        exact List.pairwise_map.mpr ((List.pairwise_map.mp hc.asc).imp fun h => by omega)
theorem ee_is_clause {X : Cx} {δ : En} {pos p : Pos} {e e2 : Expr} {k' : Nat} {n : Nat} {c : List Int} (h_e : EE X e δ (.int (n : Int))) (h_e2 : EE X e2 δ (tI c)) (s0 : IC.ClOk n c) (s1 : n ≤ 7) (T : Txt X.K X.mg) (hr : Room k' X.A) (hk : 3 ≤ k') (hg : Gl X "is_clause") (q0 : starEach (e :: [e2]) X.env = (false, eval e X.env) :: starEach [e2] X.env) (q1 : starEach (e2 :: []) X.env = (false, eval e2 X.env) :: starEach [] X.env) (hpl : (backTo pos (starEach [e2] X.env)).any (·.1) = false) : EE X (.Call (.Name "is_clause" p) [e, e2] [] pos) δ (.bool true) :=
  ee_callK (ok_is_clause T) (ea_cons q0 h_e (ea_cons q1 h_e2 ea_nil)) (⟨n, c, rfl, s0, s1, rfl⟩) hr hk hg q0 hpl (by decide)
local macro_rules | `(tactic| walk_at "call") => `(tactic| (with_reducible apply ee_is_clause) <;> walk_at "any")
end
end KP
namespace KP
open PySem PySem.Spec PyProof.Rows L2 DL
section
variable {P : Program} {w : World} {K : PySem.W.Frag} {mg : Str → Option Value} {base : Heap}
/-! steps -/
local macro_rules | `(tactic| walk_at "vis") => `(tactic| first | exact vis_l (by rfl) | exact vis_c (by rfl) | exact vis_f (by rfl))
local macro_rules | `(tactic| walk_at "vs") => `(tactic| first | rfl | (walk_at "vis") | decide)
local macro_rules | `(tactic| walk_at "mg") => `(tactic| exact z_of (by assumption) (by decide +kernel))
local macro_rules | `(tactic| walk_at "var") => `(tactic| fail)
local macro_rules | `(tactic| walk_at "glo") => `(tactic| first | exact ee_names (by assumption) (by rfl) (by rfl) | exact ee_clauses (by assumption) (by rfl) (by rfl) | exact ee_halvesS (by assumption) (by rfl) (by rfl) | exact ee_clashS (by assumption) (by rfl) (by rfl))
local macro_rules | `(tactic| walk_at "side") => `(tactic| first | assumption | ((with_reducible apply atI_litG); rfl) | ((fail_if_success (with_reducible apply atI_litG)); skip))
local macro_rules | `(tactic| walk_at "call") => `(tactic| fail)
local macro_rules | `(tactic| walk_at "bv") => `(tactic| first
  | (with_reducible apply bv_gB); first
    | (with_reducible exact bv_add) | (with_reducible exact bv_sub) | (with_reducible apply bv_mulS; walk_at "side") | (with_reducible apply bv_divS; walk_at "side") | (with_reducible apply bv_mod; walk_at "side") | (with_reducible apply bv_powS; walk_at "side")
    | (with_reducible apply bv_cat <;> walk_at "side") | (with_reducible apply bv_rep1 <;> walk_at "side") | (with_reducible apply bv_rep <;> walk_at "side") | (with_reducible apply bv_catT <;> walk_at "side")
  | (with_reducible apply bv_gC); first
    | (with_reducible exact bv_lt) | (with_reducible exact bv_le) | (with_reducible exact bv_gt) | (with_reducible exact bv_ge) | (with_reducible exact bv_eqI) | (with_reducible exact bv_neI) | (with_reducible exact bv_eqS) | (with_reducible exact bv_neS) | (with_reducible exact bv_isNone) | (with_reducible exact bv_inT) | (with_reducible exact bv_notin2)
    | (with_reducible apply bv_eqD <;> walk_at "side") | (with_reducible apply bv_neD <;> walk_at "side") | (with_reducible apply bv_inD <;> walk_at "side"))
local macro_rules | `(tactic| walk_at "any") => `(tactic| first
  | (with_reducible apply ee_id); walk_at "go"
  | (with_reducible apply ea_id); first | (with_reducible exact ea_nil) | ((with_reducible apply ea_cons) <;> walk_at "any")
  | (with_reducible apply eb_id); walk_at "gb"
  | (with_reducible apply ew_id); walk_at "gw"
  | (with_reducible apply eo_id); first | (with_reducible exact eo_none) | (apply eo_some; walk_at "go")
  | (with_reducible apply bv_id); walk_at "bv"
  | (fail_if_success (with_reducible apply ee_id)); (fail_if_success (with_reducible apply ea_id)); (fail_if_success (with_reducible apply eb_id)); (fail_if_success (with_reducible apply ew_id)); (fail_if_success (with_reducible apply bv_id)); first
    | (intro _; walk_at "any")
    | rfl | (walk_at "mg") | decide | (intro _; rfl) | (intro _ _; rfl) | (walk_at "side"))
local macro_rules | `(tactic| walk_at "gb") => `(tactic| first
  | (with_reducible apply eb_not); walk_at "gb"
  | (with_reducible apply eb_cmp) <;> walk_at "any"
  | (with_reducible apply EW.eb); walk_at "gw"
  | (apply eb_val) <;> walk_at "any")
local macro_rules | `(tactic| walk_at "gw") => `(tactic| first
  | (with_reducible apply ew_and) <;> walk_at "any"
  | (with_reducible apply ew_or) <;> walk_at "any"
  | (with_reducible apply ew_and1); walk_at "gb"
  | (with_reducible apply ew_or1); walk_at "gb")
local macro_rules | `(tactic| walk_at "go") => `(tactic| first
  | (with_reducible apply ee_nm); first | walk_at "var" | walk_at "glo"
  | (with_reducible apply g_const); first | (with_reducible exact ee_int) | (with_reducible exact ee_str) | (with_reducible exact ee_bl) | (with_reducible exact ee_non)
  | (with_reducible apply g_call); first
    | (with_reducible apply g_call1); first | ((with_reducible apply ee_lenL) <;> walk_at "any") | ((with_reducible apply ee_lenT) <;> walk_at "any") | ((with_reducible apply ee_intIN) <;> walk_at "any") | ((with_reducible apply ee_intBN) <;> walk_at "any") | ((with_reducible apply ee_tupN) <;> walk_at "any") | ((with_reducible apply ee_absN) <;> walk_at "any") | ((with_reducible apply ee_sumN) <;> walk_at "any") | ((with_reducible apply ee_sumTN) <;> walk_at "any") | ((with_reducible apply ee_allN) <;> walk_at "any") | ((with_reducible apply ee_lstN) <;> walk_at "any") | walk_at "call"
    | (with_reducible apply g_call2); first | ((with_reducible apply ee_isInt) <;> walk_at "any") | ((with_reducible apply ee_isBool) <;> walk_at "any") | ((with_reducible apply ee_isTup) <;> walk_at "any") | ((with_reducible apply ee_isStr) <;> walk_at "any") | ((with_reducible apply ee_minN) <;> walk_at "any") | ((with_reducible apply ee_maxN) <;> walk_at "any") | walk_at "call"
    | walk_at "call"
  | ((with_reducible apply ee_bin) <;> walk_at "any")
  | (with_reducible apply g_cmp); first | ((with_reducible apply ee_cmp) <;> walk_at "any") | ((with_reducible apply ee_chain) <;> walk_at "any")
  | (with_reducible apply g_sub); first | ((with_reducible apply ee_slL) <;> walk_at "any") | ((with_reducible apply ee_cell) <;> walk_at "any") | ((with_reducible apply ee_ixT) <;> walk_at "any") | ((with_reducible apply ee_ixL) <;> walk_at "any")
  | (with_reducible apply g_un); first | ((with_reducible apply ee_not); walk_at "go") | (with_reducible exact ee_neg)
  | (with_reducible apply g_bool); first | ((with_reducible apply ee_and) <;> walk_at "any") | ((with_reducible apply ee_or) <;> walk_at "any") | ((with_reducible apply ee_and1) <;> walk_at "any")
  | (with_reducible apply g_if); first | ((with_reducible apply ee_ifI) <;> walk_at "any") | ((with_reducible apply ee_if) <;> walk_at "any")
  | (with_reducible apply g_lst); first | ((with_reducible apply ee_lst0) <;> walk_at "any") | ((with_reducible apply ee_lst1) <;> walk_at "any") | ((with_reducible apply ee_lst2) <;> walk_at "any") | ((with_reducible apply ee_lst3) <;> walk_at "any") | ((with_reducible apply ee_lst4) <;> walk_at "any")
  | (with_reducible apply g_tup); first | ((with_reducible apply ee_tup0) <;> walk_at "any") | ((with_reducible apply ee_tup1) <;> walk_at "any") | ((with_reducible apply ee_tup2) <;> walk_at "any") | ((with_reducible apply ee_tup3) <;> walk_at "any") | ((with_reducible apply ee_tup4) <;> walk_at "any"))
local macro_rules | `(tactic| walk_at "loc") => `(tactic| first | exact .inl (by rfl) | exact .inr (by rfl))
local macro_rules | `(tactic| walk_at "locf") => `(tactic| first | exact .inr (by rfl) | exact .inl (by rfl))
local macro_rules | `(tactic| walk_at "iv") => `(tactic| first
  | ((with_reducible apply iv_tup); walk_at "go") | ((with_reducible apply iv_list); walk_at "go")
  | ((with_reducible apply iv_range) <;> walk_at "any") | ((with_reducible apply iv_range2) <;> walk_at "any")
  | ((with_reducible apply iv_enumL) <;> walk_at "any") | ((with_reducible apply iv_enumT) <;> walk_at "any") | ((with_reducible apply iv_enumT1) <;> walk_at "any")
  | ((with_reducible apply iv_zipL) <;> walk_at "any") | ((with_reducible apply iv_zipT) <;> walk_at "any"))
local macro_rules | `(tactic| walk_at "fm") => `(tactic| ((try rw [filter_tt]); first | rfl | (rw [List.map_map]; done) | (rw [List.map_map]; rfl) | (simp only [lI, tI, List.map_map]; done) | (simp only [lI, tI, List.map_map]; rfl)))
local macro_rules | `(tactic| walk_at "call") => `(tactic| (with_reducible apply ee_are_rising) <;> walk_at "any")
local macro_rules | `(tactic| walk_at "call") => `(tactic| (with_reducible apply ee_is_literal) <;> walk_at "any")
local macro_rules | `(tactic| walk_at "call") => `(tactic| (with_reducible apply ee_is_clause) <;> walk_at "any")
local macro_rules | `(tactic| walk_at "call") => `(tactic| (with_reducible apply ee_weight_of) <;> walk_at "any")
local macro_rules | `(tactic| walk_at "call") => `(tactic| (with_reducible apply ee_does_weigh) <;> walk_at "any")
local macro_rules | `(tactic| walk_at "call") => `(tactic| (with_reducible apply ee_is_integer) <;> walk_at "any")
local macro_rules | `(tactic| walk_at "call") => `(tactic| (with_reducible apply ee_is_between) <;> walk_at "any")
def flatD : PyData → Bool
  | .dict _ => false
  | .tuple ds => ds.all noDict
  | _ => true
theorem flat_no {d : PyData} (h : flatD d = true) : noDict d = true := by cases d <;> first | rfl | exact h
def rowD (n : Nat) (v : Int) : PyData → Bool
  | .tuple ds => decide (ds.length = n) && ds.all fun x => betw x 0 v
  | _ => false
def intOf : PyData → Int
  | .int i => i
  | _ => 0
def intsOf : PyData → List Int
  | .tuple ds => ds.map intOf
  | _ => []
theorem rowD_ints {n : Nat} {v : Int} {d : PyData} (h : rowD n v d = true) : d = tI (intsOf d) ∧ (intsOf d).length = n ∧ (intsOf d).all (IC.between 0 v) = true := by
  cases d with
  | tuple ds =>
    have h := Bool.and_eq_true_iff.mp h
    have h1 := of_decide_eq_true h.1
    have h2 := h.2
    have e : ∀ {ds : List PyData}, (ds.all fun x => betw x 0 v) = true → ds = (ds.map intOf).map PyData.int ∧ (ds.map intOf).all (IC.between 0 v) = true := by
      intro ds
      induction ds with
      | nil => intro _; exact ⟨rfl, rfl⟩
      | cons x xs ih =>
        intro hx
        rw [List.all_cons] at hx
        have hx := Bool.and_eq_true_iff.mp hx
        obtain ⟨i1, i2⟩ := ih hx.2
        cases x with
        | int i => exact ⟨by rw [List.map_cons, List.map_cons, ← i1]; rfl, by rw [List.map_cons, List.all_cons, i2, Bool.and_true]; exact hx.1⟩
        | _ => exact absurd hx.1 Bool.false_ne_true
    obtain ⟨e1, e2⟩ := e h2
    refine ⟨?_, ?_, e2⟩
    · show PyData.tuple ds = PyData.tuple ((ds.map intOf).map PyData.int)
      rw [← e1]
    · show (ds.map intOf).length = n
      rw [List.length_map, h1]
  | _ => exact absurd h Bool.false_ne_true
theorem rowD_tI {n : Nat} {v : Int} {row : List Int} : rowD n v (tI row) = IC.isRow n v row := by
  show (decide ((row.map PyData.int).length = n) && (row.map PyData.int).all fun x => betw x 0 v) = (decide (row.length = n) && row.all (IC.between 0 v))
  rw [List.length_map, List.all_map]; rfl
def halvD (n : Nat) (cs : List (List Int)) (d : PyData) : Bool := rowD n 2 d && IC.doesW 2 (intsOf d) cs
theorem intsOf_tI {row : List Int} : intsOf (tI row) = row := by
  show (row.map PyData.int).map intOf = row
  rw [List.map_map]
  exact List.map_id'' (fun _ => rfl) row
theorem halvD_tI {n : Nat} {cs : List (List Int)} {row : List Int} : halvD n cs (tI row) = IC.areHalves n cs row := by
  unfold halvD IC.areHalves
  rw [rowD_tI, intsOf_tI]
theorem sc29 : FnScope ["bundle", "whole", "thing", "one"] ["bundle", "whole", "thing"] (defScope (top 29)) := ⟨rfl, rfl, rfl, by decide +kernel, rfl, by decide +kernel, by decide +kernel⟩
local macro_rules | `(tactic| walk_at "var") => `(tactic| first | ((with_reducible apply ee_varQ (x := "bundle") (i := 0)) <;> walk_at "vs") | ((with_reducible apply ee_varQ (x := "whole") (i := 1)) <;> walk_at "vs") | ((with_reducible apply ee_varQ (x := "thing") (i := 2)) <;> walk_at "vs") | ((with_reducible apply ee_varQ (x := "one") (i := 3)) <;> walk_at "vs"))
local macro_rules | `(tactic| walk_at "nd") => `(tactic| exact sc29.nd)
theorem ok_is_row (T : Txt K mg) : FnD P w K mg base 3 "is_row" ["bundle", "whole", "thing"] (pureD fun xs r => ∃ (n : Nat) (cs : List (List Int)) (v : Int) (d : PyData), xs = [.d (bun n cs), .d (.int v), .d d] ∧ flatD d = true ∧ (intsOf d).length ≤ 100000 ∧ r = .bool (rowD n v d)) := by
  refine fnd T 14 rfl rfl sc29 (fun _ _ _ _ _ _ us hl => match us, hl with | [_, _, _], _ => rfl) (fun xs M Φ h => ?_) (fun a cdv A outer s H E xs M Φ hr h => ?_)
  · obtain ⟨r, ⟨n, cs, v, d, rfl, _, _, rfl⟩, q⟩ := h
    rfl
  · obtain ⟨r, ⟨n, cs, v, d, rfl, hf, hl, rfl⟩, q⟩ := h
    by_cases ht : isTup d = true
    · cases d with
      | tuple ds =>
        refine ws_cons (w1_ifE (p := !decide (ds.length = n)) (EB.to (EW.eb (ew_or (p := false) (r := !decide (ds.length = n)) (EB.to (b := !isTup (.tuple ds)) ?_ rfl) (fun _ => ew_or1 (EB.to (b := !decide ((ds.length : Int) = (n : Int))) ?_ ?_)))) rfl) (fun h => ?_) (fun h => ws_nil ?_))
        · walk_at "gb"
        · walk_at "gb"
        · by_cases e : ds.length = n
          · rw [decide_eq_true e, decide_eq_true (by rw [e])]
          · rw [decide_eq_false e, decide_eq_false (by omega)]
        · refine ws_cons (w1_retE ee_bl ?_)
          have e : rowD n v (.tuple ds) = false := by
            show (decide (ds.length = n) && _) = false
            cases z : decide (ds.length = n) with
            | true => rw [z] at h; cases h
            | false => rfl
          rw [e] at q; exact q
        · refine ws_cons (w1_retE ?_ q)
          refine EE.to (ee_allN (bs := ds.map fun x => betw x 0 v) (EE.to (LC1.ee (own := [("one", 3)]) (i := 3) (xs := ds) (g := fun x => x) (f := fun x => .bool (betw x 0 v)) (p := fun _ => true) ?_) ?_) (by rfl) (by rfl) (by walk_at "mg") (by rfl)) ?_
          · refine ⟨?_, fun s0 H0 C0 cl0 fp0 z0 hz0 => ?_, fun s0 H0 C0 cl0 fp0 z0 hz0 hp0 => ?_, ?_, fun _ => by rfl, blkOk_by (by rfl), fun _ _ _ _ _ => by walk_at "loc", fun _ _ _ _ _ => by walk_at "locf", by rfl, by decide, by walk_at "nd", by rfl⟩
            · rw [List.map_id']
              walk_at "iv"
            · exact eif_nil
            · walk_at "any"
              exact List.all_eq_true.mp hf _ hz0
            · have : (ds.map intOf).length ≤ 100000 := hl
              rwa [List.length_map] at this
          · walk_at "fm"
          · rw [all_map]
            have e : decide (ds.length = n) = true := by
              cases z : decide (ds.length = n) with
              | true => rfl
              | false => rw [z] at h; cases h
            show _ = PyData.bool (decide (ds.length = n) && _)
            rw [e]; rfl
      | _ => cases ht
    · have ht : isTup d = false := by simpa using ht
      refine ws_cons (w1_ifE (p := true) (EB.to (EW.eb (ew_or (p := true) (r := false) (EB.to (b := !isTup d) ?_ (by rw [ht]; rfl)) (fun h => nomatch h))) rfl) (fun h => ?_) (fun h => nomatch h))
      · walk_at "gb"
        exact flat_no hf
      · refine ws_cons (w1_retE ee_bl ?_)
        have e : rowD n v d = false := by cases d <;> first | rfl | cases ht
        rw [e] at q; exact q
theorem ee_is_row {X : Cx} {δ : En} {pos p : Pos} {e e2 e3 : Expr} {k' : Nat} {n : Nat} {cs : List (List Int)} {v : Int} {d : PyData} (h_e : EE X e δ (bun n cs)) (h_e2 : EE X e2 δ (.int v)) (h_e3 : EE X e3 δ d) (s0 : flatD d = true) (s1 : (intsOf d).length ≤ 100000) (T : Txt X.K X.mg) (hr : Room k' X.A) (hk : 3 ≤ k') (hg : Gl X "is_row") (q0 : starEach (e :: [e2, e3]) X.env = (false, eval e X.env) :: starEach [e2, e3] X.env) (q1 : starEach (e2 :: [e3]) X.env = (false, eval e2 X.env) :: starEach [e3] X.env) (q2 : starEach (e3 :: []) X.env = (false, eval e3 X.env) :: starEach [] X.env) (hpl : (backTo pos (starEach [e2, e3] X.env)).any (·.1) = false) : EE X (.Call (.Name "is_row" p) [e, e2, e3] [] pos) δ (.bool (rowD n v d)) :=
  ee_callK (ok_is_row T) (ea_cons q0 h_e (ea_cons q1 h_e2 (ea_cons q2 h_e3 ea_nil))) (⟨n, cs, v, d, rfl, s0, s1, rfl⟩) hr hk hg q0 hpl (by decide)
local macro_rules | `(tactic| walk_at "call") => `(tactic| (with_reducible apply ee_is_row) <;> walk_at "any")
theorem sc30 : FnScope ["bundle", "thing"] ["bundle", "thing"] (defScope (top 30)) := ⟨rfl, rfl, rfl, by decide +kernel, rfl, by decide +kernel, by decide +kernel⟩
local macro_rules | `(tactic| walk_at "var") => `(tactic| first | ((with_reducible apply ee_varQ (x := "bundle") (i := 0)) <;> walk_at "vs") | ((with_reducible apply ee_varQ (x := "thing") (i := 1)) <;> walk_at "vs"))
local macro_rules | `(tactic| walk_at "nd") => `(tactic| exact sc30.nd)
theorem ok_are_halves_of (T : Txt K mg) : FnD P w K mg base 4 "are_halves_of" ["bundle", "thing"] (pureD fun xs r => ∃ (n : Nat) (cs : List (List Int)) (d : PyData), xs = [.d (bun n cs), .d d] ∧ CsOk n cs ∧ flatD d = true ∧ (intsOf d).length ≤ 100000 ∧ r = .bool (halvD n cs d)) := by
  refine fnd T 15 rfl rfl sc30 (fun _ _ _ _ _ _ us hl => match us, hl with | [_, _], _ => rfl) (fun xs M Φ h => ?_) (fun a cdv A outer s H E xs M Φ hr h => ?_)
  · obtain ⟨r, ⟨n, cs, d, rfl, _, _, _, rfl⟩, q⟩ := h
    rfl
  · obtain ⟨r, ⟨n, cs, d, rfl, hb, hf, hl, rfl⟩, q⟩ := h
    refine ws_cons (w1_retE ?_ q)
    refine ee_and (p := rowD n 2 d) (r := IC.doesW 2 (intsOf d) cs) ?_ (fun hp => ?_)
    · walk_at "any"
    · obtain ⟨h1, h2, h3⟩ := rowD_ints hp
      refine ee_and1 (ee_does_weigh (n := n) (cs := cs) (v := 2) (row := intsOf d) ?_ ?_ ?_ hb h2 (by assumption) (by assumption) (by decide) (by rfl) (by rfl) (by rfl) (by rfl) (by rfl))
      · walk_at "any"
      · walk_at "any"
      · rw [← h1]; walk_at "any"
theorem ee_are_halves_of {X : Cx} {δ : En} {pos p : Pos} {e e2 : Expr} {k' : Nat} {n : Nat} {cs : List (List Int)} {d : PyData} (h_e : EE X e δ (bun n cs)) (h_e2 : EE X e2 δ d) (s0 : CsOk n cs) (s1 : flatD d = true) (s2 : (intsOf d).length ≤ 100000) (T : Txt X.K X.mg) (hr : Room k' X.A) (hk : 4 ≤ k') (hg : Gl X "are_halves_of") (q0 : starEach (e :: [e2]) X.env = (false, eval e X.env) :: starEach [e2] X.env) (q1 : starEach (e2 :: []) X.env = (false, eval e2 X.env) :: starEach [] X.env) (hpl : (backTo pos (starEach [e2] X.env)).any (·.1) = false) : EE X (.Call (.Name "are_halves_of" p) [e, e2] [] pos) δ (.bool (halvD n cs d)) :=
  ee_callK (ok_are_halves_of T) (ea_cons q0 h_e (ea_cons q1 h_e2 ea_nil)) (⟨n, cs, d, rfl, s0, s1, s2, rfl⟩) hr hk hg q0 hpl (by decide)
local macro_rules | `(tactic| walk_at "call") => `(tactic| (with_reducible apply ee_are_halves_of) <;> walk_at "any")
abbrev sml (x : Int) : Prop := x.natAbs.log2 < 9000
theorem sc33 : FnScope ["whole", "row", "one"] ["whole", "row"] (defScope (top 33)) := ⟨rfl, rfl, rfl, by decide +kernel, rfl, by decide +kernel, by decide +kernel⟩
local macro_rules | `(tactic| walk_at "var") => `(tactic| first | ((with_reducible apply ee_varQ (x := "whole") (i := 0)) <;> walk_at "vs") | ((with_reducible apply ee_varQ (x := "row") (i := 1)) <;> walk_at "vs") | ((with_reducible apply ee_varQ (x := "one") (i := 2)) <;> walk_at "vs"))
local macro_rules | `(tactic| walk_at "nd") => `(tactic| exact sc33.nd)
theorem ok_rounded_row (T : Txt K mg) : FnD P w K mg base 1 "rounded_row" ["whole", "row"] (pureD fun xs r => ∃ (v : Int) (row : List Int) (d : PyData), xs = [.d (.int v), .d d] ∧ (d = tI row ∨ d = lI row) ∧ (∀ x ∈ row, sml x) ∧ row.length ≤ 100000 ∧ r = tI (IC.roundRow v row)) := by
  refine fnd T 18 rfl rfl sc33 (fun _ _ _ _ _ _ us hl => match us, hl with | [_, _], _ => rfl) (fun xs M Φ h => ?_) (fun a cdv A outer s H E xs M Φ hr h => ?_)
  · obtain ⟨r, ⟨v, row, d, rfl, _, _, _, rfl⟩, q⟩ := h
    rfl
  · obtain ⟨r, ⟨v, row, d, rfl, hd, hb, hl, rfl⟩, q⟩ := h
    rcases hd with rfl | rfl
    · refine ws_cons (w1_retE ?_ q)
      refine EE.to (ee_tupN (EE.to (LC1.ee (own := [("one", 2)]) (i := 2) (xs := row) (g := PyData.int) (f := fun x => .int (IC.rnd v x)) (p := fun _ => true) ?_) (d' := lI (IC.roundRow v row)) ?_) (by rfl) (by walk_at "mg") (by rfl)) rfl
      · refine ⟨?_, fun s0 H0 C0 cl0 fp0 z0 hz0 => ?_, fun s0 H0 C0 cl0 fp0 z0 hz0 hp0 => ?_, ?_, fun _ => by rfl, blkOk_by (by rfl), fun _ _ _ _ _ => by walk_at "loc", fun _ _ _ _ _ => by walk_at "locf", by rfl, by decide, by walk_at "nd", by rfl⟩
        · walk_at "iv"
        · exact eif_nil
        · apply EE.to
          walk_at "any"
          · have := hb _ hz0
            show (2 : Nat).log2 + _ < 1000000
            have e : (2 : Nat).log2 = 1 := by decide +kernel
            omega
          · have := hb _ hz0
            show (2 : Nat).log2 + _ < 1000000
            have e : (2 : Nat).log2 = 1 := by decide +kernel
            omega
          · rfl
        · exact hl
      · show _ = lI (row.map (IC.rnd v))
        walk_at "fm"
    · refine ws_cons (w1_retE ?_ q)
      refine EE.to (ee_tupN (EE.to (LC1.ee (own := [("one", 2)]) (i := 2) (xs := row) (g := PyData.int) (f := fun x => .int (IC.rnd v x)) (p := fun _ => true) ?_) (d' := lI (IC.roundRow v row)) ?_) (by rfl) (by walk_at "mg") (by rfl)) rfl
      · refine ⟨?_, fun s0 H0 C0 cl0 fp0 z0 hz0 => ?_, fun s0 H0 C0 cl0 fp0 z0 hz0 hp0 => ?_, ?_, fun _ => by rfl, blkOk_by (by rfl), fun _ _ _ _ _ => by walk_at "loc", fun _ _ _ _ _ => by walk_at "locf", by rfl, by decide, by walk_at "nd", by rfl⟩
        · walk_at "iv"
        · exact eif_nil
        · apply EE.to
          walk_at "any"
          · have := hb _ hz0
            show (2 : Nat).log2 + _ < 1000000
            have e : (2 : Nat).log2 = 1 := by decide +kernel
            omega
          · have := hb _ hz0
            show (2 : Nat).log2 + _ < 1000000
            have e : (2 : Nat).log2 = 1 := by decide +kernel
            omega
          · rfl
        · exact hl
      · show _ = lI (row.map (IC.rnd v))
        walk_at "fm"
theorem ee_rounded_row {X : Cx} {δ : En} {pos p : Pos} {e e2 : Expr} {k' : Nat} {v : Int} {row : List Int} (h_e : EE X e δ (.int v)) (h_e2 : EE X e2 δ (tI row)) (s0 : ∀ x ∈ row, sml x) (s1 : row.length ≤ 100000) (T : Txt X.K X.mg) (hr : Room k' X.A) (hk : 1 ≤ k') (hg : Gl X "rounded_row") (q0 : starEach (e :: [e2]) X.env = (false, eval e X.env) :: starEach [e2] X.env) (q1 : starEach (e2 :: []) X.env = (false, eval e2 X.env) :: starEach [] X.env) (hpl : (backTo pos (starEach [e2] X.env)).any (·.1) = false) : EE X (.Call (.Name "rounded_row" p) [e, e2] [] pos) δ (tI (IC.roundRow v row)) :=
  ee_callK (ok_rounded_row T) (ea_cons q0 h_e (ea_cons q1 h_e2 ea_nil)) (⟨v, row, _, rfl, .inl rfl, s0, s1, rfl⟩) hr hk hg q0 hpl (by decide)
local macro_rules | `(tactic| walk_at "call") => `(tactic| (with_reducible apply ee_rounded_row) <;> walk_at "any")
theorem ee_rounded_rowL {X : Cx} {δ : En} {pos p : Pos} {e e2 : Expr} {k' : Nat} {v : Int} {row : List Int} (h_e : EE X e δ (.int v)) (h_e2 : EE X e2 δ (lI row)) (s0 : ∀ x ∈ row, sml x) (s1 : row.length ≤ 100000) (T : Txt X.K X.mg) (hr : Room k' X.A) (hk : 1 ≤ k') (hg : Gl X "rounded_row") (q0 : starEach (e :: [e2]) X.env = (false, eval e X.env) :: starEach [e2] X.env) (q1 : starEach (e2 :: []) X.env = (false, eval e2 X.env) :: starEach [] X.env) (hpl : (backTo pos (starEach [e2] X.env)).any (·.1) = false) : EE X (.Call (.Name "rounded_row" p) [e, e2] [] pos) δ (tI (IC.roundRow v row)) :=
  ee_callK (ok_rounded_row T) (ea_cons q0 h_e (ea_cons q1 h_e2 ea_nil)) (⟨v, row, _, rfl, .inr rfl, s0, s1, rfl⟩) hr hk hg q0 hpl (by decide)
local macro_rules | `(tactic| walk_at "call") => `(tactic| (with_reducible apply ee_rounded_rowL) <;> walk_at "any")
theorem sc36 : FnScope ["clause", "name"] ["clause", "name"] (defScope (top 36)) := ⟨rfl, rfl, rfl, by decide +kernel, rfl, by decide +kernel, by decide +kernel⟩
local macro_rules | `(tactic| walk_at "var") => `(tactic| first | ((with_reducible apply ee_varQ (x := "clause") (i := 0)) <;> walk_at "vs") | ((with_reducible apply ee_varQ (x := "name") (i := 1)) <;> walk_at "vs"))
local macro_rules | `(tactic| walk_at "nd") => `(tactic| exact sc36.nd)
theorem ok_sign_in (T : Txt K mg) : FnD P w K mg base 1 "sign_in" ["clause", "name"] (pureD fun xs r => ∃ (c : List Int) (l : Int), xs = [.d (tI c), .d (.int l)] ∧ r = .int (IC.signIn c l)) := by
  refine fnd T 21 rfl rfl sc36 (fun _ _ _ _ _ _ us hl => match us, hl with | [_, _], _ => rfl) (fun xs M Φ h => ?_) (fun a cdv A outer s H E xs M Φ hr h => ?_)
  · obtain ⟨r, ⟨c, l, rfl, rfl⟩, q⟩ := h
    rfl
  · obtain ⟨r, ⟨c, l, rfl, rfl⟩, q⟩ := h
    refine ws_cons (w1_retE ?_ q)
    apply EE.to
    walk_at "any"
    rfl
theorem ee_sign_in {X : Cx} {δ : En} {pos p : Pos} {e e2 : Expr} {k' : Nat} {c : List Int} {l : Int} (h_e : EE X e δ (tI c)) (h_e2 : EE X e2 δ (.int l))  (T : Txt X.K X.mg) (hr : Room k' X.A) (hk : 1 ≤ k') (hg : Gl X "sign_in") (q0 : starEach (e :: [e2]) X.env = (false, eval e X.env) :: starEach [e2] X.env) (q1 : starEach (e2 :: []) X.env = (false, eval e2 X.env) :: starEach [] X.env) (hpl : (backTo pos (starEach [e2] X.env)).any (·.1) = false) : EE X (.Call (.Name "sign_in" p) [e, e2] [] pos) δ (.int (IC.signIn c l)) :=
  ee_callK (ok_sign_in T) (ea_cons q0 h_e (ea_cons q1 h_e2 ea_nil)) (⟨c, l, rfl, rfl⟩) hr hk hg q0 hpl (by decide)
local macro_rules | `(tactic| walk_at "call") => `(tactic| (with_reducible apply ee_sign_in) <;> walk_at "any")
theorem sc39 : FnScope ["bundle", "hefts", "literal", "heft", "clause"] ["bundle", "hefts", "literal"] (defScope (top 39)) := ⟨rfl, rfl, rfl, by decide +kernel, rfl, by decide +kernel, by decide +kernel⟩
local macro_rules | `(tactic| walk_at "var") => `(tactic| first | ((with_reducible apply ee_varQ (x := "bundle") (i := 0)) <;> walk_at "vs") | ((with_reducible apply ee_varQ (x := "hefts") (i := 1)) <;> walk_at "vs") | ((with_reducible apply ee_varQ (x := "literal") (i := 2)) <;> walk_at "vs") | ((with_reducible apply ee_varQ (x := "heft") (i := 3)) <;> walk_at "vs") | ((with_reducible apply ee_varQ (x := "clause") (i := 4)) <;> walk_at "vs"))
local macro_rules | `(tactic| walk_at "nd") => `(tactic| exact sc39.nd)
theorem ok_heft_at (T : Txt K mg) : FnD P w K mg base 1 "heft_at" ["bundle", "hefts", "literal"] (pureD fun xs r => ∃ (n : Nat) (cs : List (List Int)) (hs : List Int) (l : Int), xs = [.d (bun n cs), .d (tI hs), .d (.int l)] ∧ CsOk n cs ∧ r = .int (IC.heftAt hs cs l)) := by
  refine fnd T 24 rfl rfl sc39 (fun _ _ _ _ _ _ us hl => match us, hl with | [_, _, _], _ => rfl) (fun xs M Φ h => ?_) (fun a cdv A outer s H E xs M Φ hr h => ?_)
  · obtain ⟨r, ⟨n, cs, hs, l, rfl, _, rfl⟩, q⟩ := h
    rfl
  · obtain ⟨r, ⟨n, cs, hs, l, rfl, hb, rfl⟩, q⟩ := h
    refine ws_cons (w1_retE ?_ q)
    refine EE.to (ee_sumN (ns := ((hs.zip cs).filter fun p => decide (l ∈ p.2)).map fun p => p.1) (EE.to (LC2.ee (own := [("heft", 3), ("clause", 4)]) (i := 3) (j := 4) (xs := hs.zip cs) (g := fun z => .int z.1) (g2 := fun z => tI z.2) (f := fun z => .int z.1) (p := fun z => decide (l ∈ z.2)) ?_) ?_) (by rfl) (by rfl) (by walk_at "mg") (by rfl)) rfl
    · refine ⟨?_, fun s0 H0 C0 cl0 fp0 z0 hz0 => ?_, fun s0 H0 C0 cl0 fp0 z0 hz0 hp0 => ?_, ?_, fun _ => by rfl, blkOk_by (by rfl), fun _ _ _ _ _ => by walk_at "loc", fun _ _ _ _ _ => by walk_at "locf", fun _ _ _ _ _ => by walk_at "loc", fun _ _ _ _ _ => by walk_at "locf", by rfl, by rfl, by decide, by decide, by walk_at "nd", by rfl⟩
      · apply IV.to
        walk_at "iv"
        exact zip_map2
      · refine eif_one ?_
        walk_at "gb"
      · walk_at "any"
      · rw [List.length_zip]; exact Nat.le_trans (Nat.min_le_right _ _) hb.few
    · show _ = PyData.list (List.map PyData.int _)
      rw [List.map_map]; rfl
theorem ee_heft_at {X : Cx} {δ : En} {pos p : Pos} {e e2 e3 : Expr} {k' : Nat} {n : Nat} {cs : List (List Int)} {hs : List Int} {l : Int} (h_e : EE X e δ (bun n cs)) (h_e2 : EE X e2 δ (tI hs)) (h_e3 : EE X e3 δ (.int l)) (s0 : CsOk n cs) (T : Txt X.K X.mg) (hr : Room k' X.A) (hk : 1 ≤ k') (hg : Gl X "heft_at") (q0 : starEach (e :: [e2, e3]) X.env = (false, eval e X.env) :: starEach [e2, e3] X.env) (q1 : starEach (e2 :: [e3]) X.env = (false, eval e2 X.env) :: starEach [e3] X.env) (q2 : starEach (e3 :: []) X.env = (false, eval e3 X.env) :: starEach [] X.env) (hpl : (backTo pos (starEach [e2, e3] X.env)).any (·.1) = false) : EE X (.Call (.Name "heft_at" p) [e, e2, e3] [] pos) δ (.int (IC.heftAt hs cs l)) :=
  ee_callK (ok_heft_at T) (ea_cons q0 h_e (ea_cons q1 h_e2 (ea_cons q2 h_e3 ea_nil))) (⟨n, cs, hs, l, rfl, s0, rfl⟩) hr hk hg q0 hpl (by decide)
local macro_rules | `(tactic| walk_at "call") => `(tactic| (with_reducible apply ee_heft_at) <;> walk_at "any")
end
end KP
namespace KP
open PySem PySem.Spec PyProof.Rows L2 DL
section
variable {P : Program} {w : World} {K : PySem.W.Frag} {mg : Str → Option Value} {base : Heap}
/-! steps -/
local macro_rules | `(tactic| walk_at "vis") => `(tactic| first | exact vis_l (by rfl) | exact vis_c (by rfl) | exact vis_f (by rfl))
local macro_rules | `(tactic| walk_at "vs") => `(tactic| first | rfl | (walk_at "vis") | decide)
local macro_rules | `(tactic| walk_at "mg") => `(tactic| exact z_of (by assumption) (by decide +kernel))
local macro_rules | `(tactic| walk_at "var") => `(tactic| fail)
local macro_rules | `(tactic| walk_at "glo") => `(tactic| first | exact ee_names (by assumption) (by rfl) (by rfl) | exact ee_clauses (by assumption) (by rfl) (by rfl) | exact ee_halvesS (by assumption) (by rfl) (by rfl) | exact ee_clashS (by assumption) (by rfl) (by rfl))
local macro_rules | `(tactic| walk_at "side") => `(tactic| first | assumption | ((with_reducible apply atI_litG); rfl) | ((fail_if_success (with_reducible apply atI_litG)); skip))
local macro_rules | `(tactic| walk_at "call") => `(tactic| fail)
local macro_rules | `(tactic| walk_at "bv") => `(tactic| first
  | (with_reducible apply bv_gB); first
    | (with_reducible exact bv_add) | (with_reducible exact bv_sub) | (with_reducible apply bv_mulS; walk_at "side") | (with_reducible apply bv_divS; walk_at "side") | (with_reducible apply bv_mod; walk_at "side") | (with_reducible apply bv_powS; walk_at "side")
    | (with_reducible apply bv_cat <;> walk_at "side") | (with_reducible apply bv_rep1 <;> walk_at "side") | (with_reducible apply bv_rep <;> walk_at "side") | (with_reducible apply bv_catT <;> walk_at "side")
  | (with_reducible apply bv_gC); first
    | (with_reducible exact bv_lt) | (with_reducible exact bv_le) | (with_reducible exact bv_gt) | (with_reducible exact bv_ge) | (with_reducible exact bv_eqI) | (with_reducible exact bv_neI) | (with_reducible exact bv_eqS) | (with_reducible exact bv_neS) | (with_reducible exact bv_isNone) | (with_reducible exact bv_inT) | (with_reducible exact bv_notin2)
    | (with_reducible apply bv_eqD <;> walk_at "side") | (with_reducible apply bv_neD <;> walk_at "side") | (with_reducible apply bv_inD <;> walk_at "side"))
local macro_rules | `(tactic| walk_at "any") => `(tactic| first
  | (with_reducible apply ee_id); walk_at "go"
  | (with_reducible apply ea_id); first | (with_reducible exact ea_nil) | ((with_reducible apply ea_cons) <;> walk_at "any")
  | (with_reducible apply eb_id); walk_at "gb"
  | (with_reducible apply ew_id); walk_at "gw"
  | (with_reducible apply eo_id); first | (with_reducible exact eo_none) | (apply eo_some; walk_at "go")
  | (with_reducible apply bv_id); walk_at "bv"
  | (fail_if_success (with_reducible apply ee_id)); (fail_if_success (with_reducible apply ea_id)); (fail_if_success (with_reducible apply eb_id)); (fail_if_success (with_reducible apply ew_id)); (fail_if_success (with_reducible apply bv_id)); first
    | (intro _; walk_at "any")
    | rfl | (walk_at "mg") | decide | (intro _; rfl) | (intro _ _; rfl) | (walk_at "side"))
local macro_rules | `(tactic| walk_at "gb") => `(tactic| first
  | (with_reducible apply eb_not); walk_at "gb"
  | (with_reducible apply eb_cmp) <;> walk_at "any"
  | (with_reducible apply EW.eb); walk_at "gw"
  | (apply eb_val) <;> walk_at "any")
local macro_rules | `(tactic| walk_at "gw") => `(tactic| first
  | (with_reducible apply ew_and) <;> walk_at "any"
  | (with_reducible apply ew_or) <;> walk_at "any"
  | (with_reducible apply ew_and1); walk_at "gb"
  | (with_reducible apply ew_or1); walk_at "gb")
local macro_rules | `(tactic| walk_at "go") => `(tactic| first
  | (with_reducible apply ee_nm); first | walk_at "var" | walk_at "glo"
  | (with_reducible apply g_const); first | (with_reducible exact ee_int) | (with_reducible exact ee_str) | (with_reducible exact ee_bl) | (with_reducible exact ee_non)
  | (with_reducible apply g_call); first
    | (with_reducible apply g_call1); first | ((with_reducible apply ee_lenL) <;> walk_at "any") | ((with_reducible apply ee_lenT) <;> walk_at "any") | ((with_reducible apply ee_intIN) <;> walk_at "any") | ((with_reducible apply ee_intBN) <;> walk_at "any") | ((with_reducible apply ee_tupN) <;> walk_at "any") | ((with_reducible apply ee_absN) <;> walk_at "any") | ((with_reducible apply ee_sumN) <;> walk_at "any") | ((with_reducible apply ee_sumTN) <;> walk_at "any") | ((with_reducible apply ee_allN) <;> walk_at "any") | ((with_reducible apply ee_lstN) <;> walk_at "any") | walk_at "call"
    | (with_reducible apply g_call2); first | ((with_reducible apply ee_isInt) <;> walk_at "any") | ((with_reducible apply ee_isBool) <;> walk_at "any") | ((with_reducible apply ee_isTup) <;> walk_at "any") | ((with_reducible apply ee_isStr) <;> walk_at "any") | ((with_reducible apply ee_minN) <;> walk_at "any") | ((with_reducible apply ee_maxN) <;> walk_at "any") | walk_at "call"
    | walk_at "call"
  | ((with_reducible apply ee_bin) <;> walk_at "any")
  | (with_reducible apply g_cmp); first | ((with_reducible apply ee_cmp) <;> walk_at "any") | ((with_reducible apply ee_chain) <;> walk_at "any")
  | (with_reducible apply g_sub); first | ((with_reducible apply ee_slL) <;> walk_at "any") | ((with_reducible apply ee_cell) <;> walk_at "any") | ((with_reducible apply ee_ixT) <;> walk_at "any") | ((with_reducible apply ee_ixL) <;> walk_at "any")
  | (with_reducible apply g_un); first | ((with_reducible apply ee_not); walk_at "go") | (with_reducible exact ee_neg)
  | (with_reducible apply g_bool); first | ((with_reducible apply ee_and) <;> walk_at "any") | ((with_reducible apply ee_or) <;> walk_at "any") | ((with_reducible apply ee_and1) <;> walk_at "any")
  | (with_reducible apply g_if); first | ((with_reducible apply ee_ifI) <;> walk_at "any") | ((with_reducible apply ee_if) <;> walk_at "any")
  | (with_reducible apply g_lst); first | ((with_reducible apply ee_lst0) <;> walk_at "any") | ((with_reducible apply ee_lst1) <;> walk_at "any") | ((with_reducible apply ee_lst2) <;> walk_at "any") | ((with_reducible apply ee_lst3) <;> walk_at "any") | ((with_reducible apply ee_lst4) <;> walk_at "any")
  | (with_reducible apply g_tup); first | ((with_reducible apply ee_tup0) <;> walk_at "any") | ((with_reducible apply ee_tup1) <;> walk_at "any") | ((with_reducible apply ee_tup2) <;> walk_at "any") | ((with_reducible apply ee_tup3) <;> walk_at "any") | ((with_reducible apply ee_tup4) <;> walk_at "any"))
local macro_rules | `(tactic| walk_at "loc") => `(tactic| first | exact .inl (by rfl) | exact .inr (by rfl))
local macro_rules | `(tactic| walk_at "locf") => `(tactic| first | exact .inr (by rfl) | exact .inl (by rfl))
local macro_rules | `(tactic| walk_at "iv") => `(tactic| first
  | ((with_reducible apply iv_tup); walk_at "go") | ((with_reducible apply iv_list); walk_at "go")
  | ((with_reducible apply iv_range) <;> walk_at "any") | ((with_reducible apply iv_range2) <;> walk_at "any")
  | ((with_reducible apply iv_enumL) <;> walk_at "any") | ((with_reducible apply iv_enumT) <;> walk_at "any") | ((with_reducible apply iv_enumT1) <;> walk_at "any")
  | ((with_reducible apply iv_zipL) <;> walk_at "any") | ((with_reducible apply iv_zipT) <;> walk_at "any"))
local macro_rules | `(tactic| walk_at "fm") => `(tactic| ((try rw [filter_tt]); first | rfl | (rw [List.map_map]; done) | (rw [List.map_map]; rfl) | (simp only [lI, tI, List.map_map]; done) | (simp only [lI, tI, List.map_map]; rfl)))
local macro_rules | `(tactic| walk_at "call") => `(tactic| (with_reducible apply ee_is_row) <;> walk_at "any")
local macro_rules | `(tactic| walk_at "call") => `(tactic| (with_reducible apply ee_are_halves_of) <;> walk_at "any")
local macro_rules | `(tactic| walk_at "call") => `(tactic| (with_reducible apply ee_rounded_row) <;> walk_at "any")
local macro_rules | `(tactic| walk_at "call") => `(tactic| (with_reducible apply ee_rounded_rowL) <;> walk_at "any")
local macro_rules | `(tactic| walk_at "call") => `(tactic| (with_reducible apply ee_sign_in) <;> walk_at "any")
local macro_rules | `(tactic| walk_at "call") => `(tactic| (with_reducible apply ee_heft_at) <;> walk_at "any")
local macro_rules | `(tactic| walk_at "call") => `(tactic| (with_reducible apply ee_are_rising) <;> walk_at "any")
local macro_rules | `(tactic| walk_at "call") => `(tactic| (with_reducible apply ee_is_literal) <;> walk_at "any")
local macro_rules | `(tactic| walk_at "call") => `(tactic| (with_reducible apply ee_is_clause) <;> walk_at "any")
local macro_rules | `(tactic| walk_at "call") => `(tactic| (with_reducible apply ee_weight_of) <;> walk_at "any")
local macro_rules | `(tactic| walk_at "call") => `(tactic| (with_reducible apply ee_does_weigh) <;> walk_at "any")
local macro_rules | `(tactic| walk_at "call") => `(tactic| (with_reducible apply ee_is_integer) <;> walk_at "any")
local macro_rules | `(tactic| walk_at "call") => `(tactic| (with_reducible apply ee_is_between) <;> walk_at "any")
def takenTo (cs : List (List Int)) (hs : List Int) (j : Nat) : Int := ((List.range j).map fun v : Nat => IC.minI (IC.heftAt hs cs (1 + (v : Int))) (IC.heftAt hs cs (0 - (1 + (v : Int))))).sum
theorem takenTo_succ {cs : List (List Int)} {hs : List Int} {j : Nat} : takenTo cs hs (j + 1) = takenTo cs hs j + IC.minI (IC.heftAt hs cs (1 + (j : Int))) (IC.heftAt hs cs (0 - (1 + (j : Int)))) := by
  unfold takenTo
  rw [List.range_succ, List.map_append, List.sum_append]
  simp
theorem sc40 : FnScope ["bundle", "thing", "taken", "name", "one"] ["bundle", "thing"] (defScope (top 40)) := ⟨rfl, rfl, rfl, by decide +kernel, rfl, by decide +kernel, by decide +kernel⟩
local macro_rules | `(tactic| walk_at "var") => `(tactic| first | ((with_reducible apply ee_varQ (x := "bundle") (i := 0)) <;> walk_at "vs") | ((with_reducible apply ee_varQ (x := "thing") (i := 1)) <;> walk_at "vs") | ((with_reducible apply ee_varQ (x := "taken") (i := 2)) <;> walk_at "vs") | ((with_reducible apply ee_varQ (x := "name") (i := 3)) <;> walk_at "vs") | ((with_reducible apply ee_varQ (x := "one") (i := 4)) <;> walk_at "vs"))
local macro_rules | `(tactic| walk_at "nd") => `(tactic| exact sc40.nd)
theorem ok_do_clash (T : Txt K mg) : FnD P w K mg base 2 "do_clash" ["bundle", "thing"] (pureD fun xs r => ∃ (n : Nat) (cs : List (List Int)) (hs : List Int), xs = [.d (bun n cs), .d (tI hs)] ∧ CsOk n cs ∧ hs.length = cs.length ∧ (∀ h ∈ hs, 0 ≤ h) ∧ r = .bool (IC.clashes n cs hs)) := by
  refine fnd T 25 rfl rfl sc40 (fun _ _ _ _ _ _ us hl => match us, hl with | [_, _], _ => rfl) (fun xs M Φ h => ?_) (fun a cdv A outer s H E xs M Φ hr h => ?_)
  · obtain ⟨r, ⟨n, cs, hs, rfl, _, _, _, rfl⟩, q⟩ := h
    rfl
  · obtain ⟨r, ⟨n, cs, hs, rfl, hb, hl, hp, rfl⟩, q⟩ := h
    refine ws_cons (w1_ifE (p := false) (EB.to (EW.eb (ew_or (p := false) (r := false) (EB.to (b := !isTup (tI hs)) ?_ rfl) (fun _ => ew_or1 (EB.to (b := !decide (((hs.map PyData.int).length : Int) = ((cs.map tI).length : Int))) ?_ ?_)))) rfl) (fun h => nomatch h) (fun _ => ws_nil ?_))
    · walk_at "gb"
    · walk_at "gb"
    · rw [List.length_map, List.length_map, hl]; simp
    refine ws_cons (w1_ifE (p := false) (EB.to (b := !((hs.map fun _ => true).all id)) (eb_not (eb_val (fun _ => rfl) (ee_allN (EE.to (LC1.ee (own := [("one", 4)]) (i := 4) (xs := hs) (g := PyData.int) (f := fun _ => .bool true) (p := fun _ => true) ?_) ?_) (by rfl) (by rfl) (by walk_at "mg") (by rfl)))) (by rw [all_tt]; rfl)) (fun h => nomatch h) (fun _ => ws_nil ?_))
    · refine ⟨?_, fun s0 H0 C0 cl0 fp0 z0 hz0 => ?_, fun s0 H0 C0 cl0 fp0 z0 hz0 hp0 => ?_, ?_, fun _ => by rfl, blkOk_by (by rfl), fun _ _ _ _ _ => by walk_at "loc", fun _ _ _ _ _ => by walk_at "locf", by rfl, by decide, by walk_at "nd", by rfl⟩
      · walk_at "iv"
      · exact eif_nil
      · refine EE.to (ee_and (p := isInt (.int z0)) (r := true) ?_ (fun _ => ee_and1 (EE.to (d := .bool (decide (0 ≤ z0))) ?_ ?_))) rfl
        · walk_at "any"
        · walk_at "any"
        · rw [decide_eq_true (hp _ hz0)]
      · rw [hl]; exact hb.few
    · walk_at "fm"
    refine ws_cons (w1_setE (i := 2) ee_int ?_ (by walk_at "nd") (by rfl) (by walk_at "loc") (by walk_at "locf") (by rfl))
    refine ws_cons (w1_forN (i := 3) (fun j δ' M' => M' = M ∧ ∃ u, δ' = [some (.d (bun n cs)), some (.d (tI hs)), some (.d (.int (takenTo cs hs j))), u, none]) (iv_range2 (lo := 1) (n := n) (by rfl) (by walk_at "mg") (by rfl) (by rfl) ee_int ?_ (by decide) ?_) ⟨rfl, none, rfl⟩ ?_ ?_ (by walk_at "nd") (by rfl) (by walk_at "loc") (by walk_at "locf") PassesOwn.never (by rfl) (fun _ => by rfl))
    · apply EE.to
      walk_at "any"
      rw [Int.add_comm]
    · have := hb.le; omega
    · rintro j d δ' M' hd ⟨rfl, u, rfl⟩
      obtain ⟨hj, rfl⟩ := range_at hd
      refine ws_cons (w1_setE (i := 2) (d := .int (takenTo cs hs (j + 1))) ?_ (ws_nil ⟨rfl, _, rfl⟩) (by walk_at "nd") (by rfl) (by walk_at "loc") (by walk_at "locf") (by rfl))
      apply EE.to
      walk_at "any"
      rw [takenTo_succ]; rfl
    · rintro δ' M' ⟨rfl, u, rfl⟩
      rw [range_len]
      refine ws_cons (w1_retE ?_ q)
      apply EE.to
      walk_at "any"
      rfl
theorem ee_do_clash {X : Cx} {δ : En} {pos p : Pos} {e e2 : Expr} {k' : Nat} {n : Nat} {cs : List (List Int)} {hs : List Int} (h_e : EE X e δ (bun n cs)) (h_e2 : EE X e2 δ (tI hs)) (s0 : CsOk n cs) (s1 : hs.length = cs.length) (s2 : ∀ h ∈ hs, 0 ≤ h) (T : Txt X.K X.mg) (hr : Room k' X.A) (hk : 2 ≤ k') (hg : Gl X "do_clash") (q0 : starEach (e :: [e2]) X.env = (false, eval e X.env) :: starEach [e2] X.env) (q1 : starEach (e2 :: []) X.env = (false, eval e2 X.env) :: starEach [] X.env) (hpl : (backTo pos (starEach [e2] X.env)).any (·.1) = false) : EE X (.Call (.Name "do_clash" p) [e, e2] [] pos) δ (.bool (IC.clashes n cs hs)) :=
  ee_callK (ok_do_clash T) (ea_cons q0 h_e (ea_cons q1 h_e2 ea_nil)) (⟨n, cs, hs, rfl, s0, s1, s2, rfl⟩) hr hk hg q0 hpl (by decide)
local macro_rules | `(tactic| walk_at "call") => `(tactic| (with_reducible apply ee_do_clash) <;> walk_at "any")
end
end KP
namespace KP
open PySem PySem.Spec PyProof.Rows L2 DL
section
variable {P : Program} {w : World} {K : PySem.W.Frag} {mg : Str → Option Value} {base : Heap}
/-! steps -/
local macro_rules | `(tactic| walk_at "vis") => `(tactic| first | exact vis_l (by rfl) | exact vis_c (by rfl) | exact vis_f (by rfl))
local macro_rules | `(tactic| walk_at "vs") => `(tactic| first | rfl | (walk_at "vis") | decide)
local macro_rules | `(tactic| walk_at "mg") => `(tactic| exact z_of (by assumption) (by decide +kernel))
local macro_rules | `(tactic| walk_at "var") => `(tactic| fail)
local macro_rules | `(tactic| walk_at "glo") => `(tactic| first | exact ee_names (by assumption) (by rfl) (by rfl) | exact ee_clauses (by assumption) (by rfl) (by rfl) | exact ee_halvesS (by assumption) (by rfl) (by rfl) | exact ee_clashS (by assumption) (by rfl) (by rfl))
local macro_rules | `(tactic| walk_at "side") => `(tactic| first | assumption | ((with_reducible apply atI_litG); rfl) | ((fail_if_success (with_reducible apply atI_litG)); skip))
local macro_rules | `(tactic| walk_at "call") => `(tactic| fail)
local macro_rules | `(tactic| walk_at "bv") => `(tactic| first
  | (with_reducible apply bv_gB); first
    | (with_reducible exact bv_add) | (with_reducible exact bv_sub) | (with_reducible apply bv_mulS; walk_at "side") | (with_reducible apply bv_divS; walk_at "side") | (with_reducible apply bv_mod; walk_at "side") | (with_reducible apply bv_powS; walk_at "side")
    | (with_reducible apply bv_cat <;> walk_at "side") | (with_reducible apply bv_rep1 <;> walk_at "side") | (with_reducible apply bv_rep <;> walk_at "side") | (with_reducible apply bv_catT <;> walk_at "side")
  | (with_reducible apply bv_gC); first
    | (with_reducible exact bv_lt) | (with_reducible exact bv_le) | (with_reducible exact bv_gt) | (with_reducible exact bv_ge) | (with_reducible exact bv_eqI) | (with_reducible exact bv_neI) | (with_reducible exact bv_eqS) | (with_reducible exact bv_neS) | (with_reducible exact bv_isNone) | (with_reducible exact bv_inT) | (with_reducible exact bv_notin2)
    | (with_reducible apply bv_eqD <;> walk_at "side") | (with_reducible apply bv_neD <;> walk_at "side") | (with_reducible apply bv_inD <;> walk_at "side"))
local macro_rules | `(tactic| walk_at "any") => `(tactic| first
  | (with_reducible apply ee_id); walk_at "go"
  | (with_reducible apply ea_id); first | (with_reducible exact ea_nil) | ((with_reducible apply ea_cons) <;> walk_at "any")
  | (with_reducible apply eb_id); walk_at "gb"
  | (with_reducible apply ew_id); walk_at "gw"
  | (with_reducible apply eo_id); first | (with_reducible exact eo_none) | (apply eo_some; walk_at "go")
  | (with_reducible apply bv_id); walk_at "bv"
  | (fail_if_success (with_reducible apply ee_id)); (fail_if_success (with_reducible apply ea_id)); (fail_if_success (with_reducible apply eb_id)); (fail_if_success (with_reducible apply ew_id)); (fail_if_success (with_reducible apply bv_id)); first
    | (intro _; walk_at "any")
    | rfl | (walk_at "mg") | decide | (intro _; rfl) | (intro _ _; rfl) | (walk_at "side"))
local macro_rules | `(tactic| walk_at "gb") => `(tactic| first
  | (with_reducible apply eb_not); walk_at "gb"
  | (with_reducible apply eb_cmp) <;> walk_at "any"
  | (with_reducible apply EW.eb); walk_at "gw"
  | (apply eb_val) <;> walk_at "any")
local macro_rules | `(tactic| walk_at "gw") => `(tactic| first
  | (with_reducible apply ew_and) <;> walk_at "any"
  | (with_reducible apply ew_or) <;> walk_at "any"
  | (with_reducible apply ew_and1); walk_at "gb"
  | (with_reducible apply ew_or1); walk_at "gb")
local macro_rules | `(tactic| walk_at "go") => `(tactic| first
  | (with_reducible apply ee_nm); first | walk_at "var" | walk_at "glo"
  | (with_reducible apply g_const); first | (with_reducible exact ee_int) | (with_reducible exact ee_str) | (with_reducible exact ee_bl) | (with_reducible exact ee_non)
  | (with_reducible apply g_call); first
    | (with_reducible apply g_call1); first | ((with_reducible apply ee_lenL) <;> walk_at "any") | ((with_reducible apply ee_lenT) <;> walk_at "any") | ((with_reducible apply ee_intIN) <;> walk_at "any") | ((with_reducible apply ee_intBN) <;> walk_at "any") | ((with_reducible apply ee_tupN) <;> walk_at "any") | ((with_reducible apply ee_absN) <;> walk_at "any") | ((with_reducible apply ee_sumN) <;> walk_at "any") | ((with_reducible apply ee_sumTN) <;> walk_at "any") | ((with_reducible apply ee_allN) <;> walk_at "any") | ((with_reducible apply ee_lstN) <;> walk_at "any") | walk_at "call"
    | (with_reducible apply g_call2); first | ((with_reducible apply ee_isInt) <;> walk_at "any") | ((with_reducible apply ee_isBool) <;> walk_at "any") | ((with_reducible apply ee_isTup) <;> walk_at "any") | ((with_reducible apply ee_isStr) <;> walk_at "any") | ((with_reducible apply ee_minN) <;> walk_at "any") | ((with_reducible apply ee_maxN) <;> walk_at "any") | walk_at "call"
    | walk_at "call"
  | ((with_reducible apply ee_bin) <;> walk_at "any")
  | (with_reducible apply g_cmp); first | ((with_reducible apply ee_cmp) <;> walk_at "any") | ((with_reducible apply ee_chain) <;> walk_at "any")
  | (with_reducible apply g_sub); first | ((with_reducible apply ee_slL) <;> walk_at "any") | ((with_reducible apply ee_cell) <;> walk_at "any") | ((with_reducible apply ee_ixT) <;> walk_at "any") | ((with_reducible apply ee_ixL) <;> walk_at "any")
  | (with_reducible apply g_un); first | ((with_reducible apply ee_not); walk_at "go") | (with_reducible exact ee_neg)
  | (with_reducible apply g_bool); first | ((with_reducible apply ee_and) <;> walk_at "any") | ((with_reducible apply ee_or) <;> walk_at "any") | ((with_reducible apply ee_and1) <;> walk_at "any")
  | (with_reducible apply g_if); first | ((with_reducible apply ee_ifI) <;> walk_at "any") | ((with_reducible apply ee_if) <;> walk_at "any")
  | (with_reducible apply g_lst); first | ((with_reducible apply ee_lst0) <;> walk_at "any") | ((with_reducible apply ee_lst1) <;> walk_at "any") | ((with_reducible apply ee_lst2) <;> walk_at "any") | ((with_reducible apply ee_lst3) <;> walk_at "any") | ((with_reducible apply ee_lst4) <;> walk_at "any")
  | (with_reducible apply g_tup); first | ((with_reducible apply ee_tup0) <;> walk_at "any") | ((with_reducible apply ee_tup1) <;> walk_at "any") | ((with_reducible apply ee_tup2) <;> walk_at "any") | ((with_reducible apply ee_tup3) <;> walk_at "any") | ((with_reducible apply ee_tup4) <;> walk_at "any"))
local macro_rules | `(tactic| walk_at "loc") => `(tactic| first | exact .inl (by rfl) | exact .inr (by rfl))
local macro_rules | `(tactic| walk_at "locf") => `(tactic| first | exact .inr (by rfl) | exact .inl (by rfl))
local macro_rules | `(tactic| walk_at "iv") => `(tactic| first
  | ((with_reducible apply iv_tup); walk_at "go") | ((with_reducible apply iv_list); walk_at "go")
  | ((with_reducible apply iv_range) <;> walk_at "any") | ((with_reducible apply iv_range2) <;> walk_at "any")
  | ((with_reducible apply iv_enumL) <;> walk_at "any") | ((with_reducible apply iv_enumT) <;> walk_at "any") | ((with_reducible apply iv_enumT1) <;> walk_at "any")
  | ((with_reducible apply iv_zipL) <;> walk_at "any") | ((with_reducible apply iv_zipT) <;> walk_at "any"))
local macro_rules | `(tactic| walk_at "fm") => `(tactic| ((try rw [filter_tt]); first | rfl | (rw [List.map_map]; done) | (rw [List.map_map]; rfl) | (simp only [lI, tI, List.map_map]; done) | (simp only [lI, tI, List.map_map]; rfl)))
local macro_rules | `(tactic| walk_at "call") => `(tactic| (with_reducible apply ee_do_clash) <;> walk_at "any")
local macro_rules | `(tactic| walk_at "call") => `(tactic| (with_reducible apply ee_is_row) <;> walk_at "any")
local macro_rules | `(tactic| walk_at "call") => `(tactic| (with_reducible apply ee_are_halves_of) <;> walk_at "any")
local macro_rules | `(tactic| walk_at "call") => `(tactic| (with_reducible apply ee_rounded_row) <;> walk_at "any")
local macro_rules | `(tactic| walk_at "call") => `(tactic| (with_reducible apply ee_rounded_rowL) <;> walk_at "any")
local macro_rules | `(tactic| walk_at "call") => `(tactic| (with_reducible apply ee_sign_in) <;> walk_at "any")
local macro_rules | `(tactic| walk_at "call") => `(tactic| (with_reducible apply ee_heft_at) <;> walk_at "any")
local macro_rules | `(tactic| walk_at "call") => `(tactic| (with_reducible apply ee_are_rising) <;> walk_at "any")
local macro_rules | `(tactic| walk_at "call") => `(tactic| (with_reducible apply ee_is_literal) <;> walk_at "any")
local macro_rules | `(tactic| walk_at "call") => `(tactic| (with_reducible apply ee_is_clause) <;> walk_at "any")
local macro_rules | `(tactic| walk_at "call") => `(tactic| (with_reducible apply ee_weight_of) <;> walk_at "any")
local macro_rules | `(tactic| walk_at "call") => `(tactic| (with_reducible apply ee_does_weigh) <;> walk_at "any")
local macro_rules | `(tactic| walk_at "call") => `(tactic| (with_reducible apply ee_is_integer) <;> walk_at "any")
local macro_rules | `(tactic| walk_at "call") => `(tactic| (with_reducible apply ee_is_between) <;> walk_at "any")
abbrev nI (k : Nat) : PyData := .int (k : Int)
theorem TV.mono {X : Cx} {e : Expr} {δ : En} {M : Mu} {Φ Φ' : Bool → Mu → Prop} (h : TV X e δ M Φ) (m : ∀ b M', Φ b M' → Φ' b M') : TV X e δ M Φ' := fun σ G H sd sat Q k => h σ G H sd sat Q fun b M' G' H' q => k b M' G' H' (m b M' q)
theorem range0 {n : Nat} : rangeD 0 n = (List.range n).map nI := by
  unfold rangeD
  exact List.map_congr_left fun i _ => by rw [Int.zero_add]
theorem take_one {α : Type} {l : List α} {j : Nat} {d : α} (h : j < l.length) : l.take (j + 1) = l.take j ++ [l.getD j d] := by
  rw [List.take_add_one, List.getElem?_eq_getElem h, List.getD_eq_getElem?_getD, List.getElem?_eq_getElem h]; rfl
theorem zipIdx_lI {T : List (List Int)} : (T.map lI).zipIdx = T.zipIdx.map fun q => (lI q.1, q.2) := by
  rw [List.zipIdx_map]; rfl
theorem enum_at {T : List (List Int)} {j : Nat} {d e : PyData} (h : (T.zipIdx.map fun q => (nI q.2, lI q.1))[j]? = some (d, e)) : j < T.length ∧ d = nI j ∧ e = lI (T.getD j []) := by
  rw [List.getElem?_map, List.getElem?_zipIdx] at h
  by_cases hj : j < T.length
  · rw [List.getElem?_eq_getElem hj] at h
    have h := Option.some.inj h
    refine ⟨hj, ?_, ?_⟩
    · exact (Prod.mk.inj h).1.symm.trans (by show nI (0 + j) = nI j; rw [Nat.zero_add])
    · exact (Prod.mk.inj h).2.symm.trans (by rw [List.getD_eq_getElem?_getD, List.getElem?_eq_getElem hj]; rfl)
  · rw [List.getElem?_eq_none (by omega)] at h; cases h
/-- what a table must be to be turned -/
structure TabOk (T : List (List Int)) (many v : Nat) : Prop where
  shape : IC.Shape T many v
  few : many ≤ 1000
  wide : v ≤ 1000
  sml : ∀ i j, i ≤ many → j ≤ v → sml (IC.ent T i j)
theorem TabOk.len {T : List (List Int)} {many v : Nat} (h : TabOk T many v) : T.length = many + 1 := h.shape.len
theorem TabOk.row {T : List (List Int)} {many v : Nat} (h : TabOk T many v) {i : Nat} (hi : i ≤ many) : (T.getD i []).length = v + 1 := h.shape.at hi
theorem sml_sum {a b : Int} (ha : sml a) (hb : sml b) : a.natAbs.log2 + b.natAbs.log2 < 1000000 := by unfold sml at ha hb; omega
theorem zip_lI {a b : List Int} : zipD (a.map PyData.int) (b.map PyData.int) = (a.zip b).map fun z => .tuple [.int z.1, .int z.2] := zip_map2
theorem zipWith_zip {a b : List Int} {f : Int → Int → Int} : (a.zip b).map (fun z => PyData.int (f z.1 z.2)) = (List.zipWith f a b).map PyData.int := by
  rw [List.zip_eq_zipWith, List.map_zipWith, List.map_zipWith]
theorem mem_getD {l : List Int} {x : Int} (h : x ∈ l) : ∃ j, j < l.length ∧ x = l.getD j 0 := by
  obtain ⟨j, hj, e⟩ := List.mem_iff_getElem.mp h
  exact ⟨j, hj, by rw [List.getD_eq_getElem?_getD, List.getElem?_eq_getElem hj, ← e]; rfl⟩
theorem sc18 : FnScope ["table", "measure", "spot", "column", "entry", "found", "number", "row", "one", "other"] ["table", "measure", "spot", "column"] (defScope (top 18)) := ⟨rfl, rfl, rfl, by decide +kernel, rfl, by decide +kernel, by decide +kernel⟩
local macro_rules | `(tactic| walk_at "var") => `(tactic| first | ((with_reducible apply ee_varQ (x := "table") (i := 0)) <;> walk_at "vs") | ((with_reducible apply ee_varQ (x := "measure") (i := 1)) <;> walk_at "vs") | ((with_reducible apply ee_varQ (x := "spot") (i := 2)) <;> walk_at "vs") | ((with_reducible apply ee_varQ (x := "column") (i := 3)) <;> walk_at "vs") | ((with_reducible apply ee_varQ (x := "entry") (i := 4)) <;> walk_at "vs") | ((with_reducible apply ee_varQ (x := "found") (i := 5)) <;> walk_at "vs") | ((with_reducible apply ee_varQ (x := "number") (i := 6)) <;> walk_at "vs") | ((with_reducible apply ee_varQ (x := "row") (i := 7)) <;> walk_at "vs") | ((with_reducible apply ee_varQ (x := "one") (i := 8)) <;> walk_at "vs") | ((with_reducible apply ee_varQ (x := "other") (i := 9)) <;> walk_at "vs"))
local macro_rules | `(tactic| walk_at "nd") => `(tactic| exact sc18.nd)
theorem ok_turned_table (T : Txt K mg) : FnD P w K mg base 1 "turned_table" ["table", "measure", "spot", "column"] (pureD fun xs r => ∃ (T : List (List Int)) (m : Int) (c1 c2 many v : Nat), xs = [.d (.list (T.map lI)), .d (.int m), .d (nI c1), .d (nI c2)] ∧ TabOk T many v ∧ c1 ≤ many ∧ c2 ≤ v ∧ 0 < m ∧ sml m ∧ r = .list ((IC.turnedT T m c1 c2).map lI)) := by
  refine fnd T 7 rfl rfl sc18 (fun _ _ _ _ _ _ us hl => match us, hl with | [_, _, _, _], _ => rfl) (fun xs M Φ h => ?_) (fun a cdv A outer s H E xs M Φ hr h => ?_)
  · obtain ⟨r, ⟨T, m, c1, c2, many, v, rfl, _, _, _, _, _, rfl⟩, q⟩ := h
    rfl
  · obtain ⟨r, ⟨T', m, c1, c2, many, v, rfl, hT, h1, h2, hm, hs, rfl⟩, q⟩ := h
    have hl := hT.len
    refine ws_cons (w1_asgTT (is := [4, 5]) (by rfl) (gn_cons (by walk_at "nd") (by rfl) (by walk_at "loc") (by walk_at "locf") (gn_cons (by walk_at "nd") (by rfl) (by walk_at "loc") (by walk_at "locf") gn_nil (by rfl)) (by rfl)) (by rfl) (by rfl) (by rfl) (by rfl) (by rfl) (by decide) ?_)
    refine av_cons (by rfl) (EE.ev (d := .int (IC.ent T' c1 c2)) ?_ ?_)
    · walk_at "any"
      · exact at_nat (d := []) (by omega)
      · exact at_nat (d := (0 : Int)) (by rw [hT.row h1]; omega)
    refine av_cons (by rfl) (ev_lstM (ds := []) ea_nil (by decide) fun f hf => ea_nil _ _ ⟨rfl, ?_⟩)
    refine ws_cons (w1_forT (i := 6) (l := 7) (ds := T'.zipIdx.map fun q => (nI q.2, lI q.1)) (fun j δ' M' => M' = mup M f (.lst (((IC.turnedT T' m c1 c2).take j).map lI)) ∧ ∃ u1 u2, δ' = [some (.d (.list (T'.map lI))), some (.d (.int m)), some (.d (nI c1)), some (.d (nI c2)), some (.d (.int (IC.ent T' c1 c2))), some (.m f), u1, u2, none, none]) ?_ ⟨rfl, none, none, rfl⟩ ?_ ?_ (by walk_at "nd") (by rfl) (by rfl) (by walk_at "loc") (by walk_at "locf") (by walk_at "loc") (by walk_at "locf") PassesOwn.never (by rfl) (fun _ => by rfl))
    · apply IV.to
      walk_at "iv"
      rw [zipIdx_lI, List.map_map, List.map_map]; rfl
    · rintro j d e δ' M' hd ⟨rfl, u1, u2, rfl⟩
      obtain ⟨hj, rfl, rfl⟩ := enum_at hd
      have hj' : j ≤ many := by omega
      have htl : j < (IC.turnedT T' m c1 c2).length := by rw [(IC.turnedT_shape hT.shape h1).len]; omega
      have fin : ∀ row, (IC.turnedT T' m c1 c2).getD j [] = row → mup (mup M f (.lst (((IC.turnedT T' m c1 c2).take j).map lI))) f (.lst (((IC.turnedT T' m c1 c2).take j).map lI ++ [lI row])) = mup M f (.lst (((IC.turnedT T' m c1 c2).take (j + 1)).map lI)) := fun row e => by
        rw [mup_mup, take_one (d := []) htl, List.map_append, e]; rfl
      have hlen : (((IC.turnedT T' m c1 c2).take j).map lI).length < 100000 := by
        rw [List.length_map, List.length_take]
        have := hT.few
        omega
      refine ws_cons (w1_ifE (p := decide ((j : Int) = (c1 : Int))) ?_ (fun h => ?_) (fun h => ?_))
      · walk_at "gb"
      · have h := of_decide_eq_true h
        have h : j = c1 := by omega
        refine ws_cons (w1_app (i := 5) (a := f) (by rfl) (by walk_at "vis") (by rfl) mup_same (by rfl) (by rfl) (by rfl) (by rfl) (by rfl) (by rfl) (EE.ev (d := lI (T'.getD j [])) ?_ ⟨_, _, rfl, mup_same, hlen, ws_nil (ws_nil ⟨fin _ ?_, _, _, rfl⟩)⟩))
        · walk_at "any"
        · rw [IC.turnedT_at hT.shape hj', if_pos h]
      · have h := of_decide_eq_false h
        have h : ¬ j = c1 := by omega
        refine ws_cons (w1_app (i := 5) (a := f) (by rfl) (by walk_at "vis") (by rfl) mup_same (by rfl) (by rfl) (by rfl) (by rfl) (by rfl) (by rfl) (EE.ev (d := lI (List.zipWith (fun one other => (one * IC.ent T' c1 c2 - (T'.getD j []).getD c2 0 * other) / m) (T'.getD j []) (T'.getD c1 []))) (EE.to (LC2.ee (own := [("one", 8), ("other", 9)]) (i := 8) (j := 9) (xs := (T'.getD j []).zip (T'.getD c1 [])) (g := fun z => .int z.1) (g2 := fun z => .int z.2) (f := fun z => .int ((z.1 * IC.ent T' c1 c2 - (T'.getD j []).getD c2 0 * z.2) / m)) (p := fun _ => true) ?_) ?_) ⟨_, _, rfl, mup_same, hlen, ws_nil (ws_nil ⟨fin _ ?_, _, _, rfl⟩)⟩))
        · refine ⟨?_, fun s0 H0 C0 cl0 fp0 z0 hz0 => ?_, fun s0 H0 C0 cl0 fp0 z0 hz0 hp0 => ?_, ?_, fun _ => by rfl, blkOk_by (by rfl), fun _ _ _ _ _ => by walk_at "loc", fun _ _ _ _ _ => by walk_at "locf", fun _ _ _ _ _ => by walk_at "loc", fun _ _ _ _ _ => by walk_at "locf", by rfl, by rfl, by decide, by decide, by walk_at "nd", by rfl⟩
          · apply IV.to
            walk_at "iv"
            · exact at_nat (d := []) (by omega)
            exact zip_lI
          · exact eif_nil
          · obtain ⟨q1, q2⟩ := List.of_mem_zip hz0
            obtain ⟨j1, l1, e1⟩ := mem_getD q1
            obtain ⟨j2, l2, e2⟩ := mem_getD q2
            rw [hT.row hj'] at l1
            rw [hT.row h1] at l2
            have b1 : sml z0.1 := by rw [e1]; exact hT.sml j j1 hj' (by omega)
            have b2 : sml z0.2 := by rw [e2]; exact hT.sml c1 j2 h1 (by omega)
            walk_at "any"
            · exact sml_sum b1 (hT.sml c1 c2 h1 h2)
            · exact at_nat (d := (0 : Int)) (by rw [hT.row hj']; omega)
            · exact sml_sum (hT.sml j c2 hj' h2) b2
            · exact ⟨hm, hs⟩
          · rw [List.length_zip, hT.row hj']
            have := hT.wide
            omega
        · rw [filter_tt]; exact congrArg PyData.list (zipWith_zip (f := fun one other => (one * IC.ent T' c1 c2 - (T'.getD j []).getD c2 0 * other) / m))
        · rw [IC.turnedT_at hT.shape hj', if_neg h]
    · rintro δ' M' ⟨rfl, u1, u2, rfl⟩
      refine ws_freeze 5 rfl mup_same ?_
      rw [mdel_mup hf]
      refine ws_cons (w1_retE ?_ q)
      apply EE.to
      walk_at "any"
      rw [List.length_map, List.length_zipIdx, List.take_of_length_le (by rw [(IC.turnedT_shape hT.shape h1).len, hl]; exact Nat.le_refl _)]
theorem ee_turned_table {X : Cx} {δ : En} {pos p : Pos} {e e2 e3 e4 : Expr} {k' : Nat} {T' : List (List Int)} {m : Int} {c1 c2 many v : Nat} (h_e : EE X e δ (.list (T'.map lI))) (h_e2 : EE X e2 δ (.int m)) (h_e3 : EE X e3 δ (nI c1)) (h_e4 : EE X e4 δ (nI c2)) (s0 : TabOk T' many v) (s1 : c1 ≤ many) (s2 : c2 ≤ v) (s3 : 0 < m) (s4 : sml m) (T : Txt X.K X.mg) (hr : Room k' X.A) (hk : 1 ≤ k') (hg : Gl X "turned_table") (q0 : starEach (e :: [e2, e3, e4]) X.env = (false, eval e X.env) :: starEach [e2, e3, e4] X.env) (q1 : starEach (e2 :: [e3, e4]) X.env = (false, eval e2 X.env) :: starEach [e3, e4] X.env) (q2 : starEach (e3 :: [e4]) X.env = (false, eval e3 X.env) :: starEach [e4] X.env) (q3 : starEach (e4 :: []) X.env = (false, eval e4 X.env) :: starEach [] X.env) (hpl : (backTo pos (starEach [e2, e3, e4] X.env)).any (·.1) = false) : EE X (.Call (.Name "turned_table" p) [e, e2, e3, e4] [] pos) δ (.list ((IC.turnedT T' m c1 c2).map lI)) :=
  ee_callK (ok_turned_table T) (ea_cons q0 h_e (ea_cons q1 h_e2 (ea_cons q2 h_e3 (ea_cons q3 h_e4 ea_nil)))) (⟨T', m, c1, c2, many, v, rfl, s0, s1, s2, s3, s4, rfl⟩) hr hk hg q0 hpl (by decide)
local macro_rules | `(tactic| walk_at "call") => `(tactic| (with_reducible apply ee_turned_table) <;> walk_at "any")
end
end KP
namespace KP
open PySem PySem.Spec PyProof.Rows L2 DL
section
variable {P : Program} {w : World} {K : PySem.W.Frag} {mg : Str → Option Value} {base : Heap}
/-! steps -/
local macro_rules | `(tactic| walk_at "vis") => `(tactic| first | exact vis_l (by rfl) | exact vis_c (by rfl) | exact vis_f (by rfl))
local macro_rules | `(tactic| walk_at "vs") => `(tactic| first | rfl | (walk_at "vis") | decide)
local macro_rules | `(tactic| walk_at "mg") => `(tactic| exact z_of (by assumption) (by decide +kernel))
local macro_rules | `(tactic| walk_at "var") => `(tactic| fail)
local macro_rules | `(tactic| walk_at "glo") => `(tactic| first | exact ee_names (by assumption) (by rfl) (by rfl) | exact ee_clauses (by assumption) (by rfl) (by rfl) | exact ee_halvesS (by assumption) (by rfl) (by rfl) | exact ee_clashS (by assumption) (by rfl) (by rfl))
local macro_rules | `(tactic| walk_at "side") => `(tactic| first | assumption | ((with_reducible apply atI_litG); rfl) | ((fail_if_success (with_reducible apply atI_litG)); skip))
local macro_rules | `(tactic| walk_at "call") => `(tactic| fail)
local macro_rules | `(tactic| walk_at "bv") => `(tactic| first
  | (with_reducible apply bv_gB); first
    | (with_reducible exact bv_add) | (with_reducible exact bv_sub) | (with_reducible apply bv_mulS; walk_at "side") | (with_reducible apply bv_divS; walk_at "side") | (with_reducible apply bv_mod; walk_at "side") | (with_reducible apply bv_powS; walk_at "side")
    | (with_reducible apply bv_cat <;> walk_at "side") | (with_reducible apply bv_rep1 <;> walk_at "side") | (with_reducible apply bv_rep <;> walk_at "side") | (with_reducible apply bv_catT <;> walk_at "side")
  | (with_reducible apply bv_gC); first
    | (with_reducible exact bv_lt) | (with_reducible exact bv_le) | (with_reducible exact bv_gt) | (with_reducible exact bv_ge) | (with_reducible exact bv_eqI) | (with_reducible exact bv_neI) | (with_reducible exact bv_eqS) | (with_reducible exact bv_neS) | (with_reducible exact bv_isNone) | (with_reducible exact bv_inT) | (with_reducible exact bv_notin2)
    | (with_reducible apply bv_eqD <;> walk_at "side") | (with_reducible apply bv_neD <;> walk_at "side") | (with_reducible apply bv_inD <;> walk_at "side"))
local macro_rules | `(tactic| walk_at "any") => `(tactic| first
  | (with_reducible apply ee_id); walk_at "go"
  | (with_reducible apply ea_id); first | (with_reducible exact ea_nil) | ((with_reducible apply ea_cons) <;> walk_at "any")
  | (with_reducible apply eb_id); walk_at "gb"
  | (with_reducible apply ew_id); walk_at "gw"
  | (with_reducible apply eo_id); first | (with_reducible exact eo_none) | (apply eo_some; walk_at "go")
  | (with_reducible apply bv_id); walk_at "bv"
  | (fail_if_success (with_reducible apply ee_id)); (fail_if_success (with_reducible apply ea_id)); (fail_if_success (with_reducible apply eb_id)); (fail_if_success (with_reducible apply ew_id)); (fail_if_success (with_reducible apply bv_id)); first
    | (intro _; walk_at "any")
    | rfl | (walk_at "mg") | decide | (intro _; rfl) | (intro _ _; rfl) | (walk_at "side"))
local macro_rules | `(tactic| walk_at "gb") => `(tactic| first
  | (with_reducible apply eb_not); walk_at "gb"
  | (with_reducible apply eb_cmp) <;> walk_at "any"
  | (with_reducible apply EW.eb); walk_at "gw"
  | (apply eb_val) <;> walk_at "any")
local macro_rules | `(tactic| walk_at "gw") => `(tactic| first
  | (with_reducible apply ew_and) <;> walk_at "any"
  | (with_reducible apply ew_or) <;> walk_at "any"
  | (with_reducible apply ew_and1); walk_at "gb"
  | (with_reducible apply ew_or1); walk_at "gb")
local macro_rules | `(tactic| walk_at "go") => `(tactic| first
  | (with_reducible apply ee_nm); first | walk_at "var" | walk_at "glo"
  | (with_reducible apply g_const); first | (with_reducible exact ee_int) | (with_reducible exact ee_str) | (with_reducible exact ee_bl) | (with_reducible exact ee_non)
  | (with_reducible apply g_call); first
    | (with_reducible apply g_call1); first | ((with_reducible apply ee_lenL) <;> walk_at "any") | ((with_reducible apply ee_lenT) <;> walk_at "any") | ((with_reducible apply ee_intIN) <;> walk_at "any") | ((with_reducible apply ee_intBN) <;> walk_at "any") | ((with_reducible apply ee_tupN) <;> walk_at "any") | ((with_reducible apply ee_absN) <;> walk_at "any") | ((with_reducible apply ee_sumN) <;> walk_at "any") | ((with_reducible apply ee_sumTN) <;> walk_at "any") | ((with_reducible apply ee_allN) <;> walk_at "any") | ((with_reducible apply ee_lstN) <;> walk_at "any") | walk_at "call"
    | (with_reducible apply g_call2); first | ((with_reducible apply ee_isInt) <;> walk_at "any") | ((with_reducible apply ee_isBool) <;> walk_at "any") | ((with_reducible apply ee_isTup) <;> walk_at "any") | ((with_reducible apply ee_isStr) <;> walk_at "any") | ((with_reducible apply ee_minN) <;> walk_at "any") | ((with_reducible apply ee_maxN) <;> walk_at "any") | walk_at "call"
    | walk_at "call"
  | ((with_reducible apply ee_bin) <;> walk_at "any")
  | (with_reducible apply g_cmp); first | ((with_reducible apply ee_cmp) <;> walk_at "any") | ((with_reducible apply ee_chain) <;> walk_at "any")
  | (with_reducible apply g_sub); first | ((with_reducible apply ee_slL) <;> walk_at "any") | ((with_reducible apply ee_cell) <;> walk_at "any") | ((with_reducible apply ee_ixT) <;> walk_at "any") | ((with_reducible apply ee_ixL) <;> walk_at "any")
  | (with_reducible apply g_un); first | ((with_reducible apply ee_not); walk_at "go") | (with_reducible exact ee_neg)
  | (with_reducible apply g_bool); first | ((with_reducible apply ee_and) <;> walk_at "any") | ((with_reducible apply ee_or) <;> walk_at "any") | ((with_reducible apply ee_and1) <;> walk_at "any")
  | (with_reducible apply g_if); first | ((with_reducible apply ee_ifI) <;> walk_at "any") | ((with_reducible apply ee_if) <;> walk_at "any")
  | (with_reducible apply g_lst); first | ((with_reducible apply ee_lst0) <;> walk_at "any") | ((with_reducible apply ee_lst1) <;> walk_at "any") | ((with_reducible apply ee_lst2) <;> walk_at "any") | ((with_reducible apply ee_lst3) <;> walk_at "any") | ((with_reducible apply ee_lst4) <;> walk_at "any")
  | (with_reducible apply g_tup); first | ((with_reducible apply ee_tup0) <;> walk_at "any") | ((with_reducible apply ee_tup1) <;> walk_at "any") | ((with_reducible apply ee_tup2) <;> walk_at "any") | ((with_reducible apply ee_tup3) <;> walk_at "any") | ((with_reducible apply ee_tup4) <;> walk_at "any"))
local macro_rules | `(tactic| walk_at "loc") => `(tactic| first | exact .inl (by rfl) | exact .inr (by rfl))
local macro_rules | `(tactic| walk_at "locf") => `(tactic| first | exact .inr (by rfl) | exact .inl (by rfl))
local macro_rules | `(tactic| walk_at "iv") => `(tactic| first
  | ((with_reducible apply iv_tup); walk_at "go") | ((with_reducible apply iv_list); walk_at "go")
  | ((with_reducible apply iv_range) <;> walk_at "any") | ((with_reducible apply iv_range2) <;> walk_at "any")
  | ((with_reducible apply iv_enumL) <;> walk_at "any") | ((with_reducible apply iv_enumT) <;> walk_at "any") | ((with_reducible apply iv_enumT1) <;> walk_at "any")
  | ((with_reducible apply iv_zipL) <;> walk_at "any") | ((with_reducible apply iv_zipT) <;> walk_at "any"))
local macro_rules | `(tactic| walk_at "fm") => `(tactic| ((try rw [filter_tt]); first | rfl | (rw [List.map_map]; done) | (rw [List.map_map]; rfl) | (simp only [lI, tI, List.map_map]; done) | (simp only [lI, tI, List.map_map]; rfl)))
local macro_rules | `(tactic| walk_at "call") => `(tactic| (with_reducible apply ee_turned_table) <;> walk_at "any")
local macro_rules | `(tactic| walk_at "call") => `(tactic| (with_reducible apply ee_do_clash) <;> walk_at "any")
local macro_rules | `(tactic| walk_at "call") => `(tactic| (with_reducible apply ee_is_row) <;> walk_at "any")
local macro_rules | `(tactic| walk_at "call") => `(tactic| (with_reducible apply ee_are_halves_of) <;> walk_at "any")
local macro_rules | `(tactic| walk_at "call") => `(tactic| (with_reducible apply ee_rounded_row) <;> walk_at "any")
local macro_rules | `(tactic| walk_at "call") => `(tactic| (with_reducible apply ee_rounded_rowL) <;> walk_at "any")
local macro_rules | `(tactic| walk_at "call") => `(tactic| (with_reducible apply ee_sign_in) <;> walk_at "any")
local macro_rules | `(tactic| walk_at "call") => `(tactic| (with_reducible apply ee_heft_at) <;> walk_at "any")
local macro_rules | `(tactic| walk_at "call") => `(tactic| (with_reducible apply ee_are_rising) <;> walk_at "any")
local macro_rules | `(tactic| walk_at "call") => `(tactic| (with_reducible apply ee_is_literal) <;> walk_at "any")
local macro_rules | `(tactic| walk_at "call") => `(tactic| (with_reducible apply ee_is_clause) <;> walk_at "any")
local macro_rules | `(tactic| walk_at "call") => `(tactic| (with_reducible apply ee_weight_of) <;> walk_at "any")
local macro_rules | `(tactic| walk_at "call") => `(tactic| (with_reducible apply ee_does_weigh) <;> walk_at "any")
local macro_rules | `(tactic| walk_at "call") => `(tactic| (with_reducible apply ee_is_integer) <;> walk_at "any")
local macro_rules | `(tactic| walk_at "call") => `(tactic| (with_reducible apply ee_is_between) <;> walk_at "any")
theorem atB_lt {base : List Nat} {k : Nat} (h : k < base.length) : atI (base.map nI) (k : Int) = some (nI (IC.atB base k)) := at_nat (d := 0) h
def bestAt (T : List (List Int)) (base spots : List Nat) (c j : Nat) : Nat := (spots.tail.take j).foldl (fun best spot => if IC.ahead T base c best spot = true then spot else best) (spots.getD 0 0)
theorem bestAt_succ {T : List (List Int)} {base spots : List Nat} {c j : Nat} (h : j < spots.tail.length) : bestAt T base spots c (j + 1) = if IC.ahead T base c (bestAt T base spots c j) (spots.tail.getD j 0) = true then spots.tail.getD j 0 else bestAt T base spots c j := by
  unfold bestAt
  rw [take_one (d := 0) h, List.foldl_append]; rfl
theorem bestAt_mem {T : List (List Int)} {base spots : List Nat} {c many : Nat} (hn : spots ≠ []) (hs : ∀ x ∈ spots, x < many) : ∀ j, j ≤ spots.tail.length → bestAt T base spots c j < many
  | 0, _ => by
    have : 0 < spots.length := List.length_pos_iff.mpr hn
    refine hs _ ?_
    show spots.getD 0 0 ∈ spots
    rw [List.getD_eq_getElem?_getD, List.getElem?_eq_getElem this]
    exact List.getElem_mem _
  | j + 1, h => by
    rw [bestAt_succ (by omega)]
    split
    · refine hs _ (List.mem_of_mem_tail ?_)
      rw [List.getD_eq_getElem?_getD, List.getElem?_eq_getElem (by omega)]
      exact List.getElem_mem _
    · exact bestAt_mem hn hs j (by omega)
def firstBoundD : DS := fun xs M Φ => ∃ (T : List (List Int)) (bs spots : List Nat) (c many v : Nat) (ab : Addr), xs = [.d (.list (T.map lI)), .m ab, .d (.list (spots.map nI)), .d (nI c)] ∧ M ab = some (.lst (bs.map nI)) ∧ TabOk T many v ∧ bs.length = many ∧ spots ≠ [] ∧ (∀ x ∈ spots, x < many) ∧ spots.length ≤ 1000 ∧ c ≤ v ∧ Φ (.d (nI (IC.firstB T bs spots c))) M
theorem sc19 : FnScope ["table", "base", "spots", "column", "best", "spot", "one", "other"] ["table", "base", "spots", "column"] (defScope (top 19)) := ⟨rfl, rfl, rfl, by decide +kernel, rfl, by decide +kernel, by decide +kernel⟩
local macro_rules | `(tactic| walk_at "var") => `(tactic| first | ((with_reducible apply ee_varQ (x := "table") (i := 0)) <;> walk_at "vs") | ((with_reducible apply ee_varQ (x := "base") (i := 1)) <;> walk_at "vs") | ((with_reducible apply ee_varQ (x := "spots") (i := 2)) <;> walk_at "vs") | ((with_reducible apply ee_varQ (x := "column") (i := 3)) <;> walk_at "vs") | ((with_reducible apply ee_varQ (x := "best") (i := 4)) <;> walk_at "vs") | ((with_reducible apply ee_varQ (x := "spot") (i := 5)) <;> walk_at "vs") | ((with_reducible apply ee_varQ (x := "one") (i := 6)) <;> walk_at "vs") | ((with_reducible apply ee_varQ (x := "other") (i := 7)) <;> walk_at "vs"))
local macro_rules | `(tactic| walk_at "nd") => `(tactic| exact sc19.nd)
theorem ok_first_bound (T : Txt K mg) : FnD P w K mg base 1 "first_bound" ["table", "base", "spots", "column"] firstBoundD := by
  refine fnd T 8 rfl rfl sc19 (fun _ _ _ _ _ _ us hl => match us, hl with | [_, _, _, _], _ => rfl) (fun xs M Φ h => ?_) (fun a cdv A outer s H E xs M Φ hr h => ?_)
  · obtain ⟨_, _, _, _, _, _, _, rfl, _⟩ := h
    rfl
  · obtain ⟨T', bs, spots, c, many, v, ab, rfl, hM, hT, hbl, hn, hs, h1000, hc, q⟩ := h
    have hl := hT.len
    have hpos : 0 < spots.length := List.length_pos_iff.mpr hn
    refine ws_cons (w1_setE (i := 4) (d := nI (spots.getD 0 0)) ?_ ?_ (by walk_at "nd") (by rfl) (by walk_at "loc") (by walk_at "locf") (by rfl))
    · walk_at "any"
      exact at_nat (k := 0) (d := 0) hpos
    refine ws_cons (w1_forN (i := 5) (fun j δ' M' => M' = M ∧ ∃ u1 u2 u3, δ' = [some (.d (.list (T'.map lI))), some (.m ab), some (.d (.list (spots.map nI))), some (.d (nI c)), some (.d (nI (bestAt T' bs spots c j))), u1, u2, u3]) (ds := spots.tail.map nI) ?_ ⟨rfl, none, none, none, rfl⟩ ?_ ?_ (by walk_at "nd") (by rfl) (by walk_at "loc") (by walk_at "locf") PassesOwn.never (by rfl) (fun _ => by rfl))
    · apply IV.to
      walk_at "iv"
      have e := cut_from (ds := spots.map nI) (k := 1)
      rw [List.map_tail, ← List.drop_one]; exact e
    · rintro j d δ' M' hd ⟨rfl, u1, u2, u3, rfl⟩
      have hj : j < spots.tail.length := by
        have := (List.getElem?_eq_some_iff.mp hd).1
        rwa [List.length_map] at this
      have hd' : d = nI (spots.tail.getD j 0) := by
        rw [List.getElem?_map, List.getElem?_eq_getElem hj] at hd
        rw [List.getD_eq_getElem?_getD, List.getElem?_eq_getElem hj]
        exact (Option.some.inj hd).symm
      subst hd'
      have hbest : bestAt T' bs spots c j < many := bestAt_mem hn hs j (by omega)
      have hspot : spots.tail.getD j 0 < many := hs _ (List.mem_of_mem_tail (by
        rw [List.getD_eq_getElem?_getD, List.getElem?_eq_getElem hj]
        exact List.getElem_mem _))
      have hsucc := bestAt_succ (T := T') (base := bs) (c := c) hj
      generalize spots.tail.getD j 0 = spot at hspot hsucc
      generalize bestAt T' bs spots c j = best at hbest hsucc
      have r1 : ∀ i, i < many → (T'.getD i []) ≠ [] := fun i hi e => by
        have := hT.row (i := i) (by omega)
        rw [e] at this; cases this
      have lst : ∀ i, i < many → sml ((T'.getD i []).getLastD 0) := fun i hi => by
        rw [hT.shape.last (by omega)]; exact hT.sml i v (by omega) (Nat.le_refl _)
      refine ws_cons (w1_par (i := 6) (j := 7) (by rfl) (by walk_at "nd") (by rfl) (by rfl) (by decide) (by rfl) (by rfl) (by rfl) (by rfl) (ea_cons (d := .int ((T'.getD spot []).getLastD 0 * IC.ent T' best c)) (by rfl) ?_ (ea_cons (d := .int ((T'.getD best []).getLastD 0 * IC.ent T' spot c)) (by rfl) ?_ ea_nil) _ _ ⟨rfl, ?_⟩))
      · walk_at "any"
        · exact at_nat (d := []) (by omega)
        · exact at_last (d := (0 : Int)) (r1 _ hspot)
        · exact at_nat (d := []) (by omega)
        · exact at_nat (d := (0 : Int)) (by rw [hT.row (by omega)]; omega)
        · exact sml_sum (lst _ hspot) (hT.sml best c (by omega) hc)
      · walk_at "any"
        · exact at_nat (d := []) (by omega)
        · exact at_last (d := (0 : Int)) (r1 _ hbest)
        · exact at_nat (d := []) (by omega)
        · exact at_nat (d := (0 : Int)) (by rw [hT.row (by omega)]; omega)
        · exact sml_sum (lst _ hbest) (hT.sml spot c (by omega) hc)
      refine ws_cons (w1_if (TV.mono (Φ := fun b M2 => b = IC.ahead T' bs c best spot ∧ M2 = M') ?_ ?_))
      · refine WV.tv (wv_or (EB.tv (b := decide ((T'.getD spot []).getLastD 0 * IC.ent T' best c < (T'.getD best []).getLastD 0 * IC.ent T' spot c)) ?_ ⟨fun h => wv_or1 (WV.tv (wv_and (EB.tv (b := decide ((T'.getD spot []).getLastD 0 * IC.ent T' best c = (T'.getD best []).getLastD 0 * IC.ent T' spot c)) ?_ ⟨fun h2 => wv_and1 (tv_cmp (by rfl) (ee_ixM (i := 1) (a := ab) (by intro _ _; rfl) (by rfl) (by walk_at "vis") (by rfl) hM (j := (spot : Int)) ?_ (atB_lt (by omega)) (ee_ixM (i := 1) (a := ab) (by intro _ _; rfl) (by rfl) (by walk_at "vis") (by rfl) hM (j := (best : Int)) ?_ (atB_lt (by omega)) ⟨_, _, _, rfl, rfl, bv_lt, ?_, rfl⟩))), fun h2 => ⟨?_, rfl⟩⟩))), fun h => ⟨?_, rfl⟩⟩))
        · walk_at "gb"
        · walk_at "gb"
        · walk_at "any"
        · walk_at "any"
        · unfold IC.ahead
          rw [h, h2, Bool.false_or, Bool.true_and]
          exact decide_eq_decide.mpr (by omega)
        · unfold IC.ahead
          rw [h, h2]; rfl
        · unfold IC.ahead
          rw [h]; rfl
      · rintro b M2 ⟨rfl, rfl⟩
        refine ⟨fun h => ?_, fun h => ws_nil (ws_nil ⟨rfl, some (.d (nI spot)), some (.d (.int ((T'.getD spot []).getLastD 0 * IC.ent T' best c))), some (.d (.int ((T'.getD best []).getLastD 0 * IC.ent T' spot c))), ?_⟩)⟩
        · refine ws_cons (w1_setE (i := 4) (d := nI spot) ?_ (ws_nil (ws_nil ⟨rfl, some (.d (nI spot)), some (.d (.int ((T'.getD spot []).getLastD 0 * IC.ent T' best c))), some (.d (.int ((T'.getD best []).getLastD 0 * IC.ent T' spot c))), ?_⟩)) (by walk_at "nd") (by rfl) (by walk_at "loc") (by walk_at "locf") (by rfl))
          · walk_at "any"
          · rw [hsucc, if_pos h]; rfl
        · rw [hsucc, if_neg (by rw [h]; exact Bool.false_ne_true)]; rfl
    · rintro δ' M' ⟨rfl, u1, u2, u3, rfl⟩
      refine ws_cons (w1_retE (d := nI (IC.firstB T' bs spots c)) ?_ q)
      apply EE.to
      walk_at "any"
      rw [List.length_map]
      unfold bestAt IC.firstB
      rw [List.take_of_length_le (Nat.le_refl _)]
end
end KP
namespace KP
open PySem PySem.Spec PyProof.Rows L2 DL
section
variable {P : Program} {w : World} {K : PySem.W.Frag} {mg : Str → Option Value} {base : Heap}
/-! steps -/
local macro_rules | `(tactic| walk_at "vis") => `(tactic| first | exact vis_l (by rfl) | exact vis_c (by rfl) | exact vis_f (by rfl))
local macro_rules | `(tactic| walk_at "vs") => `(tactic| first | rfl | (walk_at "vis") | decide)
local macro_rules | `(tactic| walk_at "mg") => `(tactic| exact z_of (by assumption) (by decide +kernel))
local macro_rules | `(tactic| walk_at "var") => `(tactic| fail)
local macro_rules | `(tactic| walk_at "glo") => `(tactic| first | exact ee_names (by assumption) (by rfl) (by rfl) | exact ee_clauses (by assumption) (by rfl) (by rfl) | exact ee_halvesS (by assumption) (by rfl) (by rfl) | exact ee_clashS (by assumption) (by rfl) (by rfl))
local macro_rules | `(tactic| walk_at "side") => `(tactic| first | assumption | ((with_reducible apply atI_litG); rfl) | ((fail_if_success (with_reducible apply atI_litG)); skip))
local macro_rules | `(tactic| walk_at "call") => `(tactic| fail)
local macro_rules | `(tactic| walk_at "bv") => `(tactic| first
  | (with_reducible apply bv_gB); first
    | (with_reducible exact bv_add) | (with_reducible exact bv_sub) | (with_reducible apply bv_mulS; walk_at "side") | (with_reducible apply bv_divS; walk_at "side") | (with_reducible apply bv_mod; walk_at "side") | (with_reducible apply bv_powS; walk_at "side")
    | (with_reducible apply bv_cat <;> walk_at "side") | (with_reducible apply bv_rep1 <;> walk_at "side") | (with_reducible apply bv_rep <;> walk_at "side") | (with_reducible apply bv_catT <;> walk_at "side")
  | (with_reducible apply bv_gC); first
    | (with_reducible exact bv_lt) | (with_reducible exact bv_le) | (with_reducible exact bv_gt) | (with_reducible exact bv_ge) | (with_reducible exact bv_eqI) | (with_reducible exact bv_neI) | (with_reducible exact bv_eqS) | (with_reducible exact bv_neS) | (with_reducible exact bv_isNone) | (with_reducible exact bv_inT) | (with_reducible exact bv_notin2)
    | (with_reducible apply bv_eqD <;> walk_at "side") | (with_reducible apply bv_neD <;> walk_at "side") | (with_reducible apply bv_inD <;> walk_at "side"))
local macro_rules | `(tactic| walk_at "any") => `(tactic| first
  | (with_reducible apply ee_id); walk_at "go"
  | (with_reducible apply ea_id); first | (with_reducible exact ea_nil) | ((with_reducible apply ea_cons) <;> walk_at "any")
  | (with_reducible apply eb_id); walk_at "gb"
  | (with_reducible apply ew_id); walk_at "gw"
  | (with_reducible apply eo_id); first | (with_reducible exact eo_none) | (apply eo_some; walk_at "go")
  | (with_reducible apply bv_id); walk_at "bv"
  | (fail_if_success (with_reducible apply ee_id)); (fail_if_success (with_reducible apply ea_id)); (fail_if_success (with_reducible apply eb_id)); (fail_if_success (with_reducible apply ew_id)); (fail_if_success (with_reducible apply bv_id)); first
    | (intro _; walk_at "any")
    | rfl | (walk_at "mg") | decide | (intro _; rfl) | (intro _ _; rfl) | (walk_at "side"))
local macro_rules | `(tactic| walk_at "gb") => `(tactic| first
  | (with_reducible apply eb_not); walk_at "gb"
  | (with_reducible apply eb_cmp) <;> walk_at "any"
  | (with_reducible apply EW.eb); walk_at "gw"
  | (apply eb_val) <;> walk_at "any")
local macro_rules | `(tactic| walk_at "gw") => `(tactic| first
  | (with_reducible apply ew_and) <;> walk_at "any"
  | (with_reducible apply ew_or) <;> walk_at "any"
  | (with_reducible apply ew_and1); walk_at "gb"
  | (with_reducible apply ew_or1); walk_at "gb")
local macro_rules | `(tactic| walk_at "go") => `(tactic| first
  | (with_reducible apply ee_nm); first | walk_at "var" | walk_at "glo"
  | (with_reducible apply g_const); first | (with_reducible exact ee_int) | (with_reducible exact ee_str) | (with_reducible exact ee_bl) | (with_reducible exact ee_non)
  | (with_reducible apply g_call); first
    | (with_reducible apply g_call1); first | ((with_reducible apply ee_lenL) <;> walk_at "any") | ((with_reducible apply ee_lenT) <;> walk_at "any") | ((with_reducible apply ee_intIN) <;> walk_at "any") | ((with_reducible apply ee_intBN) <;> walk_at "any") | ((with_reducible apply ee_tupN) <;> walk_at "any") | ((with_reducible apply ee_absN) <;> walk_at "any") | ((with_reducible apply ee_sumN) <;> walk_at "any") | ((with_reducible apply ee_sumTN) <;> walk_at "any") | ((with_reducible apply ee_allN) <;> walk_at "any") | ((with_reducible apply ee_lstN) <;> walk_at "any") | walk_at "call"
    | (with_reducible apply g_call2); first | ((with_reducible apply ee_isInt) <;> walk_at "any") | ((with_reducible apply ee_isBool) <;> walk_at "any") | ((with_reducible apply ee_isTup) <;> walk_at "any") | ((with_reducible apply ee_isStr) <;> walk_at "any") | ((with_reducible apply ee_minN) <;> walk_at "any") | ((with_reducible apply ee_maxN) <;> walk_at "any") | walk_at "call"
    | walk_at "call"
  | ((with_reducible apply ee_bin) <;> walk_at "any")
  | (with_reducible apply g_cmp); first | ((with_reducible apply ee_cmp) <;> walk_at "any") | ((with_reducible apply ee_chain) <;> walk_at "any")
  | (with_reducible apply g_sub); first | ((with_reducible apply ee_slL) <;> walk_at "any") | ((with_reducible apply ee_cell) <;> walk_at "any") | ((with_reducible apply ee_ixT) <;> walk_at "any") | ((with_reducible apply ee_ixL) <;> walk_at "any")
  | (with_reducible apply g_un); first | ((with_reducible apply ee_not); walk_at "go") | (with_reducible exact ee_neg)
  | (with_reducible apply g_bool); first | ((with_reducible apply ee_and) <;> walk_at "any") | ((with_reducible apply ee_or) <;> walk_at "any") | ((with_reducible apply ee_and1) <;> walk_at "any")
  | (with_reducible apply g_if); first | ((with_reducible apply ee_ifI) <;> walk_at "any") | ((with_reducible apply ee_if) <;> walk_at "any")
  | (with_reducible apply g_lst); first | ((with_reducible apply ee_lst0) <;> walk_at "any") | ((with_reducible apply ee_lst1) <;> walk_at "any") | ((with_reducible apply ee_lst2) <;> walk_at "any") | ((with_reducible apply ee_lst3) <;> walk_at "any") | ((with_reducible apply ee_lst4) <;> walk_at "any")
  | (with_reducible apply g_tup); first | ((with_reducible apply ee_tup0) <;> walk_at "any") | ((with_reducible apply ee_tup1) <;> walk_at "any") | ((with_reducible apply ee_tup2) <;> walk_at "any") | ((with_reducible apply ee_tup3) <;> walk_at "any") | ((with_reducible apply ee_tup4) <;> walk_at "any"))
local macro_rules | `(tactic| walk_at "loc") => `(tactic| first | exact .inl (by rfl) | exact .inr (by rfl))
local macro_rules | `(tactic| walk_at "locf") => `(tactic| first | exact .inr (by rfl) | exact .inl (by rfl))
local macro_rules | `(tactic| walk_at "iv") => `(tactic| first
  | ((with_reducible apply iv_tup); walk_at "go") | ((with_reducible apply iv_list); walk_at "go")
  | ((with_reducible apply iv_range) <;> walk_at "any") | ((with_reducible apply iv_range2) <;> walk_at "any")
  | ((with_reducible apply iv_enumL) <;> walk_at "any") | ((with_reducible apply iv_enumT) <;> walk_at "any") | ((with_reducible apply iv_enumT1) <;> walk_at "any")
  | ((with_reducible apply iv_zipL) <;> walk_at "any") | ((with_reducible apply iv_zipT) <;> walk_at "any"))
local macro_rules | `(tactic| walk_at "fm") => `(tactic| ((try rw [filter_tt]); first | rfl | (rw [List.map_map]; done) | (rw [List.map_map]; rfl) | (simp only [lI, tI, List.map_map]; done) | (simp only [lI, tI, List.map_map]; rfl)))

local macro_rules | `(tactic| walk_at "call") => `(tactic| (with_reducible apply ee_turned_table) <;> walk_at "any")
local macro_rules | `(tactic| walk_at "call") => `(tactic| (with_reducible apply ee_do_clash) <;> walk_at "any")
local macro_rules | `(tactic| walk_at "call") => `(tactic| (with_reducible apply ee_is_row) <;> walk_at "any")
local macro_rules | `(tactic| walk_at "call") => `(tactic| (with_reducible apply ee_are_halves_of) <;> walk_at "any")
local macro_rules | `(tactic| walk_at "call") => `(tactic| (with_reducible apply ee_rounded_row) <;> walk_at "any")
local macro_rules | `(tactic| walk_at "call") => `(tactic| (with_reducible apply ee_rounded_rowL) <;> walk_at "any")
local macro_rules | `(tactic| walk_at "call") => `(tactic| (with_reducible apply ee_sign_in) <;> walk_at "any")
local macro_rules | `(tactic| walk_at "call") => `(tactic| (with_reducible apply ee_heft_at) <;> walk_at "any")
local macro_rules | `(tactic| walk_at "call") => `(tactic| (with_reducible apply ee_are_rising) <;> walk_at "any")
local macro_rules | `(tactic| walk_at "call") => `(tactic| (with_reducible apply ee_is_literal) <;> walk_at "any")
local macro_rules | `(tactic| walk_at "call") => `(tactic| (with_reducible apply ee_is_clause) <;> walk_at "any")
local macro_rules | `(tactic| walk_at "call") => `(tactic| (with_reducible apply ee_weight_of) <;> walk_at "any")
local macro_rules | `(tactic| walk_at "call") => `(tactic| (with_reducible apply ee_does_weigh) <;> walk_at "any")
local macro_rules | `(tactic| walk_at "call") => `(tactic| (with_reducible apply ee_is_integer) <;> walk_at "any")
local macro_rules | `(tactic| walk_at "call") => `(tactic| (with_reducible apply ee_is_between) <;> walk_at "any")
theorem map_range_nI {n : Nat} {f : Nat → Int} : (List.range n).map (fun k => PyData.int (f k)) = ((List.range n).map f).map PyData.int := by rw [List.map_map]; rfl
theorem sc20 : FnScope ["bounds", "limits", "column", "size", "many", "table", "spot", "row", "far"] ["bounds", "limits", "column"] (defScope (top 20)) := ⟨rfl, rfl, rfl, by decide +kernel, rfl, by decide +kernel, by decide +kernel⟩
local macro_rules | `(tactic| walk_at "var") => `(tactic| first | ((with_reducible apply ee_varQ (x := "bounds") (i := 0)) <;> walk_at "vs") | ((with_reducible apply ee_varQ (x := "limits") (i := 1)) <;> walk_at "vs") | ((with_reducible apply ee_varQ (x := "column") (i := 2)) <;> walk_at "vs") | ((with_reducible apply ee_varQ (x := "size") (i := 3)) <;> walk_at "vs") | ((with_reducible apply ee_varQ (x := "many") (i := 4)) <;> walk_at "vs") | ((with_reducible apply ee_varQ (x := "table") (i := 5)) <;> walk_at "vs") | ((with_reducible apply ee_varQ (x := "spot") (i := 6)) <;> walk_at "vs") | ((with_reducible apply ee_varQ (x := "row") (i := 7)) <;> walk_at "vs") | ((with_reducible apply ee_varQ (x := "far") (i := 8)) <;> walk_at "vs"))
local macro_rules | `(tactic| walk_at "nd") => `(tactic| exact sc20.nd)
theorem ok_first_table (T : Txt K mg) : FnD P w K mg base 1 "first_table" ["bounds", "limits", "column"] (pureD fun xs r => ∃ (bs : List (List Int)) (ls : List Int) (c size : Nat), xs = [.d (.list (bs.map lI)), .d (lI ls), .d (nI c)] ∧ IC.BdOk bs ls size ∧ bs.length ≤ 1000 ∧ size ≤ 1000 ∧ r = .list ((IC.firstT bs ls c).map lI)) := by
  refine fnd T 9 rfl rfl sc20 (fun _ _ _ _ _ _ us hl => match us, hl with | [_, _, _], _ => rfl) (fun xs M Φ h => ?_) (fun a cdv A outer s H E xs M Φ hr h => ?_)
  · obtain ⟨r, ⟨bs, ls, c, size, rfl, _, _, _, rfl⟩, q⟩ := h
    rfl
  · obtain ⟨r, ⟨bs, ls, c, size, rfl, hB, h1, h2, rfl⟩, q⟩ := h
    have hz : (bs.getD 0 []).length = size := by
      have := hB.pos
      refine hB.row _ ?_
      rw [List.getD_eq_getElem?_getD, List.getElem?_eq_getElem this]
      exact List.getElem_mem _
    refine ws_cons (w1_par3 (i := 3) (j := 4) (l := 5) (by rfl) (by walk_at "nd") (by rfl) (by rfl) (by rfl) (by decide) (by decide) (by decide) (by rfl) (by rfl) (by rfl) (by rfl) (by rfl) (av_cons (by rfl) (EE.ev (d := nI size) ?_ (av_cons (by rfl) (EE.ev (d := nI bs.length) ?_ (av_cons (by rfl) (ev_lstM (ds := []) ea_nil (by decide) fun f hf => ea_nil _ _ ⟨rfl, ?_⟩)))))))
    · refine EE.to (ee_lenL (ds := (bs.getD 0 []).map PyData.int) (ee_ixL (ds := bs.map lI) (i := 0) ?_ ee_int (at_nat (k := 0) (d := []) hB.pos) (by intro _ _; rfl)) (by rfl) (by walk_at "mg") (by rfl)) (by rw [List.length_map, hz])
      walk_at "any"
    · refine EE.to (ee_lenL (ds := bs.map lI) ?_ (by rfl) (by walk_at "mg") (by rfl)) (by rw [List.length_map])
      walk_at "any"
    have hrow : ∀ j, j < bs.length → (IC.firstT bs ls c).getD j [] = (bs.getD j [] ++ (List.range bs.length).map fun far : Nat => IC.b2 (decide ((far : Int) = (j : Int)))) ++ [ls.getD j 0] := fun j hj => IC.firstT_at hj
    have hlen : (IC.firstT bs ls c).length = bs.length + 1 := (IC.firstT_shape hB).len
    refine ws_cons (w1_forT (i := 6) (l := 7) (ds := bs.zipIdx.map fun q => (nI q.2, lI q.1)) (fun j δ' M' => M' = mup M f (.lst (((IC.firstT bs ls c).take j).map lI)) ∧ ∃ u1 u2, δ' = [some (.d (.list (bs.map lI))), some (.d (lI ls)), some (.d (nI c)), some (.d (nI size)), some (.d (nI bs.length)), some (.m f), u1, u2, none]) ?_ ⟨rfl, none, none, rfl⟩ ?_ ?_ (by walk_at "nd") (by rfl) (by rfl) (by walk_at "loc") (by walk_at "locf") (by walk_at "loc") (by walk_at "locf") PassesOwn.never (by rfl) (fun _ => by rfl))
    · apply IV.to
      walk_at "iv"
      rw [zipIdx_lI, List.map_map, List.map_map]; rfl
    · rintro j d e δ' M' hd ⟨rfl, u1, u2, rfl⟩
      obtain ⟨hj, rfl, rfl⟩ := enum_at hd
      refine ws_cons (w1_app (i := 5) (a := f) (by rfl) (by walk_at "vis") (by rfl) mup_same (by rfl) (by rfl) (by rfl) (by rfl) (by rfl) (by rfl) (EE.ev (d := lI ((IC.firstT bs ls c).getD j [])) ?_ ⟨_, _, rfl, mup_same, ?_, ws_nil ⟨?_, some (.d (nI j)), some (.d (lI (bs.getD j []))), rfl⟩⟩))
      · rw [hrow j hj]
        refine EE.to (ee_bin (ee_bin (d1 := lI (bs.getD j [])) (d2 := lI ((List.range bs.length).map fun far : Nat => IC.b2 (decide ((far : Int) = (j : Int))))) ?_ (EE.to (LC1.ee (own := [("far", 8)]) (i := 8) (xs := List.range bs.length) (g := nI) (f := fun far => .int (IC.b2 (decide ((far : Int) = (j : Int))))) (p := fun _ => true) ?_) ?_) (bv_cat ?_)) (d2 := .list [.int (ls.getD j 0)]) ?_ (bv_cat ?_)) ?_
        · walk_at "any"
        · refine ⟨?_, fun s0 H0 C0 cl0 fp0 z0 hz0 => ?_, fun s0 H0 C0 cl0 fp0 z0 hz0 hp0 => ?_, ?_, fun _ => by rfl, blkOk_by (by rfl), fun _ _ _ _ _ => by walk_at "loc", fun _ _ _ _ _ => by walk_at "locf", by rfl, by decide, by walk_at "nd", by rfl⟩
          · apply IV.to
            · refine iv_range (n := bs.length) (by rfl) (by walk_at "mg") (by rfl) ?_ (by omega)
              walk_at "any"
            · exact range0
          · exact eif_nil
          · apply EE.to
            walk_at "any"
            rfl
          · rw [List.length_range]; omega
        · rw [filter_tt, map_range_nI]
        · rw [List.length_map, List.length_map, List.length_map, List.length_range, hB.row _ (by
            rw [List.getD_eq_getElem?_getD, List.getElem?_eq_getElem hj]
            exact List.getElem_mem _)]
          omega
        · refine ee_lst (ea_cons (by rfl) (ee_ixL (ds := ls.map PyData.int) (i := (j : Int)) ?_ ?_ (at_nat (d := (0 : Int)) (by rw [hB.ls]; exact hj)) (by intro _ _; rfl)) ea_nil) (by show 1 ≤ 100000; decide)
          · walk_at "any"
          · walk_at "any"
        · rw [List.length_append, List.length_map, List.length_map, List.length_map, List.length_range, hB.row _ (by
            rw [List.getD_eq_getElem?_getD, List.getElem?_eq_getElem hj]
            exact List.getElem_mem _)]
          show size + bs.length + 1 ≤ _
          omega
        · simp only [lI, List.map_append]; rfl
      · rw [List.length_map, List.length_take]; omega
      · rw [mup_mup, take_one (d := []) (by omega), List.map_append]; rfl
    · rintro δ' M' ⟨rfl, u1, u2, rfl⟩
      refine ws_cons (w1_app (i := 5) (a := f) (by rfl) (by walk_at "vis") (by rfl) mup_same (by rfl) (by rfl) (by rfl) (by rfl) (by rfl) (by rfl) (EE.ev (d := lI ((IC.firstT bs ls c).getD bs.length [])) ?_ ⟨_, _, rfl, mup_same, ?_, ?_⟩))
      · rw [IC.firstT_last]
        refine EE.to (ee_bin (d1 := lI ((List.range (bs.getD 0 []).length).map fun far : Nat => 0 - IC.b2 (decide ((far : Int) = (c : Int))))) (EE.to (LC1.ee (own := [("far", 8)]) (i := 8) (xs := List.range size) (g := nI) (f := fun far => .int (0 - IC.b2 (decide ((far : Int) = (c : Int))))) (p := fun _ => true) ?_) ?_) (d2 := .list (List.replicate (bs.length + 1) (.int 0))) (ee_bin (d1 := .list [.int 0]) (d2 := .int ((bs.length + 1 : Nat) : Int)) ?_ ?_ (bv_rep1 (by omega))) (bv_cat ?_)) ?_
        · refine ⟨?_, fun s0 H0 C0 cl0 fp0 z0 hz0 => ?_, fun s0 H0 C0 cl0 fp0 z0 hz0 hp0 => ?_, ?_, fun _ => by rfl, blkOk_by (by rfl), fun _ _ _ _ _ => by walk_at "loc", fun _ _ _ _ _ => by walk_at "locf", by rfl, by decide, by walk_at "nd", by rfl⟩
          · apply IV.to
            · refine iv_range (n := size) (by rfl) (by walk_at "mg") (by rfl) ?_ (by omega)
              walk_at "any"
            · exact range0
          · exact eif_nil
          · apply EE.to
            walk_at "any"
            rfl
          · rw [List.length_range]; omega
        · rw [filter_tt, map_range_nI, hz]
        · exact ee_lst (ds := [.int 0]) (ea_cons (by rfl) ee_int ea_nil) (by decide)
        · apply EE.to
          walk_at "any"
          rw [Int.natCast_add]; rfl
        · rw [List.length_map, List.length_map, List.length_range, List.length_replicate, hz]; omega
        · simp only [lI, List.map_append, List.map_replicate]
      · rw [List.length_map, List.length_take]; omega
      refine ws_freeze 5 rfl mup_same ?_
      rw [mup_mup, mdel_mup hf]
      refine ws_cons (w1_retE ?_ q)
      apply EE.to
      walk_at "any"
      have ht : List.map lI ((IC.firstT bs ls c).take bs.length) ++ [lI ((IC.firstT bs ls c).getD bs.length [])] = (IC.firstT bs ls c).map lI := by
        have e := take_one (d := []) (l := IC.firstT bs ls c) (j := bs.length) (by omega)
        rw [List.take_of_length_le (by omega)] at e
        conv => rhs; rw [e]
        rw [List.map_append]; rfl
      rw [List.length_map, List.length_zipIdx, ht]
theorem ee_first_table {X : Cx} {δ : En} {pos p : Pos} {e e2 e3 : Expr} {k' : Nat} {bs : List (List Int)} {ls : List Int} {c size : Nat} (h_e : EE X e δ (.list (bs.map lI))) (h_e2 : EE X e2 δ (lI ls)) (h_e3 : EE X e3 δ (nI c)) (s0 : IC.BdOk bs ls size) (s1 : bs.length ≤ 1000) (s2 : size ≤ 1000) (T : Txt X.K X.mg) (hr : Room k' X.A) (hk : 1 ≤ k') (hg : Gl X "first_table") (q0 : starEach (e :: [e2, e3]) X.env = (false, eval e X.env) :: starEach [e2, e3] X.env) (q1 : starEach (e2 :: [e3]) X.env = (false, eval e2 X.env) :: starEach [e3] X.env) (q2 : starEach (e3 :: []) X.env = (false, eval e3 X.env) :: starEach [] X.env) (hpl : (backTo pos (starEach [e2, e3] X.env)).any (·.1) = false) : EE X (.Call (.Name "first_table" p) [e, e2, e3] [] pos) δ (.list ((IC.firstT bs ls c).map lI)) :=
  ee_callK (ok_first_table T) (ea_cons q0 h_e (ea_cons q1 h_e2 (ea_cons q2 h_e3 ea_nil))) (⟨bs, ls, c, size, rfl, s0, s1, s2, rfl⟩) hr hk hg q0 hpl (by decide)
local macro_rules | `(tactic| walk_at "call") => `(tactic| (with_reducible apply ee_first_table) <;> walk_at "any")
end
end KP
namespace KP
open PySem PySem.Spec PyProof.Rows L2 DL
section
variable {P : Program} {w : World} {K : PySem.W.Frag} {mg : Str → Option Value} {base : Heap}
/-! steps -/
local macro_rules | `(tactic| walk_at "vis") => `(tactic| first | exact vis_l (by rfl) | exact vis_c (by rfl) | exact vis_f (by rfl))
local macro_rules | `(tactic| walk_at "vs") => `(tactic| first | rfl | (walk_at "vis") | decide)
local macro_rules | `(tactic| walk_at "mg") => `(tactic| exact z_of (by assumption) (by decide +kernel))
local macro_rules | `(tactic| walk_at "var") => `(tactic| fail)
local macro_rules | `(tactic| walk_at "glo") => `(tactic| first | exact ee_names (by assumption) (by rfl) (by rfl) | exact ee_clauses (by assumption) (by rfl) (by rfl) | exact ee_halvesS (by assumption) (by rfl) (by rfl) | exact ee_clashS (by assumption) (by rfl) (by rfl))
local macro_rules | `(tactic| walk_at "side") => `(tactic| first | assumption | ((with_reducible apply atI_litG); rfl) | ((fail_if_success (with_reducible apply atI_litG)); skip))
local macro_rules | `(tactic| walk_at "call") => `(tactic| fail)
local macro_rules | `(tactic| walk_at "bv") => `(tactic| first
  | (with_reducible apply bv_gB); first
    | (with_reducible exact bv_add) | (with_reducible exact bv_sub) | (with_reducible apply bv_mulS; walk_at "side") | (with_reducible apply bv_divS; walk_at "side") | (with_reducible apply bv_mod; walk_at "side") | (with_reducible apply bv_powS; walk_at "side")
    | (with_reducible apply bv_cat <;> walk_at "side") | (with_reducible apply bv_rep1 <;> walk_at "side") | (with_reducible apply bv_rep <;> walk_at "side") | (with_reducible apply bv_catT <;> walk_at "side")
  | (with_reducible apply bv_gC); first
    | (with_reducible exact bv_lt) | (with_reducible exact bv_le) | (with_reducible exact bv_gt) | (with_reducible exact bv_ge) | (with_reducible exact bv_eqI) | (with_reducible exact bv_neI) | (with_reducible exact bv_eqS) | (with_reducible exact bv_neS) | (with_reducible exact bv_isNone) | (with_reducible exact bv_inT) | (with_reducible exact bv_notin2)
    | (with_reducible apply bv_eqD <;> walk_at "side") | (with_reducible apply bv_neD <;> walk_at "side") | (with_reducible apply bv_inD <;> walk_at "side"))
local macro_rules | `(tactic| walk_at "any") => `(tactic| first
  | (with_reducible apply ee_id); walk_at "go"
  | (with_reducible apply ea_id); first | (with_reducible exact ea_nil) | ((with_reducible apply ea_cons) <;> walk_at "any")
  | (with_reducible apply eb_id); walk_at "gb"
  | (with_reducible apply ew_id); walk_at "gw"
  | (with_reducible apply eo_id); first | (with_reducible exact eo_none) | (apply eo_some; walk_at "go")
  | (with_reducible apply bv_id); walk_at "bv"
  | (fail_if_success (with_reducible apply ee_id)); (fail_if_success (with_reducible apply ea_id)); (fail_if_success (with_reducible apply eb_id)); (fail_if_success (with_reducible apply ew_id)); (fail_if_success (with_reducible apply bv_id)); first
    | (intro _; walk_at "any")
    | rfl | (walk_at "mg") | decide | (intro _; rfl) | (intro _ _; rfl) | (walk_at "side"))
local macro_rules | `(tactic| walk_at "gb") => `(tactic| first
  | (with_reducible apply eb_not); walk_at "gb"
  | (with_reducible apply eb_cmp) <;> walk_at "any"
  | (with_reducible apply EW.eb); walk_at "gw"
  | (apply eb_val) <;> walk_at "any")
local macro_rules | `(tactic| walk_at "gw") => `(tactic| first
  | (with_reducible apply ew_and) <;> walk_at "any"
  | (with_reducible apply ew_or) <;> walk_at "any"
  | (with_reducible apply ew_and1); walk_at "gb"
  | (with_reducible apply ew_or1); walk_at "gb")
local macro_rules | `(tactic| walk_at "go") => `(tactic| first
  | (with_reducible apply ee_nm); first | walk_at "var" | walk_at "glo"
  | (with_reducible apply g_const); first | (with_reducible exact ee_int) | (with_reducible exact ee_str) | (with_reducible exact ee_bl) | (with_reducible exact ee_non)
  | (with_reducible apply g_call); first
    | (with_reducible apply g_call1); first | ((with_reducible apply ee_lenL) <;> walk_at "any") | ((with_reducible apply ee_lenT) <;> walk_at "any") | ((with_reducible apply ee_intIN) <;> walk_at "any") | ((with_reducible apply ee_intBN) <;> walk_at "any") | ((with_reducible apply ee_tupN) <;> walk_at "any") | ((with_reducible apply ee_absN) <;> walk_at "any") | ((with_reducible apply ee_sumN) <;> walk_at "any") | ((with_reducible apply ee_sumTN) <;> walk_at "any") | ((with_reducible apply ee_allN) <;> walk_at "any") | ((with_reducible apply ee_lstN) <;> walk_at "any") | walk_at "call"
    | (with_reducible apply g_call2); first | ((with_reducible apply ee_isInt) <;> walk_at "any") | ((with_reducible apply ee_isBool) <;> walk_at "any") | ((with_reducible apply ee_isTup) <;> walk_at "any") | ((with_reducible apply ee_isStr) <;> walk_at "any") | ((with_reducible apply ee_minN) <;> walk_at "any") | ((with_reducible apply ee_maxN) <;> walk_at "any") | walk_at "call"
    | walk_at "call"
  | ((with_reducible apply ee_bin) <;> walk_at "any")
  | (with_reducible apply g_cmp); first | ((with_reducible apply ee_cmp) <;> walk_at "any") | ((with_reducible apply ee_chain) <;> walk_at "any")
  | (with_reducible apply g_sub); first | ((with_reducible apply ee_slL) <;> walk_at "any") | ((with_reducible apply ee_cell) <;> walk_at "any") | ((with_reducible apply ee_ixT) <;> walk_at "any") | ((with_reducible apply ee_ixL) <;> walk_at "any")
  | (with_reducible apply g_un); first | ((with_reducible apply ee_not); walk_at "go") | (with_reducible exact ee_neg)
  | (with_reducible apply g_bool); first | ((with_reducible apply ee_and) <;> walk_at "any") | ((with_reducible apply ee_or) <;> walk_at "any") | ((with_reducible apply ee_and1) <;> walk_at "any")
  | (with_reducible apply g_if); first | ((with_reducible apply ee_ifI) <;> walk_at "any") | ((with_reducible apply ee_if) <;> walk_at "any")
  | (with_reducible apply g_lst); first | ((with_reducible apply ee_lst0) <;> walk_at "any") | ((with_reducible apply ee_lst1) <;> walk_at "any") | ((with_reducible apply ee_lst2) <;> walk_at "any") | ((with_reducible apply ee_lst3) <;> walk_at "any") | ((with_reducible apply ee_lst4) <;> walk_at "any")
  | (with_reducible apply g_tup); first | ((with_reducible apply ee_tup0) <;> walk_at "any") | ((with_reducible apply ee_tup1) <;> walk_at "any") | ((with_reducible apply ee_tup2) <;> walk_at "any") | ((with_reducible apply ee_tup3) <;> walk_at "any") | ((with_reducible apply ee_tup4) <;> walk_at "any"))
local macro_rules | `(tactic| walk_at "loc") => `(tactic| first | exact .inl (by rfl) | exact .inr (by rfl))
local macro_rules | `(tactic| walk_at "locf") => `(tactic| first | exact .inr (by rfl) | exact .inl (by rfl))
local macro_rules | `(tactic| walk_at "iv") => `(tactic| first
  | ((with_reducible apply iv_tup); walk_at "go") | ((with_reducible apply iv_list); walk_at "go")
  | ((with_reducible apply iv_range) <;> walk_at "any") | ((with_reducible apply iv_range2) <;> walk_at "any")
  | ((with_reducible apply iv_enumL) <;> walk_at "any") | ((with_reducible apply iv_enumT) <;> walk_at "any") | ((with_reducible apply iv_enumT1) <;> walk_at "any")
  | ((with_reducible apply iv_zipL) <;> walk_at "any") | ((with_reducible apply iv_zipT) <;> walk_at "any"))
local macro_rules | `(tactic| walk_at "fm") => `(tactic| ((try rw [filter_tt]); first | rfl | (rw [List.map_map]; done) | (rw [List.map_map]; rfl) | (simp only [lI, tI, List.map_map]; done) | (simp only [lI, tI, List.map_map]; rfl)))
local macro_rules | `(tactic| walk_at "call") => `(tactic| (with_reducible apply ee_first_table) <;> walk_at "any")

local macro_rules | `(tactic| walk_at "call") => `(tactic| (with_reducible apply ee_turned_table) <;> walk_at "any")
local macro_rules | `(tactic| walk_at "call") => `(tactic| (with_reducible apply ee_do_clash) <;> walk_at "any")
local macro_rules | `(tactic| walk_at "call") => `(tactic| (with_reducible apply ee_is_row) <;> walk_at "any")
local macro_rules | `(tactic| walk_at "call") => `(tactic| (with_reducible apply ee_are_halves_of) <;> walk_at "any")
local macro_rules | `(tactic| walk_at "call") => `(tactic| (with_reducible apply ee_rounded_row) <;> walk_at "any")
local macro_rules | `(tactic| walk_at "call") => `(tactic| (with_reducible apply ee_rounded_rowL) <;> walk_at "any")
local macro_rules | `(tactic| walk_at "call") => `(tactic| (with_reducible apply ee_sign_in) <;> walk_at "any")
local macro_rules | `(tactic| walk_at "call") => `(tactic| (with_reducible apply ee_heft_at) <;> walk_at "any")
local macro_rules | `(tactic| walk_at "call") => `(tactic| (with_reducible apply ee_are_rising) <;> walk_at "any")
local macro_rules | `(tactic| walk_at "call") => `(tactic| (with_reducible apply ee_is_literal) <;> walk_at "any")
local macro_rules | `(tactic| walk_at "call") => `(tactic| (with_reducible apply ee_is_clause) <;> walk_at "any")
local macro_rules | `(tactic| walk_at "call") => `(tactic| (with_reducible apply ee_weight_of) <;> walk_at "any")
local macro_rules | `(tactic| walk_at "call") => `(tactic| (with_reducible apply ee_does_weigh) <;> walk_at "any")
local macro_rules | `(tactic| walk_at "call") => `(tactic| (with_reducible apply ee_is_integer) <;> walk_at "any")
local macro_rules | `(tactic| walk_at "call") => `(tactic| (with_reducible apply ee_is_between) <;> walk_at "any")
theorem big_small : IC.bigZ < 2 ^ 300 := by decide +kernel
theorem sml_big {x : Int} (h : x.natAbs ≤ IC.bigZ) : sml x := by
  have := PySem.Flt.log2_lt_of (k := 300) (by decide) (Nat.lt_of_le_of_lt h big_small)
  unfold sml; omega
section
variable {n : Nat} {cs : List (List Int)}
abbrev manyW (cs : List (List Int)) (n : Nat) : Nat := (IC.boundsOf n cs).length
abbrev wideW (n : Nat) (cs : List (List Int)) : Nat := n + 1 + (IC.boundsOf n cs).length
abbrev GoodW (n : Nat) (cs : List (List Int)) (st : IC.PS) : Prop := IC.StOk (n + 1) (manyW cs n) n (IC.bdOf (IC.boundsOf n cs)) (IC.limOf (IC.limitsOf n cs)) st
theorem many_le (hb : CsOk n cs) : manyW cs n ≤ 24 := by
  unfold manyW; rw [IC.bounds_len]
  have := hb.len; have := hb.le; omega
theorem wide_le (hb : CsOk n cs) : wideW n cs ≤ 100 := by
  have h1 : (IC.boundsOf n cs).length ≤ 24 := many_le hb
  have := hb.le
  unfold wideW; omega
theorem tab_w (hb : CsOk n cs) {st : IC.PS} (h : GoodW n cs st) : TabOk st.T (manyW cs n) (wideW n cs) := by
  have hm := many_le hb
  have h7 := hb.le
  refine ⟨h.shape, by omega, Nat.le_trans (wide_le hb) (by decide), fun i j hi hj => sml_big ((IC.st_small hb.pos hb.le hb.len hb.ok h).1 i j hi hj)⟩
theorem lastLen {st : IC.PS} (h : GoodW n cs st) : (st.T.getLastD []).length = wideW n cs + 1 := by
  rw [h.shape.lastRow, h.shape.at (Nat.le_refl _)]
theorem m_w (hb : CsOk n cs) {st : IC.PS} (h : GoodW n cs st) : 0 < st.m ∧ sml st.m := ⟨h.good.pos, sml_big (IC.st_small hb.pos hb.le hb.len hb.ok h).2⟩
noncomputable def greatW (n : Nat) (cs : List (List Int)) : PyData := .tuple [.int (IC.bestW n cs), lI (IC.valuesOf (n + 1) (wideW n cs) (IC.endW n cs)), lI (IC.pricesOf (n + 1) (manyW cs n) (IC.endW n cs)), .int (IC.endW n cs).m]
end
theorem filter_range_nI {n : Nat} {p : Nat → Bool} : ((List.range n).filter p).map nI = ((List.range n).filter p).map nI := rfl
def valsTo (size : Nat) (st : IC.PS) (j : Nat) : List Int := (st.base.zipIdx.take j).foldl (fun vs p => if p.1 < size then vs.set p.1 ((st.T.getD p.2 []).getLastD 0) else vs) (List.replicate size 0)
theorem valsTo_len {size : Nat} {st : IC.PS} {j : Nat} : (valsTo size st j).length = size := by
  unfold valsTo
  rw [IC.foldl_vals_len (f := fun i => (st.T.getD i []).getLastD 0), List.length_replicate]
theorem valsTo_succ {size : Nat} {st : IC.PS} {j : Nat} (h : j < st.base.length) : valsTo size st (j + 1) = if IC.atB st.base j < size then (valsTo size st j).set (IC.atB st.base j) ((st.T.getD j []).getLastD 0) else valsTo size st j := by
  unfold valsTo
  rw [take_one (d := ((0 : Nat), 0)) (by rw [List.length_zipIdx]; exact h), List.foldl_append, IC.getD_zipIdx h]; rfl
theorem enum_nI {base : List Nat} {j : Nat} {d e : PyData} (h : (base.zipIdx.map fun q => (nI q.2, nI q.1))[j]? = some (d, e)) : j < base.length ∧ d = nI j ∧ e = nI (IC.atB base j) := by
  rw [List.getElem?_map, List.getElem?_zipIdx] at h
  by_cases hj : j < base.length
  · rw [List.getElem?_eq_getElem hj] at h
    have h := Option.some.inj h
    refine ⟨hj, ?_, ?_⟩
    · exact (Prod.mk.inj h).1.symm.trans (by show nI (0 + j) = nI j; rw [Nat.zero_add])
    · exact (Prod.mk.inj h).2.symm.trans (by unfold IC.atB; rw [List.getD_eq_getElem?_getD, List.getElem?_eq_getElem hj]; rfl)
  · rw [List.getElem?_eq_none (by omega)] at h; cases h
theorem firstBoundD_mono : ∀ xs M1 (Φ Φ' : S → Mu → Prop), firstBoundD xs M1 Φ → (∀ x M2, Φ x M2 → Φ' x M2) → firstBoundD xs M1 Φ' := fun xs M1 Φ Φ' ⟨T, bs, spots, c, many, v, ab, h1, h2, h3, h4, h5, h6, h7, h8, h9⟩ m => ⟨T, bs, spots, c, many, v, ab, h1, h2, h3, h4, h5, h6, h7, h8, m _ _ h9⟩
theorem sc21 : FnScope ["bounds", "limits", "column", "size", "many", "measure", "table", "base", "down", "spots", "spot", "entry", "values", "far"] ["bounds", "limits", "column"] (defScope (top 21)) := ⟨rfl, rfl, rfl, by decide +kernel, rfl, by decide +kernel, by decide +kernel⟩
local macro_rules | `(tactic| walk_at "var") => `(tactic| first | ((with_reducible apply ee_varQ (x := "bounds") (i := 0)) <;> walk_at "vs") | ((with_reducible apply ee_varQ (x := "limits") (i := 1)) <;> walk_at "vs") | ((with_reducible apply ee_varQ (x := "column") (i := 2)) <;> walk_at "vs") | ((with_reducible apply ee_varQ (x := "size") (i := 3)) <;> walk_at "vs") | ((with_reducible apply ee_varQ (x := "many") (i := 4)) <;> walk_at "vs") | ((with_reducible apply ee_varQ (x := "measure") (i := 5)) <;> walk_at "vs") | ((with_reducible apply ee_varQ (x := "table") (i := 6)) <;> walk_at "vs") | ((with_reducible apply ee_varQ (x := "base") (i := 7)) <;> walk_at "vs") | ((with_reducible apply ee_varQ (x := "down") (i := 8)) <;> walk_at "vs") | ((with_reducible apply ee_varQ (x := "spots") (i := 9)) <;> walk_at "vs") | ((with_reducible apply ee_varQ (x := "spot") (i := 10)) <;> walk_at "vs") | ((with_reducible apply ee_varQ (x := "entry") (i := 11)) <;> walk_at "vs") | ((with_reducible apply ee_varQ (x := "values") (i := 12)) <;> walk_at "vs") | ((with_reducible apply ee_varQ (x := "far") (i := 13)) <;> walk_at "vs"))
local macro_rules | `(tactic| walk_at "nd") => `(tactic| exact sc21.nd)
theorem ok_greatest_of (T : Txt K mg) : FnD P w K mg base 2 "greatest_of" ["bounds", "limits", "column"] (pureD fun xs r => ∃ (n : Nat) (cs : List (List Int)), xs = [.d (.list ((IC.boundsOf n cs).map lI)), .d (lI (IC.limitsOf n cs)), .d (nI n)] ∧ CsOk n cs ∧ r = greatW n cs) := by
  refine fnd T 10 rfl rfl sc21 (fun _ _ _ _ _ _ us hl => match us, hl with | [_, _, _], _ => rfl) (fun xs M Φ h => ?_) (fun a cdv A outer s H E xs M Φ hr h => ?_)
  · obtain ⟨r, ⟨n, cs, rfl, _, rfl⟩, q⟩ := h
    rfl
  · obtain ⟨r, ⟨n, cs, rfl, hb, rfl⟩, q⟩ := h
    have hmany := many_le hb
    have h7 := hb.le
    have hB := IC.bounds_ok (n := n) (cs := cs)
    have hz : ((IC.boundsOf n cs).getD 0 []).length = n + 1 := by
      have := hB.pos
      refine hB.row _ ?_
      rw [List.getD_eq_getElem?_getD, List.getElem?_eq_getElem this]
      exact List.getElem_mem _
    obtain ⟨k, hk1, hk2, hk3⟩ := IC.run_w n cs
    have hG : ∀ i, i ≤ k → GoodW n cs (IC.iterS (wideW n cs) (manyW cs n) (IC.startS (IC.boundsOf n cs) (IC.limitsOf n cs) (n + 1) n) i) := hk3
    have hend : IC.endW n cs = IC.iterS (wideW n cs) (manyW cs n) (IC.startS (IC.boundsOf n cs) (IC.limitsOf n cs) (n + 1) n) k := IC.endS_eq ⟨k, rfl, hk1, hk2⟩
    refine ws_cons (w1_asgTT (is := [3, 4, 5]) (by rfl) (gn_cons (by walk_at "nd") (by rfl) (by walk_at "loc") (by walk_at "locf") (gn_cons (by walk_at "nd") (by rfl) (by walk_at "loc") (by walk_at "locf") (gn_cons (by walk_at "nd") (by rfl) (by walk_at "loc") (by walk_at "locf") gn_nil (by rfl)) (by rfl)) (by rfl)) (by rfl) (by rfl) (by rfl) (by rfl) (by rfl) (by decide) ((ea_cons (d := nI (n + 1)) (by rfl) ?_ (ea_cons (d := nI (manyW cs n)) (by rfl) ?_ (ea_cons (d := .int 1) (by rfl) ee_int ea_nil))) _ _ ⟨rfl, ?_⟩))
    · refine EE.to (ee_lenL (ds := ((IC.boundsOf n cs).getD 0 []).map PyData.int) (ee_ixL (ds := (IC.boundsOf n cs).map lI) (i := 0) ?_ ee_int (at_nat (k := 0) (d := []) hB.pos) (by intro _ _; rfl)) (by rfl) (by walk_at "mg") (by rfl)) (by rw [List.length_map, hz])
      walk_at "any"
    · refine EE.to (ee_lenL (ds := (IC.boundsOf n cs).map lI) ?_ (by rfl) (by walk_at "mg") (by rfl)) (by rw [List.length_map])
      walk_at "any"
    refine ws_cons (w1_asgTT (is := [6, 7]) (by rfl) (gn_cons (by walk_at "nd") (by rfl) (by walk_at "loc") (by walk_at "locf") (gn_cons (by walk_at "nd") (by rfl) (by walk_at "loc") (by walk_at "locf") gn_nil (by rfl)) (by rfl)) (by rfl) (by rfl) (by rfl) (by rfl) (by rfl) (by decide) (av_cons (by rfl) (EE.ev (d := .list ((IC.firstT (IC.boundsOf n cs) (IC.limitsOf n cs) n).map lI)) ?_ (av_cons (by rfl) (LC1.evM (own := [("spot", 10)]) (i := 10) (xs := List.range (manyW cs n)) (g := nI) (f := fun s => nI (n + 1 + s)) (p := fun _ => true) ?_ fun b hbM => ea_nil _ _ ⟨rfl, ?_⟩)))))
    · refine ee_first_table (size := n + 1) ?_ ?_ ?_ hB (by unfold manyW at hmany; omega) (by omega) (by assumption) (by assumption) (by decide) (by rfl) (by rfl) (by rfl) (by rfl) (by rfl)
      · walk_at "any"
      · walk_at "any"
      · walk_at "any"
    · refine ⟨?_, fun s1 H1 C1 cl1 fp1 z1 hz1 => ?_, fun s1 H1 C1 cl1 fp1 z1 hz1 hp1 => ?_, ?_, fun _ => by rfl, blkOk_by (by rfl), fun _ _ _ _ _ => by walk_at "loc", fun _ _ _ _ _ => by walk_at "locf", by rfl, by decide, by walk_at "nd", by rfl⟩
      · apply IV.to
        · refine iv_range (n := manyW cs n) (by rfl) (by walk_at "mg") (by rfl) ?_ (by omega)
          walk_at "any"
        · exact range0
      · exact eif_nil
      · apply EE.to
        walk_at "any"
        rw [← Int.natCast_add]
      · rw [List.length_range]; omega
    have hbase : ((List.range (manyW cs n)).filter fun _ => true).map (fun s => nI (n + 1 + s)) = ((IC.iterS (wideW n cs) (manyW cs n) (IC.startS (IC.boundsOf n cs) (IC.limitsOf n cs) (n + 1) n) 0).base).map nI := by
      rw [filter_tt]
      show _ = ((List.range (manyW cs n)).map fun spot => n + 1 + spot).map nI
      rw [List.map_map]; rfl
    rw [hbase]
    refine ws_cons (w1_setE (i := 8) (d := .list ((IC.downT (wideW n cs) (IC.iterS (wideW n cs) (manyW cs n) (IC.startS (IC.boundsOf n cs) (IC.limitsOf n cs) (n + 1) n) 0).T).map nI)) (LC1.ee (own := [("far", 13)]) (i := 13) (xs := List.range (wideW n cs)) (g := nI) (f := nI) (p := fun far => decide (((IC.iterS (wideW n cs) (manyW cs n) (IC.startS (IC.boundsOf n cs) (IC.limitsOf n cs) (n + 1) n) 0).T.getLastD []).getD far 0 < 0)) ?_) ?_ (by walk_at "nd") (by rfl) (by walk_at "loc") (by walk_at "locf") (by rfl))
    · refine ⟨?_, fun s2 H2 C2 cl2 fp2 z2 hz2 => ?_, fun s2 H2 C2 cl2 fp2 z2 hz2 hp2 => ?_, ?_, fun _ => by rfl, blkOk_by (by rfl), fun _ _ _ _ _ => by walk_at "loc", fun _ _ _ _ _ => by walk_at "locf", by rfl, by decide, by walk_at "nd", by rfl⟩
      · apply IV.to
        · refine iv_range (n := wideW n cs) (by rfl) (by walk_at "mg") (by rfl) ?_ (Nat.le_trans (wide_le hb) (by decide))
          apply EE.to
          walk_at "any"
          exact congrArg PyData.int (Int.natCast_add (n + 1) (manyW cs n)).symm
        · exact range0
      · have hz := List.mem_range.mp hz2
        refine eif_one ?_
        walk_at "gb"
        · exact at_last (d := []) (fun e => Nat.succ_ne_zero _ ((hG 0 (Nat.zero_le _)).shape.len.symm.trans (congrArg List.length e)))
        · exact at_nat (d := (0 : Int)) (Nat.lt_of_lt_of_le (Nat.lt_succ_of_lt hz) (Nat.le_of_eq (lastLen (hG 0 (Nat.zero_le _))).symm))
      · walk_at "any"
      · rw [List.length_range]; exact Nat.le_trans (wide_le hb) (by decide)
    refine ws_cons (w1_while PassesOwn.never (fun m δ' M' => ∃ i st, IC.iterS (wideW n cs) (manyW cs n) (IC.startS (IC.boundsOf n cs) (IC.limitsOf n cs) (n + 1) n) i = st ∧ i ≤ k ∧ m = k - i ∧ M' = mup M b (.lst (st.base.map nI)) ∧ ∃ u1 u2 u3, δ' = [some (.d (.list ((IC.boundsOf n cs).map lI))), some (.d (lI (IC.limitsOf n cs))), some (.d (nI n)), some (.d (nI (n + 1))), some (.d (nI (manyW cs n))), some (.d (.int (st).m)), some (.d (.list ((st).T.map lI))), some (.m b), some (.d (.list ((IC.downT (wideW n cs) (st).T).map nI))), u1, u2, u3, none, none]) ⟨k, 0, _, rfl, Nat.zero_le _, rfl, rfl, none, none, none, rfl⟩ ?_)
    · rintro m δ' M' ⟨i, st, hst, hi, rfl, rfl, u1, u2, u3, rfl⟩
      have hS : GoodW n cs st := hst ▸ hG i hi
      have hT := tab_w hb hS
      have hmS := m_w hb hS
      have hmS1 := hmS.1
      have hmS2 := hmS.2
      have hTl : st.T ≠ [] := fun e => Nat.succ_ne_zero _ (hS.shape.len.symm.trans (congrArg List.length e))
      refine EB.tv (b := !((IC.downT (wideW n cs) st.T).isEmpty)) (eb_cmp (by rfl) ?_ (ee_lst0) (bv_neNil (f := nI) hr.units (k := 0) (fun _ _ => dep_int) (by decide))) ⟨fun h => ?_, fun h => ?_⟩
      · walk_at "any"
      · have hne : IC.downT (wideW n cs) st.T ≠ [] := fun e => by rw [e] at h; cases h
        have hik : i < k := by
          rcases Nat.lt_or_ge i k with z | z
          · exact z
          · exact absurd (by rw [← hst, show i = k by omega]; exact hk1) hne
        obtain ⟨c1, c2, c3⟩ := IC.colS_ok hS hne
        have hsp := IC.spots_ok hS IC.bounds_bounded hne
        obtain ⟨p1, p2, p3⟩ := IC.spotS_ok hS IC.bounds_bounded hne
        have hN : GoodW n cs (IC.nextS (wideW n cs) (manyW cs n) st) := by
          have := hG (i + 1) hik
          rw [← hst]; exact this
        have hdown : atI ((IC.downT (wideW n cs) st.T).map nI) 0 = some (nI (IC.colS (wideW n cs) st)) := at_nat (k := 0) (d := 0) (List.length_pos_iff.mpr hne)
        have c1' : IC.colS (wideW n cs) st ≤ wideW n cs := Nat.le_of_lt c1
        have p1' : IC.spotS (wideW n cs) (manyW cs n) st ≤ manyW cs n := Nat.le_of_lt p1
        refine ws_cons (LC1.set (own := [("spot", 10)]) (i := 10) (xs := List.range (manyW cs n)) (g := nI) (f := nI) (p := fun s => decide (0 < IC.ent st.T s (IC.colS (wideW n cs) st))) ?_ (j := 9) ?_ (by rfl) (by rfl) (by rfl))
        · refine ⟨?_, fun s3 H3 C3 cl3 fp3 z3 hz3 => ?_, fun s3 H3 C3 cl3 fp3 z3 hz3 hp3 => ?_, ?_, fun _ => by rfl, blkOk_by (by rfl), fun _ _ _ _ _ => by walk_at "loc", fun _ _ _ _ _ => by walk_at "locf", by rfl, by decide, by walk_at "nd", by rfl⟩
          · apply IV.to
            · refine iv_range (n := manyW cs n) (by rfl) (by walk_at "mg") (by rfl) ?_ (by omega)
              walk_at "any"
            · exact range0
          · have hz := List.mem_range.mp hz3
            refine eif_one ?_
            walk_at "gb"
            · exact at_nat (d := []) (Nat.lt_of_lt_of_eq (Nat.lt_succ_of_lt hz) hT.len.symm)
            · exact at_nat (d := (0 : Int)) (Nat.lt_of_lt_of_eq (Nat.lt_succ_of_lt c1) (hT.row (Nat.le_of_lt hz)).symm)
          · walk_at "any"
          · rw [List.length_range]; omega
        refine ws_cons (w1_setV (i := 10) (ev_call (ok_first_bound T) (hr.mono (by decide)) (by rfl) (by rfl) (by rfl) ((ea_cons (d := .list (st.T.map lI)) (by rfl) ?_ (ea_consM (i := 7) (a := b) (by rfl) (by rfl) (by walk_at "vis") (by rfl) (ea_cons (d := .list ((IC.spotsT (manyW cs n) st.T (IC.colS (wideW n cs) st)).map nI)) (by rfl) ?_ (ea_cons (d := nI (IC.colS (wideW n cs) st)) (by rfl) ?_ ea_nil)))) _ _ ⟨st.T, st.base, IC.spotsT (manyW cs n) st.T (IC.colS (wideW n cs) st), IC.colS (wideW n cs) st, manyW cs n, wideW n cs, b, rfl, mup_same, hT, hS.base, hsp, fun x hx => (IC.mem_spots hx).1, ?_, c1', ?_⟩) firstBoundD_mono (by decide)) (by walk_at "nd") (by rfl) (by walk_at "loc") (by walk_at "locf") (by rfl))
        · walk_at "any"
        · walk_at "any"
        · walk_at "any"
        · have := List.length_filter_le (fun s => decide (0 < IC.ent st.T s (IC.colS (wideW n cs) st))) (List.range (manyW cs n))
          rw [List.length_range] at this
          exact Nat.le_trans this (by omega)
        refine ws_cons (w1_setE (i := 11) (d := .int (IC.ent st.T (IC.spotS (wideW n cs) (manyW cs n) st) (IC.colS (wideW n cs) st))) ?_ ?_ (by walk_at "nd") (by rfl) (by walk_at "loc") (by walk_at "locf") (by rfl))
        · walk_at "any"
          · exact at_nat (d := []) (Nat.lt_of_lt_of_eq (Nat.lt_succ_of_lt p1) hT.len.symm)
          · exact at_nat (d := (0 : Int)) (Nat.lt_of_lt_of_eq (Nat.lt_succ_of_lt c1) (hT.row p1').symm)
        refine ws_cons (w1_setE (i := 6) (d := .list ((IC.turnedT st.T st.m (IC.spotS (wideW n cs) (manyW cs n) st) (IC.colS (wideW n cs) st)).map lI)) (ee_turned_table ?_ ?_ ?_ ?_ hT p1' c1' hmS1 hmS2 (by assumption) (by assumption) (by decide) (by rfl) (by rfl) (by rfl) (by rfl) (by rfl) (by rfl)) ?_ (by walk_at "nd") (by rfl) (by walk_at "loc") (by walk_at "locf") (by rfl))
        · walk_at "any"
        · walk_at "any"
        · walk_at "any"
        · walk_at "any"
        refine ws_cons (w1_asgNS (i := 5) (by rfl) (by walk_at "nd") (by rfl) (by walk_at "loc") (by walk_at "locf") (by rfl) (by rfl) (by rfl) (by rfl) (by rfl) (by rfl) (by rfl) (fun _ => by rfl) ((ea_cons (d := .int (IC.ent st.T (IC.spotS (wideW n cs) (manyW cs n) st) (IC.colS (wideW n cs) st))) (by rfl) ?_ (ea_cons (d := nI (IC.colS (wideW n cs) st)) (by rfl) ?_ ea_nil)) _ _ ⟨_, _, rfl, ev_var (i := 7) (by rfl) (by walk_at "vis") (by rfl) (EE.ev (d := nI (IC.spotS (wideW n cs) (manyW cs n) st)) ?_ ⟨b, IC.spotS (wideW n cs) (manyW cs n) st, _, rfl, rfl, mup_same, ?_, ?_⟩)⟩))
        · walk_at "any"
        · walk_at "any"
        · walk_at "any"
        · rw [List.length_map]; exact Nat.lt_of_lt_of_eq p1 hS.base.symm
        refine ws_cons (w1_setE (i := 8) (d := .list ((IC.downT (wideW n cs) (IC.nextS (wideW n cs) (manyW cs n) st).T).map nI)) (LC1.ee (own := [("far", 13)]) (i := 13) (xs := List.range (wideW n cs)) (g := nI) (f := nI) (p := fun far => decide (((IC.nextS (wideW n cs) (manyW cs n) st).T.getLastD []).getD far 0 < 0)) ?_) ?_ (by walk_at "nd") (by rfl) (by walk_at "loc") (by walk_at "locf") (by rfl))
        · refine ⟨?_, fun s4 H4 C4 cl4 fp4 z4 hz4 => ?_, fun s4 H4 C4 cl4 fp4 z4 hz4 hp4 => ?_, ?_, fun _ => by rfl, blkOk_by (by rfl), fun _ _ _ _ _ => by walk_at "loc", fun _ _ _ _ _ => by walk_at "locf", by rfl, by decide, by walk_at "nd", by rfl⟩
          · apply IV.to
            · refine iv_range (n := wideW n cs) (by rfl) (by walk_at "mg") (by rfl) ?_ (Nat.le_trans (wide_le hb) (by decide))
              apply EE.to
              walk_at "any"
              exact congrArg PyData.int (Int.natCast_add (n + 1) (manyW cs n)).symm
            · exact range0
          · have hz := List.mem_range.mp hz4
            refine eif_one ?_
            walk_at "gb"
            · exact at_last (d := []) (fun e => Nat.succ_ne_zero _ (hN.shape.len.symm.trans (congrArg List.length e)))
            · exact at_nat (d := (0 : Int)) (Nat.lt_of_lt_of_le (Nat.lt_succ_of_lt hz) (Nat.le_of_eq (lastLen hN).symm))
          · walk_at "any"
          · rw [List.length_range]; exact Nat.le_trans (wide_le hb) (by decide)
        refine ws_nil ⟨k - (i + 1), by omega, i + 1, IC.nextS (wideW n cs) (manyW cs n) st, by rw [← hst]; rfl, hik, rfl, ?_, _, _, _, rfl⟩
        rw [mup_mup, ← List.map_set]; rfl
      · have he : IC.downT (wideW n cs) st.T = [] := by
          cases z : IC.downT (wideW n cs) st.T with
          | nil => rfl
          | cons x xs => rw [z] at h; cases h
        have hik : i = k := by
          rcases Nat.lt_or_ge i k with z | z
          · exact absurd (by rw [← hst] at he; exact he) (hk2 i z)
          · omega
        have hst : st = IC.endW n cs := by rw [hend, ← hik, hst]
        refine ws_freeze 7 rfl mup_same ?_
        rw [mdel_mup hbM]
        refine ws_cons (w1_setV (i := 12) (ev_rep1M (d := .int 0) (n := n + 1) ?_ ?_ (by omega) fun p hpM => ?_) (by walk_at "nd") (by rfl) (by walk_at "loc") (by walk_at "locf") (by rfl))
        · walk_at "any"
        · walk_at "any"
        refine ws_cons (w1_forT (i := 10) (l := 13) (ds := st.base.zipIdx.map fun q => (nI q.2, nI q.1)) (fun j δ' M' => M' = mup M p (.lst ((valsTo (n + 1) st j).map PyData.int)) ∧ ∃ x y, δ' = [some (.d (.list ((IC.boundsOf n cs).map lI))), some (.d (lI (IC.limitsOf n cs))), some (.d (nI n)), some (.d (nI (n + 1))), some (.d (nI (manyW cs n))), some (.d (.int st.m)), some (.d (.list (st.T.map lI))), some (.d (.list (st.base.map nI))), some (.d (.list ((IC.downT (wideW n cs) st.T).map nI))), u1, x, u3, some (.m p), y]) ?_ ⟨?_, u2, none, rfl⟩ ?_ ?_ (by walk_at "nd") (by rfl) (by rfl) (by walk_at "loc") (by walk_at "locf") (by walk_at "loc") (by walk_at "locf") PassesOwn.never (by rfl) (fun _ => by rfl))
        · apply IV.to
          walk_at "iv"
          rw [List.zipIdx_map, List.map_map, List.map_map]; rfl
        · show mup M p (.lst (List.replicate (n + 1) (.int 0))) = mup M p (.lst ((List.replicate (n + 1) 0).map PyData.int))
          rw [List.map_replicate]
        · rintro j d e δ' M' hd ⟨rfl, x, y, rfl⟩
          obtain ⟨hj, rfl, rfl⟩ := enum_nI hd
          have hjm : j < manyW cs n := Nat.lt_of_lt_of_eq hj hS.base
          have hsucc := valsTo_succ (size := n + 1) hj
          refine ws_cons (w1_ifE (p := decide ((IC.atB st.base j : Int) < ((n + 1 : Nat) : Int))) ?_ (fun h => ?_) (fun h => ws_nil (ws_nil ⟨?_, _, _, rfl⟩)))
          · walk_at "gb"
          · have h := of_decide_eq_true h
            have hlt : IC.atB st.base j < n + 1 := by omega
            refine ws_cons (w1_setM (by rfl) (by rfl) (by rfl) (fun _ => by rfl) (EE.ev (d := .int ((st.T.getD j []).getLastD 0)) ?_ (ev_var (i := 12) (by rfl) (by walk_at "vis") (by rfl) (EE.ev (d := nI (IC.atB st.base j)) ?_ ⟨_, p, IC.atB st.base j, _, rfl, rfl, rfl, mup_same, ?_, ws_nil (ws_nil ⟨?_, _, _, rfl⟩)⟩))))
            · walk_at "any"
              · exact at_nat (d := []) (Nat.lt_of_lt_of_eq (Nat.lt_succ_of_lt hjm) hT.len.symm)
              · refine at_last (d := (0 : Int)) (fun e => ?_)
                have := hT.row (Nat.le_of_lt hjm)
                rw [e] at this; cases this
            · walk_at "any"
            · rw [List.length_map, valsTo_len]; exact hlt
            · rw [mup_mup, hsucc, if_pos hlt, List.map_set]
          · have h := of_decide_eq_false h
            rw [hsucc, if_neg (by omega)]
        · rintro δ' M' ⟨rfl, x, y, rfl⟩
          refine ws_freeze 12 rfl mup_same ?_
          rw [mdel_mup hpM]
          have hvals : valsTo (n + 1) st (st.base.zipIdx.map fun q => (nI q.2, nI q.1)).length = IC.valuesOf (n + 1) (wideW n cs) st := by
            unfold valsTo IC.valuesOf
            rw [List.length_map, List.take_of_length_le (Nat.le_refl _)]
          rw [hvals]
          refine ws_cons (w1_retE (d := greatW n cs) ?_ q)
          unfold greatW
          rw [← hst]
          refine ee_tup4 (d0 := .int (IC.bestW n cs)) (d2 := lI (IC.pricesOf (n + 1) (manyW cs n) st)) ?_ ?_ ?_ ?_ (by rfl) (by rfl) (by rfl) (by rfl)
          · walk_at "any"
            · exact at_last (d := []) hTl
            · have e : IC.bestW n cs = (st.T.getLastD []).getLastD 0 := by rw [hst]; rfl
              rw [e]
              refine at_last (d := (0 : Int)) (fun e => ?_)
              have := lastLen hS
              rw [e] at this; cases this
          · walk_at "any"
          · refine EE.to (ee_slL (ds := (st.T.getLastD []).map PyData.int) (l := some ((n + 1 : Nat) : Int)) (h := some ((n + 1 + manyW cs n : Nat) : Int)) (ee_ixL (ds := st.T.map lI) (i := -1) ?_ ?_ (at_last (d := []) hTl) (by intro _ _; rfl)) (eo_some ?_) (eo_some ?_)) ?_
            · walk_at "any"
            · walk_at "any"
            · walk_at "any"
            · rw [Int.natCast_add]
              walk_at "any"
            · rw [cut_both (by rw [List.length_map, lastLen hS]; show n + 1 + manyW cs n ≤ n + 1 + (IC.boundsOf n cs).length + 1; exact Nat.le_succ _), ← List.map_drop, ← List.map_take]; rfl
          · walk_at "any"
theorem ee_greatest_of {X : Cx} {δ : En} {pos p : Pos} {e e2 e3 : Expr} {k' : Nat} {n : Nat} {cs : List (List Int)} (h_e : EE X e δ (.list ((IC.boundsOf n cs).map lI))) (h_e2 : EE X e2 δ (lI (IC.limitsOf n cs))) (h_e3 : EE X e3 δ (nI n)) (s0 : CsOk n cs) (T : Txt X.K X.mg) (hr : Room k' X.A) (hk : 2 ≤ k') (hg : Gl X "greatest_of") (q0 : starEach (e :: [e2, e3]) X.env = (false, eval e X.env) :: starEach [e2, e3] X.env) (q1 : starEach (e2 :: [e3]) X.env = (false, eval e2 X.env) :: starEach [e3] X.env) (q2 : starEach (e3 :: []) X.env = (false, eval e3 X.env) :: starEach [] X.env) (hpl : (backTo pos (starEach [e2, e3] X.env)).any (·.1) = false) : EE X (.Call (.Name "greatest_of" p) [e, e2, e3] [] pos) δ (greatW n cs) :=
  ee_callK (ok_greatest_of T) (ea_cons q0 h_e (ea_cons q1 h_e2 (ea_cons q2 h_e3 ea_nil))) (⟨n, cs, rfl, s0, rfl⟩) hr hk hg q0 hpl (by decide)
local macro_rules | `(tactic| walk_at "call") => `(tactic| (with_reducible apply ee_greatest_of) <;> walk_at "any")
end
end KP
namespace KP
open PySem PySem.Spec PyProof.Rows L2 DL
section
variable {P : Program} {w : World} {K : PySem.W.Frag} {mg : Str → Option Value} {base : Heap}
/-! steps -/
local macro_rules | `(tactic| walk_at "vis") => `(tactic| first | exact vis_l (by rfl) | exact vis_c (by rfl) | exact vis_f (by rfl))
local macro_rules | `(tactic| walk_at "vs") => `(tactic| first | rfl | (walk_at "vis") | decide)
local macro_rules | `(tactic| walk_at "mg") => `(tactic| exact z_of (by assumption) (by decide +kernel))
local macro_rules | `(tactic| walk_at "var") => `(tactic| fail)
local macro_rules | `(tactic| walk_at "glo") => `(tactic| first | exact ee_names (by assumption) (by rfl) (by rfl) | exact ee_clauses (by assumption) (by rfl) (by rfl) | exact ee_halvesS (by assumption) (by rfl) (by rfl) | exact ee_clashS (by assumption) (by rfl) (by rfl))
local macro_rules | `(tactic| walk_at "side") => `(tactic| first | assumption | ((with_reducible apply atI_litG); rfl) | ((fail_if_success (with_reducible apply atI_litG)); skip))
local macro_rules | `(tactic| walk_at "call") => `(tactic| fail)
local macro_rules | `(tactic| walk_at "bv") => `(tactic| first
  | (with_reducible apply bv_gB); first
    | (with_reducible exact bv_add) | (with_reducible exact bv_sub) | (with_reducible apply bv_mulS; walk_at "side") | (with_reducible apply bv_divS; walk_at "side") | (with_reducible apply bv_mod; walk_at "side") | (with_reducible apply bv_powS; walk_at "side")
    | (with_reducible apply bv_cat <;> walk_at "side") | (with_reducible apply bv_rep1 <;> walk_at "side") | (with_reducible apply bv_rep <;> walk_at "side") | (with_reducible apply bv_catT <;> walk_at "side")
  | (with_reducible apply bv_gC); first
    | (with_reducible exact bv_lt) | (with_reducible exact bv_le) | (with_reducible exact bv_gt) | (with_reducible exact bv_ge) | (with_reducible exact bv_eqI) | (with_reducible exact bv_neI) | (with_reducible exact bv_eqS) | (with_reducible exact bv_neS) | (with_reducible exact bv_isNone) | (with_reducible exact bv_inT) | (with_reducible exact bv_notin2)
    | (with_reducible apply bv_eqD <;> walk_at "side") | (with_reducible apply bv_neD <;> walk_at "side") | (with_reducible apply bv_inD <;> walk_at "side"))
local macro_rules | `(tactic| walk_at "any") => `(tactic| first
  | (with_reducible apply ee_id); walk_at "go"
  | (with_reducible apply ea_id); first | (with_reducible exact ea_nil) | ((with_reducible apply ea_cons) <;> walk_at "any")
  | (with_reducible apply eb_id); walk_at "gb"
  | (with_reducible apply ew_id); walk_at "gw"
  | (with_reducible apply eo_id); first | (with_reducible exact eo_none) | (apply eo_some; walk_at "go")
  | (with_reducible apply bv_id); walk_at "bv"
  | (fail_if_success (with_reducible apply ee_id)); (fail_if_success (with_reducible apply ea_id)); (fail_if_success (with_reducible apply eb_id)); (fail_if_success (with_reducible apply ew_id)); (fail_if_success (with_reducible apply bv_id)); first
    | (intro _; walk_at "any")
    | rfl | (walk_at "mg") | decide | (intro _; rfl) | (intro _ _; rfl) | (walk_at "side"))
local macro_rules | `(tactic| walk_at "gb") => `(tactic| first
  | (with_reducible apply eb_not); walk_at "gb"
  | (with_reducible apply eb_cmp) <;> walk_at "any"
  | (with_reducible apply EW.eb); walk_at "gw"
  | (apply eb_val) <;> walk_at "any")
local macro_rules | `(tactic| walk_at "gw") => `(tactic| first
  | (with_reducible apply ew_and) <;> walk_at "any"
  | (with_reducible apply ew_or) <;> walk_at "any"
  | (with_reducible apply ew_and1); walk_at "gb"
  | (with_reducible apply ew_or1); walk_at "gb")
local macro_rules | `(tactic| walk_at "go") => `(tactic| first
  | (with_reducible apply ee_nm); first | walk_at "var" | walk_at "glo"
  | (with_reducible apply g_const); first | (with_reducible exact ee_int) | (with_reducible exact ee_str) | (with_reducible exact ee_bl) | (with_reducible exact ee_non)
  | (with_reducible apply g_call); first
    | (with_reducible apply g_call1); first | ((with_reducible apply ee_lenL) <;> walk_at "any") | ((with_reducible apply ee_lenT) <;> walk_at "any") | ((with_reducible apply ee_intIN) <;> walk_at "any") | ((with_reducible apply ee_intBN) <;> walk_at "any") | ((with_reducible apply ee_tupN) <;> walk_at "any") | ((with_reducible apply ee_absN) <;> walk_at "any") | ((with_reducible apply ee_sumN) <;> walk_at "any") | ((with_reducible apply ee_sumTN) <;> walk_at "any") | ((with_reducible apply ee_allN) <;> walk_at "any") | ((with_reducible apply ee_lstN) <;> walk_at "any") | walk_at "call"
    | (with_reducible apply g_call2); first | ((with_reducible apply ee_isInt) <;> walk_at "any") | ((with_reducible apply ee_isBool) <;> walk_at "any") | ((with_reducible apply ee_isTup) <;> walk_at "any") | ((with_reducible apply ee_isStr) <;> walk_at "any") | ((with_reducible apply ee_minN) <;> walk_at "any") | ((with_reducible apply ee_maxN) <;> walk_at "any") | walk_at "call"
    | walk_at "call"
  | ((with_reducible apply ee_bin) <;> walk_at "any")
  | (with_reducible apply g_cmp); first | ((with_reducible apply ee_cmp) <;> walk_at "any") | ((with_reducible apply ee_chain) <;> walk_at "any")
  | (with_reducible apply g_sub); first | ((with_reducible apply ee_slL) <;> walk_at "any") | ((with_reducible apply ee_cell) <;> walk_at "any") | ((with_reducible apply ee_ixT) <;> walk_at "any") | ((with_reducible apply ee_ixL) <;> walk_at "any")
  | (with_reducible apply g_un); first | ((with_reducible apply ee_not); walk_at "go") | (with_reducible exact ee_neg)
  | (with_reducible apply g_bool); first | ((with_reducible apply ee_and) <;> walk_at "any") | ((with_reducible apply ee_or) <;> walk_at "any") | ((with_reducible apply ee_and1) <;> walk_at "any")
  | (with_reducible apply g_if); first | ((with_reducible apply ee_ifI) <;> walk_at "any") | ((with_reducible apply ee_if) <;> walk_at "any")
  | (with_reducible apply g_lst); first | ((with_reducible apply ee_lst0) <;> walk_at "any") | ((with_reducible apply ee_lst1) <;> walk_at "any") | ((with_reducible apply ee_lst2) <;> walk_at "any") | ((with_reducible apply ee_lst3) <;> walk_at "any") | ((with_reducible apply ee_lst4) <;> walk_at "any")
  | (with_reducible apply g_tup); first | ((with_reducible apply ee_tup0) <;> walk_at "any") | ((with_reducible apply ee_tup1) <;> walk_at "any") | ((with_reducible apply ee_tup2) <;> walk_at "any") | ((with_reducible apply ee_tup3) <;> walk_at "any") | ((with_reducible apply ee_tup4) <;> walk_at "any"))
local macro_rules | `(tactic| walk_at "loc") => `(tactic| first | exact .inl (by rfl) | exact .inr (by rfl))
local macro_rules | `(tactic| walk_at "locf") => `(tactic| first | exact .inr (by rfl) | exact .inl (by rfl))
local macro_rules | `(tactic| walk_at "iv") => `(tactic| first
  | ((with_reducible apply iv_tup); walk_at "go") | ((with_reducible apply iv_list); walk_at "go")
  | ((with_reducible apply iv_range) <;> walk_at "any") | ((with_reducible apply iv_range2) <;> walk_at "any")
  | ((with_reducible apply iv_enumL) <;> walk_at "any") | ((with_reducible apply iv_enumT) <;> walk_at "any") | ((with_reducible apply iv_enumT1) <;> walk_at "any")
  | ((with_reducible apply iv_zipL) <;> walk_at "any") | ((with_reducible apply iv_zipT) <;> walk_at "any"))
local macro_rules | `(tactic| walk_at "fm") => `(tactic| ((try rw [filter_tt]); first | rfl | (rw [List.map_map]; done) | (rw [List.map_map]; rfl) | (simp only [lI, tI, List.map_map]; done) | (simp only [lI, tI, List.map_map]; rfl)))
local macro_rules | `(tactic| walk_at "call") => `(tactic| (with_reducible apply ee_greatest_of) <;> walk_at "any")
local macro_rules | `(tactic| walk_at "call") => `(tactic| (with_reducible apply ee_first_table) <;> walk_at "any")

local macro_rules | `(tactic| walk_at "call") => `(tactic| (with_reducible apply ee_turned_table) <;> walk_at "any")
local macro_rules | `(tactic| walk_at "call") => `(tactic| (with_reducible apply ee_do_clash) <;> walk_at "any")
local macro_rules | `(tactic| walk_at "call") => `(tactic| (with_reducible apply ee_is_row) <;> walk_at "any")
local macro_rules | `(tactic| walk_at "call") => `(tactic| (with_reducible apply ee_are_halves_of) <;> walk_at "any")
local macro_rules | `(tactic| walk_at "call") => `(tactic| (with_reducible apply ee_rounded_row) <;> walk_at "any")
local macro_rules | `(tactic| walk_at "call") => `(tactic| (with_reducible apply ee_rounded_rowL) <;> walk_at "any")
local macro_rules | `(tactic| walk_at "call") => `(tactic| (with_reducible apply ee_sign_in) <;> walk_at "any")
local macro_rules | `(tactic| walk_at "call") => `(tactic| (with_reducible apply ee_heft_at) <;> walk_at "any")
local macro_rules | `(tactic| walk_at "call") => `(tactic| (with_reducible apply ee_are_rising) <;> walk_at "any")
local macro_rules | `(tactic| walk_at "call") => `(tactic| (with_reducible apply ee_is_literal) <;> walk_at "any")
local macro_rules | `(tactic| walk_at "call") => `(tactic| (with_reducible apply ee_is_clause) <;> walk_at "any")
local macro_rules | `(tactic| walk_at "call") => `(tactic| (with_reducible apply ee_weight_of) <;> walk_at "any")
local macro_rules | `(tactic| walk_at "call") => `(tactic| (with_reducible apply ee_does_weigh) <;> walk_at "any")
local macro_rules | `(tactic| walk_at "call") => `(tactic| (with_reducible apply ee_is_integer) <;> walk_at "any")
local macro_rules | `(tactic| walk_at "call") => `(tactic| (with_reducible apply ee_is_between) <;> walk_at "any")
def CsAsc (cs : List (List Int)) : Prop := ∀ j, j + 1 < cs.length → cs.getD j [] < cs.getD (j + 1) []
structure BuOk (n : Nat) (cs : List (List Int)) : Prop extends CsOk n cs where
  asc : CsAsc cs
theorem enumT_at {cs : List (List Int)} {j : Nat} {d e : PyData} (h : (cs.zipIdx.map fun q => (nI q.2, tI q.1))[j]? = some (d, e)) : j < cs.length ∧ d = nI j ∧ e = tI (cs.getD j []) := by
  rw [List.getElem?_map, List.getElem?_zipIdx] at h
  by_cases hj : j < cs.length
  · rw [List.getElem?_eq_getElem hj] at h
    have h := Option.some.inj h
    refine ⟨hj, ?_, ?_⟩
    · exact (Prod.mk.inj h).1.symm.trans (by show nI (0 + j) = nI j; rw [Nat.zero_add])
    · exact (Prod.mk.inj h).2.symm.trans (by rw [List.getD_eq_getElem?_getD, List.getElem?_eq_getElem hj]; rfl)
  · rw [List.getElem?_eq_none (by omega)] at h; cases h
theorem sc16 : FnScope ["thing", "names", "clauses", "number", "clause"] ["thing"] (defScope (top 16)) := ⟨rfl, rfl, rfl, by decide +kernel, rfl, by decide +kernel, by decide +kernel⟩
local macro_rules | `(tactic| walk_at "var") => `(tactic| first | ((with_reducible apply ee_varQ (x := "thing") (i := 0)) <;> walk_at "vs") | ((with_reducible apply ee_varQ (x := "names") (i := 1)) <;> walk_at "vs") | ((with_reducible apply ee_varQ (x := "clauses") (i := 2)) <;> walk_at "vs") | ((with_reducible apply ee_varQ (x := "number") (i := 3)) <;> walk_at "vs") | ((with_reducible apply ee_varQ (x := "clause") (i := 4)) <;> walk_at "vs"))
local macro_rules | `(tactic| walk_at "nd") => `(tactic| exact sc16.nd)
theorem ok_need_bundle (T : Txt K mg) : FnD P w K mg base 4 "need_bundle" ["thing"] (pureD fun xs r => ∃ (n : Nat) (cs : List (List Int)), xs = [.d (bun n cs)] ∧ BuOk n cs ∧ r = bun n cs) := by
  refine fnd T 6 rfl rfl sc16 (fun _ _ _ _ _ _ us hl => match us, hl with | [_], _ => rfl) (fun xs M Φ h => ?_) (fun a cdv A outer s H E xs M Φ hr h => ?_)
  · obtain ⟨r, ⟨n, cs, rfl, _, rfl⟩, q⟩ := h
    rfl
  · obtain ⟨r, ⟨n, cs, rfl, hb, rfl⟩, q⟩ := h
    have h7 := hb.le
    have h16 := hb.len
    refine ws_cons (w1_ifE (p := false) (EB.to (EW.eb (ew_or (p := false) (r := false) (EB.to (b := !isTup (bun n cs)) ?_ rfl) (fun _ => ew_or1 (EB.to (b := !decide (((([PyData.int (n : Int), .tuple (cs.map tI)] : List PyData).length : Nat) : Int) = 2)) ?_ ?_)))) rfl) (fun h => nomatch h) (fun _ => ws_nil ?_))
    · walk_at "gb"
    · walk_at "gb"
    · rfl
    refine ws_cons (w1_asgT (is := [1, 2]) (by rfl) (gn_cons (by walk_at "nd") (by rfl) (by walk_at "loc") (by walk_at "locf") (gn_cons (by walk_at "nd") (by rfl) (by walk_at "loc") (by walk_at "locf") gn_nil (by rfl)) (by rfl)) (by rfl) (by rfl) (by rfl) (by rfl) (by rfl) (EE.ev (d := bun n cs) ?_ ⟨_, rfl, rfl, ?_⟩))
    · walk_at "any"
    refine ws_cons (w1_ifE (p := false) (EB.to (b := !betw (.int n) 1 7) (eb_not (eb_val (fun _ => rfl) ?_)) ?_) (fun h => nomatch h) (fun _ => ws_nil ?_))
    · walk_at "any"
    · show (!(decide ((1 : Int) ≤ (n : Int)) && decide ((n : Int) ≤ 7))) = false
      have := hb.pos
      rw [decide_eq_true (by omega), decide_eq_true (by omega)]; rfl
    refine ws_cons (w1_ifE (p := false) (EB.to (EW.eb (ew_or (p := false) (r := false) (EB.to (b := !isTup (.tuple (cs.map tI))) ?_ rfl) (fun _ => ew_or1 (EB.to (b := decide (16 < ((cs.map tI).length : Int))) ?_ ?_)))) rfl) (fun h => nomatch h) (fun _ => ws_nil ?_))
    · walk_at "gb"
    · walk_at "gb"
    · rw [List.length_map]; exact decide_eq_false (by omega)
    refine ws_cons (w1_forT (i := 3) (l := 4) (ds := cs.zipIdx.map fun q => (nI q.2, tI q.1)) (fun j δ' M' => M' = M ∧ ∃ u1 u2, δ' = [some (.d (bun n cs)), some (.d (.int (n : Int))), some (.d (.tuple (cs.map tI))), u1, u2]) ?_ ⟨rfl, none, none, rfl⟩ ?_ ?_ (by walk_at "nd") (by rfl) (by rfl) (by walk_at "loc") (by walk_at "locf") (by walk_at "loc") (by walk_at "locf") PassesOwn.never (by rfl) (fun _ => by rfl))
    · apply IV.to
      walk_at "iv"
      rw [List.zipIdx_map, List.map_map, List.map_map]
      exact List.map_congr_left fun q _ => by
        show PyData.tuple [.int (0 + (q.2 : Int)), _] = _
        rw [Int.zero_add]; rfl
    · rintro j d e δ' M' hd ⟨rfl, u1, u2, rfl⟩
      obtain ⟨hj, rfl, rfl⟩ := enumT_at hd
      have hm : cs.getD j [] ∈ cs := by
        rw [List.getD_eq_getElem?_getD, List.getElem?_eq_getElem hj]
        exact List.getElem_mem _
      refine ws_cons (w1_ifE (p := false) (EB.to (EW.eb (ew_or (p := false) (r := false) (EB.to (b := !true) (eb_not (eb_val (fun _ => rfl) ?_)) rfl) (fun _ => ew_or1 (EB.to (EW.eb (ew_and (p := decide (0 < (j : Int))) (r := false) ?_ (fun hp => ew_and1 (eb_cmp (by rfl) (d1 := tI (cs.getD (j - 1) [])) (d2 := tI (cs.getD j [])) ?_ ?_ ?_)))) (Bool.and_false _))))) rfl) (fun h => nomatch h) (fun _ => ws_nil (ws_nil ⟨rfl, _, _, rfl⟩)))
      · walk_at "any"
        exact hb.ok _ hm
      · walk_at "gb"
      · have hp := of_decide_eq_true hp
        refine ee_ixT (ds := cs.map tI) (i := (j : Int) - 1) ?_ ?_ ?_ (by intro _ _; rfl)
        · walk_at "any"
        · walk_at "any"
        · have e : (j : Int) - 1 = ((j - 1 : Nat) : Int) := by omega
          rw [e]
          exact at_nat (d := []) (by omega)
      · walk_at "any"
      · have hp := of_decide_eq_true hp
        have := hb.asc (j - 1) (by omega)
        rw [show j - 1 + 1 = j by omega] at this
        have e := bv_geT (X := Xj P w K mg base _ _ 16 a cdv A outer s H E) hr.units (a := cs.getD (j - 1) []) (b := cs.getD j [])
        rw [decide_eq_true this] at e
        exact e
    · rintro δ' M' ⟨rfl, u1, u2, rfl⟩
      refine ws_cons (w1_retE ?_ q)
      walk_at "any"
theorem ee_need_bundle {X : Cx} {δ : En} {pos p : Pos} {e : Expr} {k' : Nat} {n : Nat} {cs : List (List Int)} (h_e : EE X e δ (bun n cs)) (s0 : BuOk n cs) (T : Txt X.K X.mg) (hr : Room k' X.A) (hk : 4 ≤ k') (hg : Gl X "need_bundle") (q0 : starEach (e :: []) X.env = (false, eval e X.env) :: starEach [] X.env) (hpl : (backTo pos (starEach [] X.env)).any (·.1) = false) : EE X (.Call (.Name "need_bundle" p) [e] [] pos) δ (bun n cs) :=
  ee_callK (ok_need_bundle T) (ea_cons q0 h_e ea_nil) (⟨n, cs, rfl, s0, rfl⟩) hr hk hg q0 hpl (by decide)
local macro_rules | `(tactic| walk_at "call") => `(tactic| (with_reducible apply ee_need_bundle) <;> walk_at "any")
theorem sc31 : FnScope ["bundle", "value"] ["bundle", "value"] (defScope (top 31)) := ⟨rfl, rfl, rfl, by decide +kernel, rfl, by decide +kernel, by decide +kernel⟩
local macro_rules | `(tactic| walk_at "var") => `(tactic| first | ((with_reducible apply ee_varQ (x := "bundle") (i := 0)) <;> walk_at "vs") | ((with_reducible apply ee_varQ (x := "value") (i := 1)) <;> walk_at "vs"))
local macro_rules | `(tactic| walk_at "nd") => `(tactic| exact sc31.nd)
theorem ok_are_halves (T : Txt K mg) : FnD P w K mg base 5 "are_halves" ["bundle", "value"] (pureD fun xs r => ∃ (n : Nat) (cs : List (List Int)) (d : PyData), xs = [.d (bun n cs), .d d] ∧ BuOk n cs ∧ flatD d = true ∧ (intsOf d).length ≤ 100000 ∧ r = .bool (halvD n cs d)) := by
  refine fnd T 16 rfl rfl sc31 (fun _ _ _ _ _ _ us hl => match us, hl with | [_, _], _ => rfl) (fun xs M Φ h => ?_) (fun a cdv A outer s H E xs M Φ hr h => ?_)
  · obtain ⟨r, ⟨n, cs, d, rfl, _, _, _, rfl⟩, q⟩ := h
    rfl
  · obtain ⟨r, ⟨n, cs, d, rfl, hb, hf, hl, rfl⟩, q⟩ := h
    have hb' := hb.toCsOk
    refine ws_cons (w1_retE ?_ q)
    walk_at "any"
theorem ee_are_halves {X : Cx} {δ : En} {pos p : Pos} {e e2 : Expr} {k' : Nat} {n : Nat} {cs : List (List Int)} {d : PyData} (h_e : EE X e δ (bun n cs)) (h_e2 : EE X e2 δ d) (s0 : BuOk n cs) (s1 : flatD d = true) (s2 : (intsOf d).length ≤ 100000) (T : Txt X.K X.mg) (hr : Room k' X.A) (hk : 5 ≤ k') (hg : Gl X "are_halves") (q0 : starEach (e :: [e2]) X.env = (false, eval e X.env) :: starEach [e2] X.env) (q1 : starEach (e2 :: []) X.env = (false, eval e2 X.env) :: starEach [] X.env) (hpl : (backTo pos (starEach [e2] X.env)).any (·.1) = false) : EE X (.Call (.Name "are_halves" p) [e, e2] [] pos) δ (.bool (halvD n cs d)) :=
  ee_callK (ok_are_halves T) (ea_cons q0 h_e (ea_cons q1 h_e2 ea_nil)) (⟨n, cs, d, rfl, s0, s1, s2, rfl⟩) hr hk hg q0 hpl (by decide)
local macro_rules | `(tactic| walk_at "call") => `(tactic| (with_reducible apply ee_are_halves) <;> walk_at "any")
theorem sc23 : FnScope ["paper", "words"] ["paper", "words"] (defScope (top 23)) := ⟨rfl, rfl, rfl, by decide +kernel, rfl, by decide +kernel, by decide +kernel⟩
local macro_rules | `(tactic| walk_at "var") => `(tactic| first | ((with_reducible apply ee_varQ (x := "paper") (i := 0)) <;> walk_at "vs") | ((with_reducible apply ee_varQ (x := "words") (i := 1)) <;> walk_at "vs"))
local macro_rules | `(tactic| walk_at "nd") => `(tactic| exact sc23.nd)
theorem ok_need_form (T : Txt K mg) : FnD P w K mg base 1 "need_form" ["paper", "words"] (pureD fun xs r => ∃ (x : Str) (d : PyData), xs = [.d (.tuple [.str x, d]), .d (.tuple [.str "halves", .str "clash"])] ∧ (x = "halves" ∨ x = "clash") ∧ r = .none) := by
  refine fnd T 11 rfl rfl sc23 (fun _ _ _ _ _ _ us hl => match us, hl with | [_, _], _ => rfl) (fun xs M Φ h => ?_) (fun a cdv A outer s H E xs M Φ hr h => ?_)
  · obtain ⟨r, ⟨x, d, rfl, _, rfl⟩, q⟩ := h
    rfl
  · obtain ⟨r, ⟨x, d, rfl, hx, rfl⟩, q⟩ := h
    refine ws_cons (w1_ifE (p := false) (EB.to (EW.eb (ew_or (p := false) (r := false) (EB.to (b := !isTup (.tuple [.str x, d])) ?_ rfl) (fun _ => ew_or (p := false) (r := false) (EB.to (b := !decide (((([PyData.str x, d] : List PyData).length : Nat) : Int) = 2)) ?_ ?_) (fun _ => ew_or (p := false) (r := false) (EB.to (b := !isStr (.str x)) (eb_not (eb_val (fun _ => rfl) (ee_isStr (ee_ixT (ds := [.str x, d]) (i := 0) ?_ ee_int rfl (by intro _ _; rfl)) rfl (by walk_at "mg") (by walk_at "mg") (by rfl) (by rfl) (by rfl)))) rfl) (fun _ => ew_or1 (EB.to (eb_cmp (by rfl) (ee_ixT (ds := [.str x, d]) (i := 0) ?_ ee_int rfl (by intro _ _; rfl)) ?_ (bv_notin2 (a := "halves") (b := "clash"))) ?_)))))) rfl) (fun h => nomatch h) (fun _ => ws_nil (ws_nil q)))
    · walk_at "gb"
    · walk_at "gb"
    · rfl
    · walk_at "any"
    · walk_at "any"
    · walk_at "any"
    · rcases hx with rfl | rfl
      · rfl
      · rfl
theorem ee_need_form {X : Cx} {δ : En} {pos p : Pos} {e e2 : Expr} {k' : Nat} {x : Str} {d : PyData} (h_e : EE X e δ (.tuple [.str x, d])) (h_e2 : EE X e2 δ (.tuple [.str "halves", .str "clash"])) (s0 : x = "halves" ∨ x = "clash") (T : Txt X.K X.mg) (hr : Room k' X.A) (hk : 1 ≤ k') (hg : Gl X "need_form") (q0 : starEach (e :: [e2]) X.env = (false, eval e X.env) :: starEach [e2] X.env) (q1 : starEach (e2 :: []) X.env = (false, eval e2 X.env) :: starEach [] X.env) (hpl : (backTo pos (starEach [e2] X.env)).any (·.1) = false) : EE X (.Call (.Name "need_form" p) [e, e2] [] pos) δ .none :=
  ee_callK (ok_need_form T) (ea_cons q0 h_e (ea_cons q1 h_e2 ea_nil)) (⟨x, d, rfl, s0, rfl⟩) hr hk hg q0 hpl (by decide)
local macro_rules | `(tactic| walk_at "call") => `(tactic| (with_reducible apply ee_need_form) <;> walk_at "any")
end
end KP
namespace KP
open PySem PySem.Spec PyProof.Rows L2 DL
section
variable {P : Program} {w : World} {K : PySem.W.Frag} {mg : Str → Option Value} {base : Heap}
/-! steps -/
local macro_rules | `(tactic| walk_at "vis") => `(tactic| first | exact vis_l (by rfl) | exact vis_c (by rfl) | exact vis_f (by rfl))
local macro_rules | `(tactic| walk_at "vs") => `(tactic| first | rfl | (walk_at "vis") | decide)
local macro_rules | `(tactic| walk_at "mg") => `(tactic| exact z_of (by assumption) (by decide +kernel))
local macro_rules | `(tactic| walk_at "var") => `(tactic| fail)
local macro_rules | `(tactic| walk_at "glo") => `(tactic| first | exact ee_names (by assumption) (by rfl) (by rfl) | exact ee_clauses (by assumption) (by rfl) (by rfl) | exact ee_halvesS (by assumption) (by rfl) (by rfl) | exact ee_clashS (by assumption) (by rfl) (by rfl))
local macro_rules | `(tactic| walk_at "side") => `(tactic| first | assumption | ((with_reducible apply atI_litG); rfl) | ((fail_if_success (with_reducible apply atI_litG)); skip))
local macro_rules | `(tactic| walk_at "call") => `(tactic| fail)
local macro_rules | `(tactic| walk_at "bv") => `(tactic| first
  | (with_reducible apply bv_gB); first
    | (with_reducible exact bv_add) | (with_reducible exact bv_sub) | (with_reducible apply bv_mulS; walk_at "side") | (with_reducible apply bv_divS; walk_at "side") | (with_reducible apply bv_mod; walk_at "side") | (with_reducible apply bv_powS; walk_at "side")
    | (with_reducible apply bv_cat <;> walk_at "side") | (with_reducible apply bv_rep1 <;> walk_at "side") | (with_reducible apply bv_rep <;> walk_at "side") | (with_reducible apply bv_catT <;> walk_at "side")
  | (with_reducible apply bv_gC); first
    | (with_reducible exact bv_lt) | (with_reducible exact bv_le) | (with_reducible exact bv_gt) | (with_reducible exact bv_ge) | (with_reducible exact bv_eqI) | (with_reducible exact bv_neI) | (with_reducible exact bv_eqS) | (with_reducible exact bv_neS) | (with_reducible exact bv_isNone) | (with_reducible exact bv_inT) | (with_reducible exact bv_notin2)
    | (with_reducible apply bv_eqD <;> walk_at "side") | (with_reducible apply bv_neD <;> walk_at "side") | (with_reducible apply bv_inD <;> walk_at "side"))
local macro_rules | `(tactic| walk_at "any") => `(tactic| first
  | (with_reducible apply ee_id); walk_at "go"
  | (with_reducible apply ea_id); first | (with_reducible exact ea_nil) | ((with_reducible apply ea_cons) <;> walk_at "any")
  | (with_reducible apply eb_id); walk_at "gb"
  | (with_reducible apply ew_id); walk_at "gw"
  | (with_reducible apply eo_id); first | (with_reducible exact eo_none) | (apply eo_some; walk_at "go")
  | (with_reducible apply bv_id); walk_at "bv"
  | (fail_if_success (with_reducible apply ee_id)); (fail_if_success (with_reducible apply ea_id)); (fail_if_success (with_reducible apply eb_id)); (fail_if_success (with_reducible apply ew_id)); (fail_if_success (with_reducible apply bv_id)); first
    | (intro _; walk_at "any")
    | rfl | (walk_at "mg") | decide | (intro _; rfl) | (intro _ _; rfl) | (walk_at "side"))
local macro_rules | `(tactic| walk_at "gb") => `(tactic| first
  | (with_reducible apply eb_not); walk_at "gb"
  | (with_reducible apply eb_cmp) <;> walk_at "any"
  | (with_reducible apply EW.eb); walk_at "gw"
  | (apply eb_val) <;> walk_at "any")
local macro_rules | `(tactic| walk_at "gw") => `(tactic| first
  | (with_reducible apply ew_and) <;> walk_at "any"
  | (with_reducible apply ew_or) <;> walk_at "any"
  | (with_reducible apply ew_and1); walk_at "gb"
  | (with_reducible apply ew_or1); walk_at "gb")
local macro_rules | `(tactic| walk_at "go") => `(tactic| first
  | (with_reducible apply ee_nm); first | walk_at "var" | walk_at "glo"
  | (with_reducible apply g_const); first | (with_reducible exact ee_int) | (with_reducible exact ee_str) | (with_reducible exact ee_bl) | (with_reducible exact ee_non)
  | (with_reducible apply g_call); first
    | (with_reducible apply g_call1); first | ((with_reducible apply ee_lenL) <;> walk_at "any") | ((with_reducible apply ee_lenT) <;> walk_at "any") | ((with_reducible apply ee_intIN) <;> walk_at "any") | ((with_reducible apply ee_intBN) <;> walk_at "any") | ((with_reducible apply ee_tupN) <;> walk_at "any") | ((with_reducible apply ee_absN) <;> walk_at "any") | ((with_reducible apply ee_sumN) <;> walk_at "any") | ((with_reducible apply ee_sumTN) <;> walk_at "any") | ((with_reducible apply ee_allN) <;> walk_at "any") | ((with_reducible apply ee_lstN) <;> walk_at "any") | walk_at "call"
    | (with_reducible apply g_call2); first | ((with_reducible apply ee_isInt) <;> walk_at "any") | ((with_reducible apply ee_isBool) <;> walk_at "any") | ((with_reducible apply ee_isTup) <;> walk_at "any") | ((with_reducible apply ee_isStr) <;> walk_at "any") | ((with_reducible apply ee_minN) <;> walk_at "any") | ((with_reducible apply ee_maxN) <;> walk_at "any") | walk_at "call"
    | walk_at "call"
  | ((with_reducible apply ee_bin) <;> walk_at "any")
  | (with_reducible apply g_cmp); first | ((with_reducible apply ee_cmp) <;> walk_at "any") | ((with_reducible apply ee_chain) <;> walk_at "any")
  | (with_reducible apply g_sub); first | ((with_reducible apply ee_slL) <;> walk_at "any") | ((with_reducible apply ee_cell) <;> walk_at "any") | ((with_reducible apply ee_ixT) <;> walk_at "any") | ((with_reducible apply ee_ixL) <;> walk_at "any")
  | (with_reducible apply g_un); first | ((with_reducible apply ee_not); walk_at "go") | (with_reducible exact ee_neg)
  | (with_reducible apply g_bool); first | ((with_reducible apply ee_and) <;> walk_at "any") | ((with_reducible apply ee_or) <;> walk_at "any") | ((with_reducible apply ee_and1) <;> walk_at "any")
  | (with_reducible apply g_if); first | ((with_reducible apply ee_ifI) <;> walk_at "any") | ((with_reducible apply ee_if) <;> walk_at "any")
  | (with_reducible apply g_lst); first | ((with_reducible apply ee_lst0) <;> walk_at "any") | ((with_reducible apply ee_lst1) <;> walk_at "any") | ((with_reducible apply ee_lst2) <;> walk_at "any") | ((with_reducible apply ee_lst3) <;> walk_at "any") | ((with_reducible apply ee_lst4) <;> walk_at "any")
  | (with_reducible apply g_tup); first | ((with_reducible apply ee_tup0) <;> walk_at "any") | ((with_reducible apply ee_tup1) <;> walk_at "any") | ((with_reducible apply ee_tup2) <;> walk_at "any") | ((with_reducible apply ee_tup3) <;> walk_at "any") | ((with_reducible apply ee_tup4) <;> walk_at "any"))
local macro_rules | `(tactic| walk_at "loc") => `(tactic| first | exact .inl (by rfl) | exact .inr (by rfl))
local macro_rules | `(tactic| walk_at "locf") => `(tactic| first | exact .inr (by rfl) | exact .inl (by rfl))
local macro_rules | `(tactic| walk_at "iv") => `(tactic| first
  | ((with_reducible apply iv_tup); walk_at "go") | ((with_reducible apply iv_list); walk_at "go")
  | ((with_reducible apply iv_range) <;> walk_at "any") | ((with_reducible apply iv_range2) <;> walk_at "any")
  | ((with_reducible apply iv_enumL) <;> walk_at "any") | ((with_reducible apply iv_enumT) <;> walk_at "any") | ((with_reducible apply iv_enumT1) <;> walk_at "any")
  | ((with_reducible apply iv_zipL) <;> walk_at "any") | ((with_reducible apply iv_zipT) <;> walk_at "any"))
local macro_rules | `(tactic| walk_at "fm") => `(tactic| ((try rw [filter_tt]); first | rfl | (rw [List.map_map]; done) | (rw [List.map_map]; rfl) | (simp only [lI, tI, List.map_map]; done) | (simp only [lI, tI, List.map_map]; rfl)))
local macro_rules | `(tactic| walk_at "call") => `(tactic| (with_reducible apply ee_need_bundle) <;> walk_at "any")
local macro_rules | `(tactic| walk_at "call") => `(tactic| (with_reducible apply ee_are_halves) <;> walk_at "any")
local macro_rules | `(tactic| walk_at "call") => `(tactic| (with_reducible apply ee_need_form) <;> walk_at "any")
local macro_rules | `(tactic| walk_at "call") => `(tactic| (with_reducible apply ee_greatest_of) <;> walk_at "any")
local macro_rules | `(tactic| walk_at "call") => `(tactic| (with_reducible apply ee_first_table) <;> walk_at "any")

local macro_rules | `(tactic| walk_at "call") => `(tactic| (with_reducible apply ee_turned_table) <;> walk_at "any")
local macro_rules | `(tactic| walk_at "call") => `(tactic| (with_reducible apply ee_do_clash) <;> walk_at "any")
local macro_rules | `(tactic| walk_at "call") => `(tactic| (with_reducible apply ee_is_row) <;> walk_at "any")
local macro_rules | `(tactic| walk_at "call") => `(tactic| (with_reducible apply ee_are_halves_of) <;> walk_at "any")
local macro_rules | `(tactic| walk_at "call") => `(tactic| (with_reducible apply ee_rounded_row) <;> walk_at "any")
local macro_rules | `(tactic| walk_at "call") => `(tactic| (with_reducible apply ee_rounded_rowL) <;> walk_at "any")
local macro_rules | `(tactic| walk_at "call") => `(tactic| (with_reducible apply ee_sign_in) <;> walk_at "any")
local macro_rules | `(tactic| walk_at "call") => `(tactic| (with_reducible apply ee_heft_at) <;> walk_at "any")
local macro_rules | `(tactic| walk_at "call") => `(tactic| (with_reducible apply ee_are_rising) <;> walk_at "any")
local macro_rules | `(tactic| walk_at "call") => `(tactic| (with_reducible apply ee_is_literal) <;> walk_at "any")
local macro_rules | `(tactic| walk_at "call") => `(tactic| (with_reducible apply ee_is_clause) <;> walk_at "any")
local macro_rules | `(tactic| walk_at "call") => `(tactic| (with_reducible apply ee_weight_of) <;> walk_at "any")
local macro_rules | `(tactic| walk_at "call") => `(tactic| (with_reducible apply ee_does_weigh) <;> walk_at "any")
local macro_rules | `(tactic| walk_at "call") => `(tactic| (with_reducible apply ee_is_integer) <;> walk_at "any")
local macro_rules | `(tactic| walk_at "call") => `(tactic| (with_reducible apply ee_is_between) <;> walk_at "any")
theorem vals_sml {f : Nat → Int} {size : Nat} : ∀ (l : List (Nat × Nat)) (vs : List Int), (∀ x ∈ vs, sml x) → (∀ p ∈ l, sml (f p.2)) → ∀ x ∈ l.foldl (fun vs p => if p.1 < size then vs.set p.1 (f p.2) else vs) vs, sml x
  | [], vs, h, _ => h
  | p :: l, vs, h, hf => by
    rw [List.foldl_cons]
    refine vals_sml l _ (fun x hx => ?_) (fun q hq => hf q (List.mem_cons_of_mem _ hq))
    split at hx
    · rcases List.mem_or_eq_of_mem_set hx with z | z
      · exact h x z
      · rw [z]; exact hf p List.mem_cons_self
    · exact h x hx
theorem values_sml {n : Nat} {cs : List (List Int)} (hb : CsOk n cs) : ∀ x ∈ IC.valuesOf (n + 1) (wideW n cs) (IC.endW n cs), sml x := by
  obtain ⟨hG, _⟩ := IC.endW_ok (n := n) (cs := cs)
  have hT := tab_w hb hG
  unfold IC.valuesOf
  refine vals_sml (f := fun i => (((IC.endW n cs).T.getD i []).getLastD 0)) _ _ (fun x hx => ?_) fun p hp => ?_
  · rw [List.eq_of_mem_replicate hx]
    show (0 : Nat).log2 < 9000
    decide +kernel
  · have h2 : p.2 < (IC.endW n cs).base.length := by
      obtain ⟨a, b⟩ := p
      have := List.snd_lt_of_mem_zipIdx hp
      simpa using this
    rw [hG.base] at h2
    show sml (((IC.endW n cs).T.getD p.2 []).getLastD 0)
    rw [hT.shape.last (Nat.le_of_lt h2)]
    exact hT.sml _ _ (Nat.le_of_lt h2) (Nat.le_refl _)
theorem over_sml {n : Nat} {cs : List (List Int)} (hb : CsOk n cs) : sml (IC.overOf cs) := by
  have h1 := (IC.overOf_ge (cs := cs)).1
  have h2 := IC.overOf_le hb.pos hb.ok
  have h7 := hb.le
  refine sml_big ?_
  have : 7 ≤ IC.bigZ := by decide +kernel
  omega
theorem neg_eq {c : List Int} : ((c.filter fun l => decide (l < 0)).map PyData.int).length = IC.negs c := by rw [List.length_map]; rfl
open Classical in
noncomputable def pairW (n : Nat) (cs : List (List Int)) : PyData := if IC.bestW n cs = IC.overOf cs * (IC.endW n cs).m then .tuple [tI (IC.rowW n cs), .none] else .tuple [.none, tI (IC.heftsW n cs)]
def bndTo (n : Nat) (cs : List (List Int)) (j : Nat) : List (List Int) := (cs.map fun c => ((List.range n).map fun v : Nat => IC.signIn c (1 + (v : Int))) ++ [1]) ++ (List.range j).map fun v : Nat => (List.range (n + 1)).map fun far : Nat => IC.b2 (decide ((far : Int) = (v : Int)))
def limTo (n : Nat) (cs : List (List Int)) (j : Nat) : List Int := (cs.map fun c => 1 + IC.overOf cs - (IC.negs c : Int)) ++ (List.range j).map fun v : Nat => if (v : Int) < (n : Int) then 1 else IC.overOf cs
theorem bndTo_succ {n : Nat} {cs : List (List Int)} {j : Nat} : bndTo n cs (j + 1) = bndTo n cs j ++ [(List.range (n + 1)).map fun far : Nat => IC.b2 (decide ((far : Int) = (j : Int)))] := by
  unfold bndTo
  rw [show List.range (j + 1) = List.range j ++ [j] from List.range_succ, List.map_append, ← List.append_assoc]; rfl
theorem limTo_succ {n : Nat} {cs : List (List Int)} {j : Nat} : limTo n cs (j + 1) = limTo n cs j ++ [if (j : Int) < (n : Int) then 1 else IC.overOf cs] := by
  unfold limTo
  rw [show List.range (j + 1) = List.range j ++ [j] from List.range_succ, List.map_append, ← List.append_assoc]; rfl
theorem rangeD_map {lo : Int} {n : Nat} : rangeD lo n = (List.range n).map fun v : Nat => PyData.int (lo + (v : Int)) := rfl
theorem sc37 : FnScope ["bundle", "names", "clauses", "over", "bounds", "limits", "name", "best", "values", "prices", "measure", "clause", "far", "one"] ["bundle"] (defScope (top 37)) := ⟨rfl, rfl, rfl, by decide +kernel, rfl, by decide +kernel, by decide +kernel⟩
local macro_rules | `(tactic| walk_at "var") => `(tactic| first | ((with_reducible apply ee_varQ (x := "bundle") (i := 0)) <;> walk_at "vs") | ((with_reducible apply ee_varQ (x := "names") (i := 1)) <;> walk_at "vs") | ((with_reducible apply ee_varQ (x := "clauses") (i := 2)) <;> walk_at "vs") | ((with_reducible apply ee_varQ (x := "over") (i := 3)) <;> walk_at "vs") | ((with_reducible apply ee_varQ (x := "bounds") (i := 4)) <;> walk_at "vs") | ((with_reducible apply ee_varQ (x := "limits") (i := 5)) <;> walk_at "vs") | ((with_reducible apply ee_varQ (x := "name") (i := 6)) <;> walk_at "vs") | ((with_reducible apply ee_varQ (x := "best") (i := 7)) <;> walk_at "vs") | ((with_reducible apply ee_varQ (x := "values") (i := 8)) <;> walk_at "vs") | ((with_reducible apply ee_varQ (x := "prices") (i := 9)) <;> walk_at "vs") | ((with_reducible apply ee_varQ (x := "measure") (i := 10)) <;> walk_at "vs") | ((with_reducible apply ee_varQ (x := "clause") (i := 11)) <;> walk_at "vs") | ((with_reducible apply ee_varQ (x := "far") (i := 12)) <;> walk_at "vs") | ((with_reducible apply ee_varQ (x := "one") (i := 13)) <;> walk_at "vs"))
local macro_rules | `(tactic| walk_at "nd") => `(tactic| exact sc37.nd)
theorem ok_weighed_in (T : Txt K mg) : FnD P w K mg base 3 "weighed_in" ["bundle"] (pureD fun xs r => ∃ (n : Nat) (cs : List (List Int)), xs = [.d (bun n cs)] ∧ CsOk n cs ∧ r = pairW n cs) := by
  refine fnd T 22 rfl rfl sc37 (fun _ _ _ _ _ _ us hl => match us, hl with | [_], _ => rfl) (fun xs M Φ h => ?_) (fun a cdv A outer s H E xs M Φ hr h => ?_)
  · obtain ⟨r, ⟨n, cs, rfl, _, rfl⟩, q⟩ := h
    rfl
  · obtain ⟨r, ⟨n, cs, rfl, hb, rfl⟩, q⟩ := h
    have h7 := hb.le
    have h16 := hb.len
    refine ws_cons (w1_asgT (is := [1, 2]) (by rfl) (gn_cons (by walk_at "nd") (by rfl) (by walk_at "loc") (by walk_at "locf") (gn_cons (by walk_at "nd") (by rfl) (by walk_at "loc") (by walk_at "locf") gn_nil (by rfl)) (by rfl)) (by rfl) (by rfl) (by rfl) (by rfl) (by rfl) (EE.ev (d := bun n cs) ?_ ⟨_, rfl, rfl, ?_⟩))
    · walk_at "any"
    refine ws_cons (w1_setE (i := 3) (d := .int (IC.overOf cs)) (ee_maxLN (ns := 0 :: cs.map fun c => (c.length : Int) - 1) (EE.to (ee_bin (d1 := .list [.int 0]) (d2 := .list (cs.map fun c => .int ((c.length : Int) - 1))) ?_ (EE.to (LC1.ee (own := [("clause", 11)]) (i := 11) (xs := cs) (g := tI) (f := fun c => .int ((c.length : Int) - 1)) (p := fun _ => true) ?_) (by rw [filter_tt])) (bv_cat ?_)) ?_) (IC.overOf_mem cs) ?_ (by rfl) (by rfl) (by walk_at "mg") (by rfl)) ?_ (by walk_at "nd") (by rfl) (by walk_at "loc") (by walk_at "locf") (by rfl))
    · walk_at "any"
    · refine ⟨?_, fun s0 H0 C0 cl0 fp0 z0 hz0 => ?_, fun s0 H0 C0 cl0 fp0 z0 hz0 hp0 => ?_, ?_, fun _ => by rfl, blkOk_by (by rfl), fun _ _ _ _ _ => by walk_at "loc", fun _ _ _ _ _ => by walk_at "locf", by rfl, by decide, by walk_at "nd", by rfl⟩
      · walk_at "iv"
      · exact eif_nil
      · refine EE.to (ee_bin (d1 := .int ((z0.map PyData.int).length : Int)) (d2 := .int 1) ?_ ee_int bv_sub) (by rw [List.length_map])
        walk_at "any"
      · exact hb.few
    · show 1 + (cs.map _).length ≤ 100000
      rw [List.length_map]; omega
    · show PyData.list (PyData.int 0 :: _) = PyData.list (PyData.int 0 :: _)
      rw [List.map_map]; rfl
    · intro y hy
      rcases List.mem_cons.mp hy with z | z
      · rw [z]; exact IC.overOf_ge.1
      · obtain ⟨c, hc, rfl⟩ := List.mem_map.mp z
        exact IC.overOf_ge.2 c hc
    refine ws_cons (LC1.setM (own := [("clause", 11)]) (i := 11) (xs := cs) (g := tI) (f := fun c => lI (((List.range n).map fun v : Nat => IC.signIn c (1 + (v : Int))) ++ [1])) (p := fun _ => true) ?_ (j := 4) (fun b hbM => ?_) (by rfl) (by rfl) (by rfl))
    · refine ⟨?_, fun s1 H1 C1 cl1 fp1 z1 hz1 => ?_, fun s1 H1 C1 cl1 fp1 z1 hz1 hp1 => ?_, ?_, fun _ => by rfl, blkOk_by (by rfl), fun _ _ _ _ _ => by walk_at "loc", fun _ _ _ _ _ => by walk_at "locf", by rfl, by decide, by walk_at "nd", by rfl⟩
      · walk_at "iv"
      · exact eif_nil
      · refine EE.to (ee_bin (d1 := lI ((List.range n).map fun v : Nat => IC.signIn z1 (1 + (v : Int)))) (EE.to (LC1.ee (own := [("name", 6)]) (i := 6) (xs := List.range n) (g := fun v : Nat => .int (1 + (v : Int))) (f := fun v : Nat => .int (IC.signIn z1 (1 + (v : Int)))) (p := fun _ => true) ?_) ?_) (d2 := .list [.int 1]) ?_ (bv_cat ?_)) ?_
        · refine ⟨?_, fun s2 H2 C2 cl2 fp2 z2 hz2 => ?_, fun s2 H2 C2 cl2 fp2 z2 hz2 hp2 => ?_, ?_, fun _ => by rfl, blkOk_by (by rfl), fun _ _ _ _ _ => by walk_at "loc", fun _ _ _ _ _ => by walk_at "locf", by rfl, by decide, by walk_at "nd", by rfl⟩
          · refine iv_range2 (lo := 1) (n := n) (by rfl) (by walk_at "mg") (by rfl) (by rfl) ee_int ?_ (by decide) (by omega)
            apply EE.to
            walk_at "any"
            rw [Int.add_comm]
          · exact eif_nil
          · walk_at "any"
          · rw [List.length_range]; omega
        · rw [filter_tt, map_range_nI]
        · walk_at "any"
        · rw [List.length_map, List.length_map, List.length_range]
          show n + 1 ≤ 100000
          omega
        · simp only [lI, List.map_append]; rfl
      · exact hb.few
    refine ws_cons (LC1.setM (own := [("clause", 11)]) (i := 11) (xs := cs) (g := tI) (f := fun c => .int (1 + IC.overOf cs - (IC.negs c : Int))) (p := fun _ => true) ?_ (j := 5) (fun l hlM => ?_) (by rfl) (by rfl) (by rfl))
    · refine ⟨?_, fun s3 H3 C3 cl3 fp3 z3 hz3 => ?_, fun s3 H3 C3 cl3 fp3 z3 hz3 hp3 => ?_, ?_, fun _ => by rfl, blkOk_by (by rfl), fun _ _ _ _ _ => by walk_at "loc", fun _ _ _ _ _ => by walk_at "locf", by rfl, by decide, by walk_at "nd", by rfl⟩
      · walk_at "iv"
      · exact eif_nil
      · refine ee_bin (d1 := .int (1 + IC.overOf cs)) (d2 := .int (IC.negs z3 : Int)) ?_ (EE.to (ee_lenL (EE.to (LC1.ee (own := [("one", 13)]) (i := 13) (xs := z3) (g := PyData.int) (f := PyData.int) (p := fun x => decide (x < 0)) ?_) rfl) (by rfl) (by walk_at "mg") (by rfl)) ?_) bv_sub
        · walk_at "any"
        · refine ⟨?_, fun s4 H4 C4 cl4 fp4 z4 hz4 => ?_, fun s4 H4 C4 cl4 fp4 z4 hz4 hp4 => ?_, ?_, fun _ => by rfl, blkOk_by (by rfl), fun _ _ _ _ _ => by walk_at "loc", fun _ _ _ _ _ => by walk_at "locf", by rfl, by decide, by walk_at "nd", by rfl⟩
          · walk_at "iv"
          · refine eif_one ?_
            walk_at "gb"
          · walk_at "any"
          · exact hb.few1 hz3
        · rw [neg_eq]
      · exact hb.few
    have hbl : b ≠ l := fun e => by
      rw [← e, mup_same] at hlM; cases hlM
    have hb0 : ((cs.filter fun _ => true).map fun c => lI (((List.range n).map fun v : Nat => IC.signIn c (1 + (v : Int))) ++ [1])) = (bndTo n cs 0).map lI := by
      rw [filter_tt]
      unfold bndTo
      rw [List.range_zero, List.map_nil, List.append_nil, List.map_map]; rfl
    have hl0 : ((cs.filter fun _ => true).map fun c => PyData.int (1 + IC.overOf cs - (IC.negs c : Int))) = (limTo n cs 0).map PyData.int := by
      rw [filter_tt]
      unfold limTo
      rw [List.range_zero, List.map_nil, List.append_nil, List.map_map]; rfl
    have hlM' : M l = none := by
      rw [mup_ne (Ne.symm hbl)] at hlM; exact hlM
    rw [hb0, hl0]
    refine ws_cons (w1_forN (i := 6) (fun j δ' M' => M' = mup (mup M b (.lst ((bndTo n cs j).map lI))) l (.lst ((limTo n cs j).map PyData.int)) ∧ ∃ u, δ' = [some (.d (bun n cs)), some (.d (.int (n : Int))), some (.d (.tuple (cs.map tI))), some (.d (.int (IC.overOf cs))), some (.m b), some (.m l), u, none, none, none, none, none, none, none]) (ds := rangeD 0 (n + 1)) (iv_range (n := n + 1) (by rfl) (by walk_at "mg") (by rfl) ?_ (by omega)) ⟨rfl, none, rfl⟩ ?_ ?_ (by walk_at "nd") (by rfl) (by walk_at "loc") (by walk_at "locf") PassesOwn.never (by rfl) (fun _ => by rfl))
    · apply EE.to
      walk_at "any"
      rw [Int.natCast_add]; rfl
    · rintro j d δ' M' hd ⟨rfl, u, rfl⟩
      obtain ⟨hj, rfl⟩ := range_at hd
      rw [Int.zero_add]
      have hbo : mup (mup M b (.lst ((bndTo n cs j).map lI))) l (.lst ((limTo n cs j).map PyData.int)) b = some (.lst ((bndTo n cs j).map lI)) := by rw [mup_ne hbl, mup_same]
      refine ws_cons (w1_app (i := 4) (a := b) (by rfl) (by walk_at "vis") (by rfl) hbo (by rfl) (by rfl) (by rfl) (by rfl) (by rfl) (by rfl) (EE.ev (d := lI ((List.range (n + 1)).map fun far : Nat => IC.b2 (decide ((far : Int) = (j : Int))))) (EE.to (LC1.ee (own := [("far", 12)]) (i := 12) (xs := List.range (n + 1)) (g := nI) (f := fun far : Nat => .int (IC.b2 (decide ((far : Int) = (j : Int))))) (p := fun _ => true) ?_) ?_) ⟨_, _, rfl, hbo, ?_, ?_⟩))
      · refine ⟨?_, fun s5 H5 C5 cl5 fp5 z5 hz5 => ?_, fun s5 H5 C5 cl5 fp5 z5 hz5 hp5 => ?_, ?_, fun _ => by rfl, blkOk_by (by rfl), fun _ _ _ _ _ => by walk_at "loc", fun _ _ _ _ _ => by walk_at "locf", by rfl, by decide, by walk_at "nd", by rfl⟩
        · apply IV.to
          · refine iv_range (n := n + 1) (by rfl) (by walk_at "mg") (by rfl) ?_ (by omega)
            apply EE.to
            walk_at "any"
            rw [Int.natCast_add]; rfl
          · exact range0
        · exact eif_nil
        · apply EE.to
          walk_at "any"
          rfl
        · rw [List.length_range]; omega
      · rw [filter_tt, map_range_nI]
      · rw [List.length_map]
        unfold bndTo
        rw [List.length_append, List.length_map, List.length_map, List.length_range]; omega
      have e1 : mup (mup (mup M b (.lst ((bndTo n cs j).map lI))) l (.lst ((limTo n cs j).map PyData.int))) b (.lst ((bndTo n cs j).map lI ++ [lI ((List.range (n + 1)).map fun far : Nat => IC.b2 (decide ((far : Int) = (j : Int))))])) = mup (mup M b (.lst ((bndTo n cs (j + 1)).map lI))) l (.lst ((limTo n cs j).map PyData.int)) := by
        rw [mup_comm (Ne.symm hbl), mup_mup, bndTo_succ, List.map_append]; rfl
      rw [e1]
      refine ws_cons (w1_app (i := 5) (a := l) (by rfl) (by walk_at "vis") (by rfl) mup_same (by rfl) (by rfl) (by rfl) (by rfl) (by rfl) (by rfl) (EE.ev (d := .int (if (j : Int) < (n : Int) then 1 else IC.overOf cs)) (EE.to (ee_ifI (p := decide ((j : Int) < (n : Int))) (i := 1) (j := IC.overOf cs) ?_ (fun _ => ?_) (fun _ => ?_)) ?_) ⟨_, _, rfl, mup_same, ?_, ws_nil ⟨?_, _, rfl⟩⟩))
      · walk_at "gb"
      · walk_at "any"
      · walk_at "any"
      · by_cases z : (j : Int) < (n : Int)
        · rw [decide_eq_true z, if_pos rfl, if_pos z]
        · rw [decide_eq_false z, if_neg Bool.false_ne_true, if_neg z]
      · rw [List.length_map]
        unfold limTo
        rw [List.length_append, List.length_map, List.length_map, List.length_range]; omega
      · rw [mup_mup, limTo_succ, List.map_append]; rfl
    · rintro δ' M' ⟨rfl, u, rfl⟩
      rw [range_len]
      refine ws_freeze 4 rfl (show _ = some (MO.lst ((bndTo n cs (n + 1)).map lI)) by rw [mup_ne hbl, mup_same]) ?_
      rw [mdel_mup_ne (Ne.symm hbl), mdel_mup hbM]
      refine ws_freeze 5 rfl mup_same ?_
      rw [mdel_mup hlM']
      have hbd : bndTo n cs (n + 1) = IC.boundsOf n cs := rfl
      have hlm : limTo n cs (n + 1) = IC.limitsOf n cs := rfl
      rw [hbd, hlm]
      refine ws_cons (w1_asgT (is := [7, 8, 9, 10]) (by rfl) (gn_cons (by walk_at "nd") (by rfl) (by walk_at "loc") (by walk_at "locf") (gn_cons (by walk_at "nd") (by rfl) (by walk_at "loc") (by walk_at "locf") (gn_cons (by walk_at "nd") (by rfl) (by walk_at "loc") (by walk_at "locf") (gn_cons (by walk_at "nd") (by rfl) (by walk_at "loc") (by walk_at "locf") gn_nil (by rfl)) (by rfl)) (by rfl)) (by rfl)) (by rfl) (by rfl) (by rfl) (by rfl) (by rfl) (EE.ev (d := greatW n cs) ?_ ⟨_, rfl, rfl, ?_⟩))
      · walk_at "any"
      obtain ⟨hG, _⟩ := IC.endW_ok (n := n) (cs := cs)
      have hmS := m_w hb hG
      refine ws_cons (w1_ifE (p := decide (IC.bestW n cs = IC.overOf cs * (IC.endW n cs).m)) ?_ (fun h => ?_) (fun h => ws_nil ?_))
      · walk_at "gb"
        exact sml_sum (over_sml hb) hmS.2
      · have h := of_decide_eq_true h
        refine ws_cons (w1_retE (d := pairW n cs) ?_ q)
        have e : pairW n cs = .tuple [tI (IC.rowW n cs), .none] := by unfold pairW; rw [if_pos h]
        rw [e]
        refine ee_tup2 (ee_rounded_rowL (v := (IC.endW n cs).m) (row := (IC.valuesOf (n + 1) (wideW n cs) (IC.endW n cs)).take n) ?_ ?_ ?_ ?_ (by assumption) (by assumption) (by decide) (by rfl) (by rfl) (by rfl) (by rfl)) ee_non (by rfl) (by rfl)
        · walk_at "any"
        · refine EE.to (ee_slL (ds := (IC.valuesOf (n + 1) (wideW n cs) (IC.endW n cs)).map PyData.int) (l := none) (h := some (n : Int)) ?_ eo_none (eo_some ?_)) ?_
          · walk_at "any"
          · walk_at "any"
          · rw [cut_to, ← List.map_take]
        · exact fun x hx => values_sml hb x (List.mem_of_mem_take hx)
        · rw [List.length_take]; omega
      · have h := of_decide_eq_false h
        refine ws_cons (w1_retE (d := pairW n cs) ?_ q)
        have e : pairW n cs = .tuple [.none, tI (IC.heftsW n cs)] := by unfold pairW; rw [if_neg h]
        rw [e]
        refine ee_tup2 ee_non (ee_tupN (ds := (IC.heftsW n cs).map PyData.int) (EE.to (ee_slL (ds := (IC.pricesOf (n + 1) (manyW cs n) (IC.endW n cs)).map PyData.int) (l := none) (h := some (cs.length : Int)) ?_ eo_none (eo_some ?_)) ?_) (by rfl) (by walk_at "mg") (by rfl)) (by rfl) (by rfl)
        · walk_at "any"
        · refine EE.to (ee_lenT (ds := cs.map tI) ?_ (by rfl) (by walk_at "mg") (by rfl)) (by rw [List.length_map])
          walk_at "any"
        · rw [cut_to, ← List.map_take]; rfl
theorem ee_weighed_in {X : Cx} {δ : En} {pos p : Pos} {e : Expr} {k' : Nat} {n : Nat} {cs : List (List Int)} (h_e : EE X e δ (bun n cs)) (s0 : CsOk n cs) (T : Txt X.K X.mg) (hr : Room k' X.A) (hk : 3 ≤ k') (hg : Gl X "weighed_in") (q0 : starEach (e :: []) X.env = (false, eval e X.env) :: starEach [] X.env) (hpl : (backTo pos (starEach [] X.env)).any (·.1) = false) : EE X (.Call (.Name "weighed_in" p) [e] [] pos) δ (pairW n cs) :=
  ee_callK (ok_weighed_in T) (ea_cons q0 h_e ea_nil) (⟨n, cs, rfl, s0, rfl⟩) hr hk hg q0 hpl (by decide)
local macro_rules | `(tactic| walk_at "call") => `(tactic| (with_reducible apply ee_weighed_in) <;> walk_at "any")
end
end KP
namespace KP
open PySem PySem.Spec PyProof.Rows L2 DL
section
variable {P : Program} {w : World} {K : PySem.W.Frag} {mg : Str → Option Value} {base : Heap}
/-! steps -/
local macro_rules | `(tactic| walk_at "vis") => `(tactic| first | exact vis_l (by rfl) | exact vis_c (by rfl) | exact vis_f (by rfl))
local macro_rules | `(tactic| walk_at "vs") => `(tactic| first | rfl | (walk_at "vis") | decide)
local macro_rules | `(tactic| walk_at "mg") => `(tactic| exact z_of (by assumption) (by decide +kernel))
local macro_rules | `(tactic| walk_at "var") => `(tactic| fail)
local macro_rules | `(tactic| walk_at "glo") => `(tactic| first | exact ee_names (by assumption) (by rfl) (by rfl) | exact ee_clauses (by assumption) (by rfl) (by rfl) | exact ee_halvesS (by assumption) (by rfl) (by rfl) | exact ee_clashS (by assumption) (by rfl) (by rfl))
local macro_rules | `(tactic| walk_at "side") => `(tactic| first | assumption | ((with_reducible apply atI_litG); rfl) | ((fail_if_success (with_reducible apply atI_litG)); skip))
local macro_rules | `(tactic| walk_at "call") => `(tactic| fail)
local macro_rules | `(tactic| walk_at "bv") => `(tactic| first
  | (with_reducible apply bv_gB); first
    | (with_reducible exact bv_add) | (with_reducible exact bv_sub) | (with_reducible apply bv_mulS; walk_at "side") | (with_reducible apply bv_divS; walk_at "side") | (with_reducible apply bv_mod; walk_at "side") | (with_reducible apply bv_powS; walk_at "side")
    | (with_reducible apply bv_cat <;> walk_at "side") | (with_reducible apply bv_rep1 <;> walk_at "side") | (with_reducible apply bv_rep <;> walk_at "side") | (with_reducible apply bv_catT <;> walk_at "side")
  | (with_reducible apply bv_gC); first
    | (with_reducible exact bv_lt) | (with_reducible exact bv_le) | (with_reducible exact bv_gt) | (with_reducible exact bv_ge) | (with_reducible exact bv_eqI) | (with_reducible exact bv_neI) | (with_reducible exact bv_eqS) | (with_reducible exact bv_neS) | (with_reducible exact bv_isNone) | (with_reducible exact bv_inT) | (with_reducible exact bv_notin2)
    | (with_reducible apply bv_eqD <;> walk_at "side") | (with_reducible apply bv_neD <;> walk_at "side") | (with_reducible apply bv_inD <;> walk_at "side"))
local macro_rules | `(tactic| walk_at "any") => `(tactic| first
  | (with_reducible apply ee_id); walk_at "go"
  | (with_reducible apply ea_id); first | (with_reducible exact ea_nil) | ((with_reducible apply ea_cons) <;> walk_at "any")
  | (with_reducible apply eb_id); walk_at "gb"
  | (with_reducible apply ew_id); walk_at "gw"
  | (with_reducible apply eo_id); first | (with_reducible exact eo_none) | (apply eo_some; walk_at "go")
  | (with_reducible apply bv_id); walk_at "bv"
  | (fail_if_success (with_reducible apply ee_id)); (fail_if_success (with_reducible apply ea_id)); (fail_if_success (with_reducible apply eb_id)); (fail_if_success (with_reducible apply ew_id)); (fail_if_success (with_reducible apply bv_id)); first
    | (intro _; walk_at "any")
    | rfl | (walk_at "mg") | decide | (intro _; rfl) | (intro _ _; rfl) | (walk_at "side"))
local macro_rules | `(tactic| walk_at "gb") => `(tactic| first
  | (with_reducible apply eb_not); walk_at "gb"
  | (with_reducible apply eb_cmp) <;> walk_at "any"
  | (with_reducible apply EW.eb); walk_at "gw"
  | (apply eb_val) <;> walk_at "any")
local macro_rules | `(tactic| walk_at "gw") => `(tactic| first
  | (with_reducible apply ew_and) <;> walk_at "any"
  | (with_reducible apply ew_or) <;> walk_at "any"
  | (with_reducible apply ew_and1); walk_at "gb"
  | (with_reducible apply ew_or1); walk_at "gb")
local macro_rules | `(tactic| walk_at "go") => `(tactic| first
  | (with_reducible apply ee_nm); first | walk_at "var" | walk_at "glo"
  | (with_reducible apply g_const); first | (with_reducible exact ee_int) | (with_reducible exact ee_str) | (with_reducible exact ee_bl) | (with_reducible exact ee_non)
  | (with_reducible apply g_call); first
    | (with_reducible apply g_call1); first | ((with_reducible apply ee_lenL) <;> walk_at "any") | ((with_reducible apply ee_lenT) <;> walk_at "any") | ((with_reducible apply ee_intIN) <;> walk_at "any") | ((with_reducible apply ee_intBN) <;> walk_at "any") | ((with_reducible apply ee_tupN) <;> walk_at "any") | ((with_reducible apply ee_absN) <;> walk_at "any") | ((with_reducible apply ee_sumN) <;> walk_at "any") | ((with_reducible apply ee_sumTN) <;> walk_at "any") | ((with_reducible apply ee_allN) <;> walk_at "any") | ((with_reducible apply ee_lstN) <;> walk_at "any") | walk_at "call"
    | (with_reducible apply g_call2); first | ((with_reducible apply ee_isInt) <;> walk_at "any") | ((with_reducible apply ee_isBool) <;> walk_at "any") | ((with_reducible apply ee_isTup) <;> walk_at "any") | ((with_reducible apply ee_isStr) <;> walk_at "any") | ((with_reducible apply ee_minN) <;> walk_at "any") | ((with_reducible apply ee_maxN) <;> walk_at "any") | walk_at "call"
    | walk_at "call"
  | ((with_reducible apply ee_bin) <;> walk_at "any")
  | (with_reducible apply g_cmp); first | ((with_reducible apply ee_cmp) <;> walk_at "any") | ((with_reducible apply ee_chain) <;> walk_at "any")
  | (with_reducible apply g_sub); first | ((with_reducible apply ee_slL) <;> walk_at "any") | ((with_reducible apply ee_cell) <;> walk_at "any") | ((with_reducible apply ee_ixT) <;> walk_at "any") | ((with_reducible apply ee_ixL) <;> walk_at "any")
  | (with_reducible apply g_un); first | ((with_reducible apply ee_not); walk_at "go") | (with_reducible exact ee_neg)
  | (with_reducible apply g_bool); first | ((with_reducible apply ee_and) <;> walk_at "any") | ((with_reducible apply ee_or) <;> walk_at "any") | ((with_reducible apply ee_and1) <;> walk_at "any")
  | (with_reducible apply g_if); first | ((with_reducible apply ee_ifI) <;> walk_at "any") | ((with_reducible apply ee_if) <;> walk_at "any")
  | (with_reducible apply g_lst); first | ((with_reducible apply ee_lst0) <;> walk_at "any") | ((with_reducible apply ee_lst1) <;> walk_at "any") | ((with_reducible apply ee_lst2) <;> walk_at "any") | ((with_reducible apply ee_lst3) <;> walk_at "any") | ((with_reducible apply ee_lst4) <;> walk_at "any")
  | (with_reducible apply g_tup); first | ((with_reducible apply ee_tup0) <;> walk_at "any") | ((with_reducible apply ee_tup1) <;> walk_at "any") | ((with_reducible apply ee_tup2) <;> walk_at "any") | ((with_reducible apply ee_tup3) <;> walk_at "any") | ((with_reducible apply ee_tup4) <;> walk_at "any"))
local macro_rules | `(tactic| walk_at "loc") => `(tactic| first | exact .inl (by rfl) | exact .inr (by rfl))
local macro_rules | `(tactic| walk_at "locf") => `(tactic| first | exact .inr (by rfl) | exact .inl (by rfl))
local macro_rules | `(tactic| walk_at "iv") => `(tactic| first
  | ((with_reducible apply iv_tup); walk_at "go") | ((with_reducible apply iv_list); walk_at "go")
  | ((with_reducible apply iv_range) <;> walk_at "any") | ((with_reducible apply iv_range2) <;> walk_at "any")
  | ((with_reducible apply iv_enumL) <;> walk_at "any") | ((with_reducible apply iv_enumT) <;> walk_at "any") | ((with_reducible apply iv_enumT1) <;> walk_at "any")
  | ((with_reducible apply iv_zipL) <;> walk_at "any") | ((with_reducible apply iv_zipT) <;> walk_at "any"))
local macro_rules | `(tactic| walk_at "fm") => `(tactic| ((try rw [filter_tt]); first | rfl | (rw [List.map_map]; done) | (rw [List.map_map]; rfl) | (simp only [lI, tI, List.map_map]; done) | (simp only [lI, tI, List.map_map]; rfl)))
local macro_rules | `(tactic| walk_at "call") => `(tactic| (with_reducible apply ee_weighed_in) <;> walk_at "any")
local macro_rules | `(tactic| walk_at "call") => `(tactic| (with_reducible apply ee_need_bundle) <;> walk_at "any")
local macro_rules | `(tactic| walk_at "call") => `(tactic| (with_reducible apply ee_are_halves) <;> walk_at "any")
local macro_rules | `(tactic| walk_at "call") => `(tactic| (with_reducible apply ee_need_form) <;> walk_at "any")
local macro_rules | `(tactic| walk_at "call") => `(tactic| (with_reducible apply ee_greatest_of) <;> walk_at "any")
local macro_rules | `(tactic| walk_at "call") => `(tactic| (with_reducible apply ee_first_table) <;> walk_at "any")

local macro_rules | `(tactic| walk_at "call") => `(tactic| (with_reducible apply ee_turned_table) <;> walk_at "any")
local macro_rules | `(tactic| walk_at "call") => `(tactic| (with_reducible apply ee_do_clash) <;> walk_at "any")
local macro_rules | `(tactic| walk_at "call") => `(tactic| (with_reducible apply ee_is_row) <;> walk_at "any")
local macro_rules | `(tactic| walk_at "call") => `(tactic| (with_reducible apply ee_are_halves_of) <;> walk_at "any")
local macro_rules | `(tactic| walk_at "call") => `(tactic| (with_reducible apply ee_rounded_row) <;> walk_at "any")
local macro_rules | `(tactic| walk_at "call") => `(tactic| (with_reducible apply ee_rounded_rowL) <;> walk_at "any")
local macro_rules | `(tactic| walk_at "call") => `(tactic| (with_reducible apply ee_sign_in) <;> walk_at "any")
local macro_rules | `(tactic| walk_at "call") => `(tactic| (with_reducible apply ee_heft_at) <;> walk_at "any")
local macro_rules | `(tactic| walk_at "call") => `(tactic| (with_reducible apply ee_are_rising) <;> walk_at "any")
local macro_rules | `(tactic| walk_at "call") => `(tactic| (with_reducible apply ee_is_literal) <;> walk_at "any")
local macro_rules | `(tactic| walk_at "call") => `(tactic| (with_reducible apply ee_is_clause) <;> walk_at "any")
local macro_rules | `(tactic| walk_at "call") => `(tactic| (with_reducible apply ee_weight_of) <;> walk_at "any")
local macro_rules | `(tactic| walk_at "call") => `(tactic| (with_reducible apply ee_does_weigh) <;> walk_at "any")
local macro_rules | `(tactic| walk_at "call") => `(tactic| (with_reducible apply ee_is_integer) <;> walk_at "any")
local macro_rules | `(tactic| walk_at "call") => `(tactic| (with_reducible apply ee_is_between) <;> walk_at "any")
theorem flat_tI {ns : List Int} : flatD (tI ns) = true := List.all_eq_true.mpr fun d hd => by
  obtain ⟨i, _, rfl⟩ := List.mem_map.mp hd
  rfl
theorem len_tI {ns : List Int} (h : ns.length ≤ 100000) : (intsOf (tI ns)).length ≤ 100000 := by rw [intsOf_tI]; exact h
theorem rowW_len {n : Nat} {cs : List (List Int)} : (IC.rowW n cs).length ≤ n := by
  unfold IC.rowW IC.roundRow
  rw [List.length_map, List.length_take]
  exact Nat.min_le_left _ _
def goodW (n : Nat) (cs : List (List Int)) : Prop := IC.bestW n cs = IC.overOf cs * (IC.endW n cs).m
open Classical in
noncomputable def paperW (n : Nat) (cs : List (List Int)) : PyData := if goodW n cs then .tuple [.str "halves", tI (IC.rowW n cs)] else .tuple [.str "clash", tI (IC.heftsW n cs)]
open Classical in
noncomputable def wordW (n : Nat) (cs : List (List Int)) : PyData := if goodW n cs then .str "halves" else .str "clash"
theorem pairW_yes {n : Nat} {cs : List (List Int)} (h : goodW n cs) : pairW n cs = .tuple [tI (IC.rowW n cs), .none] := by unfold pairW; exact if_pos h
theorem pairW_no {n : Nat} {cs : List (List Int)} (h : ¬ goodW n cs) : pairW n cs = .tuple [.none, tI (IC.heftsW n cs)] := by unfold pairW; exact if_neg h
theorem paperW_yes {n : Nat} {cs : List (List Int)} (h : goodW n cs) : paperW n cs = .tuple [.str "halves", tI (IC.rowW n cs)] := by unfold paperW; rw [if_pos h]
theorem paperW_no {n : Nat} {cs : List (List Int)} (h : ¬ goodW n cs) : paperW n cs = .tuple [.str "clash", tI (IC.heftsW n cs)] := by unfold paperW; rw [if_neg h]
theorem wordW_yes {n : Nat} {cs : List (List Int)} (h : goodW n cs) : wordW n cs = .str "halves" := by unfold wordW; rw [if_pos h]
theorem wordW_no {n : Nat} {cs : List (List Int)} (h : ¬ goodW n cs) : wordW n cs = .str "clash" := by unfold wordW; rw [if_neg h]
theorem sc38 : FnScope ["bundle", "row", "hefts"] ["bundle"] (defScope (top 38)) := ⟨rfl, rfl, rfl, by decide +kernel, rfl, by decide +kernel, by decide +kernel⟩
local macro_rules | `(tactic| walk_at "var") => `(tactic| first | ((with_reducible apply ee_varQ (x := "bundle") (i := 0)) <;> walk_at "vs") | ((with_reducible apply ee_varQ (x := "row") (i := 1)) <;> walk_at "vs") | ((with_reducible apply ee_varQ (x := "hefts") (i := 2)) <;> walk_at "vs"))
local macro_rules | `(tactic| walk_at "nd") => `(tactic| exact sc38.nd)
theorem ok_halves_paper (T : Txt K mg) : FnD P w K mg base 5 "halves_paper" ["bundle"] (pureD fun xs r => ∃ (n : Nat) (cs : List (List Int)), xs = [.d (bun n cs)] ∧ BuOk n cs ∧ r = paperW n cs) := by
  refine fnd T 23 rfl rfl sc38 (fun _ _ _ _ _ _ us hl => match us, hl with | [_], _ => rfl) (fun xs M Φ h => ?_) (fun a cdv A outer s H E xs M Φ hr h => ?_)
  · obtain ⟨r, ⟨n, cs, rfl, _, rfl⟩, q⟩ := h
    rfl
  · obtain ⟨r, ⟨n, cs, rfl, hb, rfl⟩, q⟩ := h
    have hb' := hb.toCsOk
    by_cases hg : goodW n cs
    · rw [paperW_yes hg] at q
      refine ws_cons (w1_asgT (is := [1, 2]) (by rfl) (gn_cons (by walk_at "nd") (by rfl) (by walk_at "loc") (by walk_at "locf") (gn_cons (by walk_at "nd") (by rfl) (by walk_at "loc") (by walk_at "locf") gn_nil (by rfl)) (by rfl)) (by rfl) (by rfl) (by rfl) (by rfl) (by rfl) (EE.ev (d := pairW n cs) ?_ ⟨[tI (IC.rowW n cs), .none], by rw [pairW_yes hg], rfl, ?_⟩))
      · walk_at "any"
      · refine ws_cons (w1_retE (EE.to (ee_if (p := true) (d1 := .tuple [.str "halves", tI (IC.rowW n cs)]) (d2 := .none) (eb_cmp (by rfl) (d1 := .none) ?_ ee_non bv_isNone) (fun _ => ?_) (fun h => nomatch h)) rfl) q)
        · walk_at "any"
        · walk_at "any"
    · rw [paperW_no hg] at q
      refine ws_cons (w1_asgT (is := [1, 2]) (by rfl) (gn_cons (by walk_at "nd") (by rfl) (by walk_at "loc") (by walk_at "locf") (gn_cons (by walk_at "nd") (by rfl) (by walk_at "loc") (by walk_at "locf") gn_nil (by rfl)) (by rfl)) (by rfl) (by rfl) (by rfl) (by rfl) (by rfl) (EE.ev (d := pairW n cs) ?_ ⟨[.none, tI (IC.heftsW n cs)], by rw [pairW_no hg], rfl, ?_⟩))
      · walk_at "any"
      · refine ws_cons (w1_retE (EE.to (ee_if (p := false) (d1 := .none) (d2 := .tuple [.str "clash", tI (IC.heftsW n cs)]) (eb_cmp (by rfl) (d1 := tI (IC.heftsW n cs)) ?_ ee_non bv_isNone) (fun h => nomatch h) (fun _ => ?_)) rfl) q)
        · walk_at "any"
        · walk_at "any"
theorem ee_halves_paper {X : Cx} {δ : En} {pos p : Pos} {e : Expr} {k' : Nat} {n : Nat} {cs : List (List Int)} (h_e : EE X e δ (bun n cs)) (s0 : BuOk n cs) (T : Txt X.K X.mg) (hr : Room k' X.A) (hk : 5 ≤ k') (hg : Gl X "halves_paper") (q0 : starEach (e :: []) X.env = (false, eval e X.env) :: starEach [] X.env) (hpl : (backTo pos (starEach [] X.env)).any (·.1) = false) : EE X (.Call (.Name "halves_paper" p) [e] [] pos) δ (paperW n cs) :=
  ee_callK (ok_halves_paper T) (ea_cons q0 h_e ea_nil) (⟨n, cs, rfl, s0, rfl⟩) hr hk hg q0 hpl (by decide)
local macro_rules | `(tactic| walk_at "call") => `(tactic| (with_reducible apply ee_halves_paper) <;> walk_at "any")
theorem sc41 : FnScope ["bundle", "paper", "holds"] ["bundle", "paper"] (defScope (top 41)) := ⟨rfl, rfl, rfl, by decide +kernel, rfl, by decide +kernel, by decide +kernel⟩
local macro_rules | `(tactic| walk_at "var") => `(tactic| first | ((with_reducible apply ee_varQ (x := "bundle") (i := 0)) <;> walk_at "vs") | ((with_reducible apply ee_varQ (x := "paper") (i := 1)) <;> walk_at "vs") | ((with_reducible apply ee_varQ (x := "holds") (i := 2)) <;> walk_at "vs"))
local macro_rules | `(tactic| walk_at "nd") => `(tactic| exact sc41.nd)
theorem ok_check_halves (T : Txt K mg) : FnD P w K mg base 5 "check_halves" ["bundle", "paper"] (pureD fun xs r => ∃ (n : Nat) (cs : List (List Int)), xs = [.d (bun n cs), .d (paperW n cs)] ∧ BuOk n cs ∧ r = wordW n cs) := by
  refine fnd T 26 rfl rfl sc41 (fun _ _ _ _ _ _ us hl => match us, hl with | [_, _], _ => rfl) (fun xs M Φ h => ?_) (fun a cdv A outer s H E xs M Φ hr h => ?_)
  · obtain ⟨r, ⟨n, cs, rfl, _, rfl⟩, q⟩ := h
    rfl
  · obtain ⟨r, ⟨n, cs, rfl, hb, rfl⟩, q⟩ := h
    have hb' := hb.toCsOk
    have h7 := hb.le
    refine ws_cons (w1_expr (by rfl) (EE.ev (d := bun n cs) ?_ ?_))
    · walk_at "any"
    by_cases hg : goodW n cs
    · rw [paperW_yes hg]
      rw [wordW_yes hg] at q
      have hh := IC.halves_of hb.pos hb.ok hg
      refine ws_cons (w1_expr (by rfl) (EE.ev (d := .none) (ee_need_form (x := "halves") (d := tI (IC.rowW n cs)) ?_ ?_ (.inl rfl) (by assumption) (by assumption) (by decide) (by rfl) (by rfl) (by rfl) (by rfl)) ?_))
      · walk_at "any"
      · walk_at "any"
      refine ws_cons (w1_setE (i := 2) (d := .bool true) (EE.to (ee_if (p := true) (d1 := .bool (halvD n cs (tI (IC.rowW n cs)))) (d2 := .none) (EB.to (b := decide (("halves" : Str) = "halves")) (eb_cmp (by rfl) (d1 := .str "halves") (d2 := .str "halves") (ee_ixT (ds := [.str "halves", tI (IC.rowW n cs)]) (i := 0) ?_ ee_int rfl (by intro _ _; rfl)) ?_ bv_eqS) (decide_eq_true rfl)) (fun _ => ee_are_halves_of ?_ (ee_ixT (ds := [.str "halves", tI (IC.rowW n cs)]) (i := 1) ?_ ee_int rfl (by intro _ _; rfl)) hb' flat_tI (len_tI ?_) (by assumption) (by assumption) (by decide) (by rfl) (by rfl) (by rfl) (by rfl)) (fun h => nomatch h)) ?_) ?_ (by walk_at "nd") (by rfl) (by walk_at "loc") (by walk_at "locf") (by rfl))
      · walk_at "any"
      · walk_at "any"
      · walk_at "any"
      · walk_at "any"
      · exact Nat.le_trans rowW_len (Nat.le_trans h7 (by decide))
      · rw [halvD_tI, hh]; rfl
      refine ws_cons (w1_ifE (p := false) (EB.to (b := !true) (eb_not (eb_val (fun _ => rfl) ?_)) rfl) (fun h => nomatch h) (fun _ => ws_nil ?_))
      · walk_at "any"
      refine ws_cons (w1_retE (ee_ixT (ds := [.str "halves", tI (IC.rowW n cs)]) (i := 0) ?_ ee_int rfl (by intro _ _; rfl)) q)
      walk_at "any"
    · rw [paperW_no hg]
      rw [wordW_no hg] at q
      have hh := IC.clash_of hb.pos hb.le hb.len hb.ok hg
      obtain ⟨k1, k2⟩ := IC.hefts_ok hb.pos hb.le hb.len hb.ok
      refine ws_cons (w1_expr (by rfl) (EE.ev (d := .none) (ee_need_form (x := "clash") (d := tI (IC.heftsW n cs)) ?_ ?_ (.inr rfl) (by assumption) (by assumption) (by decide) (by rfl) (by rfl) (by rfl) (by rfl)) ?_))
      · walk_at "any"
      · walk_at "any"
      refine ws_cons (w1_setE (i := 2) (d := .bool true) (EE.to (ee_if (p := false) (d1 := .none) (d2 := .bool (IC.clashes n cs (IC.heftsW n cs))) (EB.to (b := decide (("clash" : Str) = "halves")) (eb_cmp (by rfl) (d1 := .str "clash") (d2 := .str "halves") (ee_ixT (ds := [.str "clash", tI (IC.heftsW n cs)]) (i := 0) ?_ ee_int rfl (by intro _ _; rfl)) ?_ bv_eqS) (by decide +kernel)) (fun h => nomatch h) (fun _ => ee_do_clash ?_ (ee_ixT (ds := [.str "clash", tI (IC.heftsW n cs)]) (i := 1) ?_ ee_int rfl (by intro _ _; rfl)) hb' k1 (fun x hx => (k2 x hx).1) (by assumption) (by assumption) (by decide) (by rfl) (by rfl) (by rfl) (by rfl))) ?_) ?_ (by walk_at "nd") (by rfl) (by walk_at "loc") (by walk_at "locf") (by rfl))
      · walk_at "any"
      · walk_at "any"
      · walk_at "any"
      · walk_at "any"
      · rw [hh]; rfl
      refine ws_cons (w1_ifE (p := false) (EB.to (b := !true) (eb_not (eb_val (fun _ => rfl) ?_)) rfl) (fun h => nomatch h) (fun _ => ws_nil ?_))
      · walk_at "any"
      refine ws_cons (w1_retE (ee_ixT (ds := [.str "clash", tI (IC.heftsW n cs)]) (i := 0) ?_ ee_int rfl (by intro _ _; rfl)) q)
      walk_at "any"
theorem ee_check_halves {X : Cx} {δ : En} {pos p : Pos} {e e2 : Expr} {k' : Nat} {n : Nat} {cs : List (List Int)} (h_e : EE X e δ (bun n cs)) (h_e2 : EE X e2 δ (paperW n cs)) (s0 : BuOk n cs) (T : Txt X.K X.mg) (hr : Room k' X.A) (hk : 5 ≤ k') (hg : Gl X "check_halves") (q0 : starEach (e :: [e2]) X.env = (false, eval e X.env) :: starEach [e2] X.env) (q1 : starEach (e2 :: []) X.env = (false, eval e2 X.env) :: starEach [] X.env) (hpl : (backTo pos (starEach [e2] X.env)).any (·.1) = false) : EE X (.Call (.Name "check_halves" p) [e, e2] [] pos) δ (wordW n cs) :=
  ee_callK (ok_check_halves T) (ea_cons q0 h_e (ea_cons q1 h_e2 ea_nil)) (⟨n, cs, rfl, s0, rfl⟩) hr hk hg q0 hpl (by decide)
local macro_rules | `(tactic| walk_at "call") => `(tactic| (with_reducible apply ee_check_halves) <;> walk_at "any")
end
end KP
namespace KP
open PySem PySem.Spec PyProof.Rows L2 DL
section
variable {P : Program} {w : World} {K : PySem.W.Frag} {mg : Str → Option Value} {base : Heap}
/-! steps -/
local macro_rules | `(tactic| walk_at "vis") => `(tactic| first | exact vis_l (by rfl) | exact vis_c (by rfl) | exact vis_f (by rfl))
local macro_rules | `(tactic| walk_at "vs") => `(tactic| first | rfl | (walk_at "vis") | decide)
local macro_rules | `(tactic| walk_at "mg") => `(tactic| exact z_of (by assumption) (by decide +kernel))
local macro_rules | `(tactic| walk_at "var") => `(tactic| fail)
local macro_rules | `(tactic| walk_at "glo") => `(tactic| first | exact ee_names (by assumption) (by rfl) (by rfl) | exact ee_clauses (by assumption) (by rfl) (by rfl) | exact ee_halvesS (by assumption) (by rfl) (by rfl) | exact ee_clashS (by assumption) (by rfl) (by rfl))
local macro_rules | `(tactic| walk_at "side") => `(tactic| first | assumption | ((with_reducible apply atI_litG); rfl) | ((fail_if_success (with_reducible apply atI_litG)); skip))
local macro_rules | `(tactic| walk_at "call") => `(tactic| fail)
local macro_rules | `(tactic| walk_at "bv") => `(tactic| first
  | (with_reducible apply bv_gB); first
    | (with_reducible exact bv_add) | (with_reducible exact bv_sub) | (with_reducible apply bv_mulS; walk_at "side") | (with_reducible apply bv_divS; walk_at "side") | (with_reducible apply bv_mod; walk_at "side") | (with_reducible apply bv_powS; walk_at "side")
    | (with_reducible apply bv_cat <;> walk_at "side") | (with_reducible apply bv_rep1 <;> walk_at "side") | (with_reducible apply bv_rep <;> walk_at "side") | (with_reducible apply bv_catT <;> walk_at "side")
  | (with_reducible apply bv_gC); first
    | (with_reducible exact bv_lt) | (with_reducible exact bv_le) | (with_reducible exact bv_gt) | (with_reducible exact bv_ge) | (with_reducible exact bv_eqI) | (with_reducible exact bv_neI) | (with_reducible exact bv_eqS) | (with_reducible exact bv_neS) | (with_reducible exact bv_isNone) | (with_reducible exact bv_inT) | (with_reducible exact bv_notin2)
    | (with_reducible apply bv_eqD <;> walk_at "side") | (with_reducible apply bv_neD <;> walk_at "side") | (with_reducible apply bv_inD <;> walk_at "side"))
local macro_rules | `(tactic| walk_at "any") => `(tactic| first
  | (with_reducible apply ee_id); walk_at "go"
  | (with_reducible apply ea_id); first | (with_reducible exact ea_nil) | ((with_reducible apply ea_cons) <;> walk_at "any")
  | (with_reducible apply eb_id); walk_at "gb"
  | (with_reducible apply ew_id); walk_at "gw"
  | (with_reducible apply eo_id); first | (with_reducible exact eo_none) | (apply eo_some; walk_at "go")
  | (with_reducible apply bv_id); walk_at "bv"
  | (fail_if_success (with_reducible apply ee_id)); (fail_if_success (with_reducible apply ea_id)); (fail_if_success (with_reducible apply eb_id)); (fail_if_success (with_reducible apply ew_id)); (fail_if_success (with_reducible apply bv_id)); first
    | (intro _; walk_at "any")
    | rfl | (walk_at "mg") | decide | (intro _; rfl) | (intro _ _; rfl) | (walk_at "side"))
local macro_rules | `(tactic| walk_at "gb") => `(tactic| first
  | (with_reducible apply eb_not); walk_at "gb"
  | (with_reducible apply eb_cmp) <;> walk_at "any"
  | (with_reducible apply EW.eb); walk_at "gw"
  | (apply eb_val) <;> walk_at "any")
local macro_rules | `(tactic| walk_at "gw") => `(tactic| first
  | (with_reducible apply ew_and) <;> walk_at "any"
  | (with_reducible apply ew_or) <;> walk_at "any"
  | (with_reducible apply ew_and1); walk_at "gb"
  | (with_reducible apply ew_or1); walk_at "gb")
local macro_rules | `(tactic| walk_at "go") => `(tactic| first
  | (with_reducible apply ee_nm); first | walk_at "var" | walk_at "glo"
  | (with_reducible apply g_const); first | (with_reducible exact ee_int) | (with_reducible exact ee_str) | (with_reducible exact ee_bl) | (with_reducible exact ee_non)
  | (with_reducible apply g_call); first
    | (with_reducible apply g_call1); first | ((with_reducible apply ee_lenL) <;> walk_at "any") | ((with_reducible apply ee_lenT) <;> walk_at "any") | ((with_reducible apply ee_intIN) <;> walk_at "any") | ((with_reducible apply ee_intBN) <;> walk_at "any") | ((with_reducible apply ee_tupN) <;> walk_at "any") | ((with_reducible apply ee_absN) <;> walk_at "any") | ((with_reducible apply ee_sumN) <;> walk_at "any") | ((with_reducible apply ee_sumTN) <;> walk_at "any") | ((with_reducible apply ee_allN) <;> walk_at "any") | ((with_reducible apply ee_lstN) <;> walk_at "any") | walk_at "call"
    | (with_reducible apply g_call2); first | ((with_reducible apply ee_isInt) <;> walk_at "any") | ((with_reducible apply ee_isBool) <;> walk_at "any") | ((with_reducible apply ee_isTup) <;> walk_at "any") | ((with_reducible apply ee_isStr) <;> walk_at "any") | ((with_reducible apply ee_minN) <;> walk_at "any") | ((with_reducible apply ee_maxN) <;> walk_at "any") | walk_at "call"
    | walk_at "call"
  | ((with_reducible apply ee_bin) <;> walk_at "any")
  | (with_reducible apply g_cmp); first | ((with_reducible apply ee_cmp) <;> walk_at "any") | ((with_reducible apply ee_chain) <;> walk_at "any")
  | (with_reducible apply g_sub); first | ((with_reducible apply ee_slL) <;> walk_at "any") | ((with_reducible apply ee_cell) <;> walk_at "any") | ((with_reducible apply ee_ixT) <;> walk_at "any") | ((with_reducible apply ee_ixL) <;> walk_at "any")
  | (with_reducible apply g_un); first | ((with_reducible apply ee_not); walk_at "go") | (with_reducible exact ee_neg)
  | (with_reducible apply g_bool); first | ((with_reducible apply ee_and) <;> walk_at "any") | ((with_reducible apply ee_or) <;> walk_at "any") | ((with_reducible apply ee_and1) <;> walk_at "any")
  | (with_reducible apply g_if); first | ((with_reducible apply ee_ifI) <;> walk_at "any") | ((with_reducible apply ee_if) <;> walk_at "any")
  | (with_reducible apply g_lst); first | ((with_reducible apply ee_lst0) <;> walk_at "any") | ((with_reducible apply ee_lst1) <;> walk_at "any") | ((with_reducible apply ee_lst2) <;> walk_at "any") | ((with_reducible apply ee_lst3) <;> walk_at "any") | ((with_reducible apply ee_lst4) <;> walk_at "any")
  | (with_reducible apply g_tup); first | ((with_reducible apply ee_tup0) <;> walk_at "any") | ((with_reducible apply ee_tup1) <;> walk_at "any") | ((with_reducible apply ee_tup2) <;> walk_at "any") | ((with_reducible apply ee_tup3) <;> walk_at "any") | ((with_reducible apply ee_tup4) <;> walk_at "any"))
local macro_rules | `(tactic| walk_at "loc") => `(tactic| first | exact .inl (by rfl) | exact .inr (by rfl))
local macro_rules | `(tactic| walk_at "locf") => `(tactic| first | exact .inr (by rfl) | exact .inl (by rfl))
local macro_rules | `(tactic| walk_at "iv") => `(tactic| first
  | ((with_reducible apply iv_tup); walk_at "go") | ((with_reducible apply iv_list); walk_at "go")
  | ((with_reducible apply iv_range) <;> walk_at "any") | ((with_reducible apply iv_range2) <;> walk_at "any")
  | ((with_reducible apply iv_enumL) <;> walk_at "any") | ((with_reducible apply iv_enumT) <;> walk_at "any") | ((with_reducible apply iv_enumT1) <;> walk_at "any")
  | ((with_reducible apply iv_zipL) <;> walk_at "any") | ((with_reducible apply iv_zipT) <;> walk_at "any"))
local macro_rules | `(tactic| walk_at "fm") => `(tactic| ((try rw [filter_tt]); first | rfl | (rw [List.map_map]; done) | (rw [List.map_map]; rfl) | (simp only [lI, tI, List.map_map]; done) | (simp only [lI, tI, List.map_map]; rfl)))
local macro_rules | `(tactic| walk_at "call") => `(tactic| (with_reducible apply ee_halves_paper) <;> walk_at "any")
local macro_rules | `(tactic| walk_at "call") => `(tactic| (with_reducible apply ee_check_halves) <;> walk_at "any")
local macro_rules | `(tactic| walk_at "call") => `(tactic| (with_reducible apply ee_weighed_in) <;> walk_at "any")
local macro_rules | `(tactic| walk_at "call") => `(tactic| (with_reducible apply ee_need_bundle) <;> walk_at "any")
local macro_rules | `(tactic| walk_at "call") => `(tactic| (with_reducible apply ee_are_halves) <;> walk_at "any")
local macro_rules | `(tactic| walk_at "call") => `(tactic| (with_reducible apply ee_need_form) <;> walk_at "any")
local macro_rules | `(tactic| walk_at "call") => `(tactic| (with_reducible apply ee_greatest_of) <;> walk_at "any")
local macro_rules | `(tactic| walk_at "call") => `(tactic| (with_reducible apply ee_first_table) <;> walk_at "any")

local macro_rules | `(tactic| walk_at "call") => `(tactic| (with_reducible apply ee_turned_table) <;> walk_at "any")
local macro_rules | `(tactic| walk_at "call") => `(tactic| (with_reducible apply ee_do_clash) <;> walk_at "any")
local macro_rules | `(tactic| walk_at "call") => `(tactic| (with_reducible apply ee_is_row) <;> walk_at "any")
local macro_rules | `(tactic| walk_at "call") => `(tactic| (with_reducible apply ee_are_halves_of) <;> walk_at "any")
local macro_rules | `(tactic| walk_at "call") => `(tactic| (with_reducible apply ee_rounded_row) <;> walk_at "any")
local macro_rules | `(tactic| walk_at "call") => `(tactic| (with_reducible apply ee_rounded_rowL) <;> walk_at "any")
local macro_rules | `(tactic| walk_at "call") => `(tactic| (with_reducible apply ee_sign_in) <;> walk_at "any")
local macro_rules | `(tactic| walk_at "call") => `(tactic| (with_reducible apply ee_heft_at) <;> walk_at "any")
local macro_rules | `(tactic| walk_at "call") => `(tactic| (with_reducible apply ee_are_rising) <;> walk_at "any")
local macro_rules | `(tactic| walk_at "call") => `(tactic| (with_reducible apply ee_is_literal) <;> walk_at "any")
local macro_rules | `(tactic| walk_at "call") => `(tactic| (with_reducible apply ee_is_clause) <;> walk_at "any")
local macro_rules | `(tactic| walk_at "call") => `(tactic| (with_reducible apply ee_weight_of) <;> walk_at "any")
local macro_rules | `(tactic| walk_at "call") => `(tactic| (with_reducible apply ee_does_weigh) <;> walk_at "any")
local macro_rules | `(tactic| walk_at "call") => `(tactic| (with_reducible apply ee_is_integer) <;> walk_at "any")
local macro_rules | `(tactic| walk_at "call") => `(tactic| (with_reducible apply ee_is_between) <;> walk_at "any")
local macro_rules | `(tactic| walk_at "call") => `(tactic| ((with_reducible apply ee_sortedP) <;> walk_at "any"))
def byN (ls : List Int) : List Int := (sortP (ls.map fun l => ((l.natAbs : Int), l))).map fun p => p.2
theorem byN_same {ls : List Int} (h : ls.Pairwise fun a b => a.natAbs < b.natAbs) : byN ls = ls := by
  unfold byN
  rw [sortP_same, List.map_map]
  · exact List.map_id'' (fun _ => rfl) ls
  · exact List.pairwise_map.mpr (h.imp fun {a b} k => leP_iff.mpr (.inl (by show (a.natAbs : Int) < (b.natAbs : Int); omega)))
theorem sc6 : FnScope ["literals", "pair", "literal"] ["literals"] (defScope (top 6)) := ⟨rfl, rfl, rfl, by decide +kernel, rfl, by decide +kernel, by decide +kernel⟩
local macro_rules | `(tactic| walk_at "var") => `(tactic| first | ((with_reducible apply ee_varQ (x := "literals") (i := 0)) <;> walk_at "vs") | ((with_reducible apply ee_varQ (x := "pair") (i := 1)) <;> walk_at "vs") | ((with_reducible apply ee_varQ (x := "literal") (i := 2)) <;> walk_at "vs"))
local macro_rules | `(tactic| walk_at "nd") => `(tactic| exact sc6.nd)
theorem ok_by_names (T : Txt K mg) : FnD P w K mg base 1 "by_names" ["literals"] (pureD fun xs r => ∃ ls : List Int, xs = [.d (lI ls)] ∧ ls.length ≤ 100000 ∧ r = tI (byN ls)) := by
  refine fnd T 5 rfl rfl sc6 (fun _ _ _ _ _ _ us hl => match us, hl with | [_], _ => rfl) (fun xs M Φ h => ?_) (fun a cdv A outer s H E xs M Φ hr h => ?_)
  · obtain ⟨r, ⟨ls, rfl, _, rfl⟩, q⟩ := h
    rfl
  · obtain ⟨r, ⟨ls, rfl, hl, rfl⟩, q⟩ := h
    refine ws_cons (w1_retE ?_ q)
    refine EE.to (ee_tupN (EE.to (LC1.ee (own := [("pair", 1)]) (i := 1) (xs := sortP (ls.map fun l => ((l.natAbs : Int), l))) (g := pairD) (f := fun p => .int p.2) (p := fun _ => true) ?_) (d' := lI (byN ls)) ?_) (by rfl) (by walk_at "mg") (by rfl)) rfl
    · refine ⟨?_, fun s0 H0 C0 cl0 fp0 z0 hz0 => ?_, fun s0 H0 C0 cl0 fp0 z0 hz0 hp0 => ?_, ?_, fun _ => by rfl, blkOk_by (by rfl), fun _ _ _ _ _ => by walk_at "loc", fun _ _ _ _ _ => by walk_at "locf", by rfl, by decide, by walk_at "nd", by rfl⟩
      · apply iv_list
        refine ee_sortedP (EE.to (LC1.ee (own := [("literal", 2)]) (i := 2) (xs := ls) (g := PyData.int) (f := fun l => pairD ((l.natAbs : Int), l)) (p := fun _ => true) ?_) ?_) (by rfl) (by walk_at "mg") (by rfl)
        · refine ⟨?_, fun s1 H1 C1 cl1 fp1 z1 hz1 => ?_, fun s1 H1 C1 cl1 fp1 z1 hz1 hp1 => ?_, ?_, fun _ => by rfl, blkOk_by (by rfl), fun _ _ _ _ _ => by walk_at "loc", fun _ _ _ _ _ => by walk_at "locf", by rfl, by decide, by walk_at "nd", by rfl⟩
          · walk_at "iv"
          · exact eif_nil
          · walk_at "any"
          · exact hl
        · rw [filter_tt, List.map_map]; rfl
      · exact eif_nil
      · walk_at "any"
      · rw [(sortP_perm _).length_eq, List.length_map]; exact hl
    · rw [filter_tt]
      show PyData.list _ = PyData.list ((byN ls).map PyData.int)
      unfold byN
      rw [List.map_map]; rfl
theorem ee_by_names {X : Cx} {δ : En} {pos p : Pos} {e : Expr} {k' : Nat} {ls : List Int} (h_e : EE X e δ (lI ls)) (s0 : ls.length ≤ 100000) (T : Txt X.K X.mg) (hr : Room k' X.A) (hk : 1 ≤ k') (hg : Gl X "by_names") (q0 : starEach (e :: []) X.env = (false, eval e X.env) :: starEach [] X.env) (hpl : (backTo pos (starEach [] X.env)).any (·.1) = false) : EE X (.Call (.Name "by_names" p) [e] [] pos) δ (tI (byN ls)) :=
  ee_callK (ok_by_names T) (ea_cons q0 h_e ea_nil) (⟨ls, rfl, s0, rfl⟩) hr hk hg q0 hpl (by decide)
local macro_rules | `(tactic| walk_at "call") => `(tactic| (with_reducible apply ee_by_names) <;> walk_at "any")
theorem sc34 : FnScope ["bundle", "weighing"] ["bundle", "weighing"] (defScope (top 34)) := ⟨rfl, rfl, rfl, by decide +kernel, rfl, by decide +kernel, by decide +kernel⟩
local macro_rules | `(tactic| walk_at "var") => `(tactic| first | ((with_reducible apply ee_varQ (x := "bundle") (i := 0)) <;> walk_at "vs") | ((with_reducible apply ee_varQ (x := "weighing") (i := 1)) <;> walk_at "vs"))
local macro_rules | `(tactic| walk_at "nd") => `(tactic| exact sc34.nd)
theorem ok_need_weighing (T : Txt K mg) : FnD P w K mg base 4 "need_weighing" ["bundle", "weighing"] (pureD fun xs r => ∃ (n : Nat) (cs : List (List Int)) (v : Int) (row : List Int), xs = [.d (bun n cs), .d (.tuple [.int v, tI row])] ∧ CsOk n cs ∧ 1 ≤ v ∧ IC.isRow n v row = true ∧ IC.doesW v row cs = true ∧ r = .none) := by
  refine fnd T 19 rfl rfl sc34 (fun _ _ _ _ _ _ us hl => match us, hl with | [_, _], _ => rfl) (fun xs M Φ h => ?_) (fun a cdv A outer s H E xs M Φ hr h => ?_)
  · obtain ⟨r, ⟨n, cs, v, row, rfl, _, _, _, _, rfl⟩, q⟩ := h
    rfl
  · obtain ⟨r, ⟨n, cs, v, row, rfl, hb, hv, hr1, hr2, rfl⟩, q⟩ := h
    have h7 := hb.le
    have hl : row.length = n := of_decide_eq_true (Bool.and_eq_true_iff.mp hr1).1
    refine ws_cons (w1_ifE (p := false) (EB.to (EW.eb (ew_or (p := false) (r := false) (EB.to (b := !isTup (.tuple [.int v, tI row])) ?_ rfl) (fun _ => ew_or (p := false) (r := false) (EB.to (b := !decide (((([PyData.int v, tI row] : List PyData).length : Nat) : Int) = 2)) ?_ ?_) (fun _ => ew_or (p := false) (r := false) (EB.to (b := !isInt (.int v)) (eb_not (eb_val (fun _ => rfl) (ee_is_integer (ee_ixT (ds := [.int v, tI row]) (i := 0) ?_ ee_int rfl (by intro _ _; rfl)) rfl (by assumption) (by assumption) (by decide) (by rfl) (by rfl) (by rfl)))) rfl) (fun _ => ew_or1 (EB.to (b := decide (v < 1)) (eb_cmp (by rfl) (ee_ixT (ds := [.int v, tI row]) (i := 0) ?_ ee_int rfl (by intro _ _; rfl)) ee_int bv_lt) ?_)))))) rfl) (fun h => nomatch h) (fun _ => ws_nil ?_))
    · walk_at "gb"
    · walk_at "gb"
    · rfl
    · walk_at "any"
    · walk_at "any"
    · exact decide_eq_false (by omega)
    refine ws_cons (w1_ifE (p := false) (EB.to (EW.eb (ew_or (p := false) (r := false) (EB.to (b := !rowD n v (tI row)) (eb_not (eb_val (fun _ => rfl) (ee_is_row (n := n) (cs := cs) (v := v) (d := tI row) ?_ (ee_ixT (ds := [.int v, tI row]) (i := 0) ?_ ee_int rfl (by intro _ _; rfl)) (ee_ixT (ds := [.int v, tI row]) (i := 1) ?_ ee_int rfl (by intro _ _; rfl)) flat_tI (len_tI ?_) (by assumption) (by assumption) (by decide) (by rfl) (by rfl) (by rfl) (by rfl) (by rfl)))) ?_) (fun _ => ew_or1 (EB.to (b := !IC.doesW v row cs) (eb_not (eb_val (fun _ => rfl) (ee_does_weigh (n := n) (cs := cs) (v := v) (row := row) ?_ (ee_ixT (ds := [.int v, tI row]) (i := 0) ?_ ee_int rfl (by intro _ _; rfl)) (ee_ixT (ds := [.int v, tI row]) (i := 1) ?_ ee_int rfl (by intro _ _; rfl)) hb hl (by assumption) (by assumption) (by decide) (by rfl) (by rfl) (by rfl) (by rfl) (by rfl)))) ?_)))) rfl) (fun h => nomatch h) (fun _ => ws_nil (ws_nil q)))
    · walk_at "any"
    · walk_at "any"
    · walk_at "any"
    · rw [hl]; omega
    · rw [rowD_tI, hr1]; rfl
    · walk_at "any"
    · walk_at "any"
    · walk_at "any"
    · rw [hr2]; rfl
theorem ee_need_weighing {X : Cx} {δ : En} {pos p : Pos} {e e2 : Expr} {k' : Nat} {n : Nat} {cs : List (List Int)} {v : Int} {row : List Int} (h_e : EE X e δ (bun n cs)) (h_e2 : EE X e2 δ (.tuple [.int v, tI row])) (s0 : CsOk n cs) (s1 : 1 ≤ v) (s2 : IC.isRow n v row = true) (s3 : IC.doesW v row cs = true) (T : Txt X.K X.mg) (hr : Room k' X.A) (hk : 4 ≤ k') (hg : Gl X "need_weighing") (q0 : starEach (e :: [e2]) X.env = (false, eval e X.env) :: starEach [e2] X.env) (q1 : starEach (e2 :: []) X.env = (false, eval e2 X.env) :: starEach [] X.env) (hpl : (backTo pos (starEach [e2] X.env)).any (·.1) = false) : EE X (.Call (.Name "need_weighing" p) [e, e2] [] pos) δ .none :=
  ee_callK (ok_need_weighing T) (ea_cons q0 h_e (ea_cons q1 h_e2 ea_nil)) (⟨n, cs, v, row, rfl, s0, s1, s2, s3, rfl⟩) hr hk hg q0 hpl (by decide)
local macro_rules | `(tactic| walk_at "call") => `(tactic| (with_reducible apply ee_need_weighing) <;> walk_at "any")
theorem sc35 : FnScope ["bundle", "weighing"] ["bundle", "weighing"] (defScope (top 35)) := ⟨rfl, rfl, rfl, by decide +kernel, rfl, by decide +kernel, by decide +kernel⟩
local macro_rules | `(tactic| walk_at "var") => `(tactic| first | ((with_reducible apply ee_varQ (x := "bundle") (i := 0)) <;> walk_at "vs") | ((with_reducible apply ee_varQ (x := "weighing") (i := 1)) <;> walk_at "vs"))
local macro_rules | `(tactic| walk_at "nd") => `(tactic| exact sc35.nd)
theorem ok_rounded (T : Txt K mg) : FnD P w K mg base 5 "rounded" ["bundle", "weighing"] (pureD fun xs r => ∃ (n : Nat) (cs : List (List Int)) (v : Int) (row : List Int), xs = [.d (bun n cs), .d (.tuple [.int v, tI row])] ∧ BuOk n cs ∧ 1 ≤ v ∧ IC.isRow n v row = true ∧ IC.doesW v row cs = true ∧ (∀ x ∈ row, sml x) ∧ r = tI (IC.roundRow v row)) := by
  refine fnd T 20 rfl rfl sc35 (fun _ _ _ _ _ _ us hl => match us, hl with | [_, _], _ => rfl) (fun xs M Φ h => ?_) (fun a cdv A outer s H E xs M Φ hr h => ?_)
  · obtain ⟨r, ⟨n, cs, v, row, rfl, _, _, _, _, _, rfl⟩, q⟩ := h
    rfl
  · obtain ⟨r, ⟨n, cs, v, row, rfl, hb, hv, hr1, hr2, hs, rfl⟩, q⟩ := h
    have hb' := hb.toCsOk
    have h7 := hb.le
    have hl : row.length = n := of_decide_eq_true (Bool.and_eq_true_iff.mp hr1).1
    have hl' : row.length ≤ 100000 := by omega
    refine ws_cons (w1_expr (by rfl) (EE.ev (d := .none) ?_ ?_))
    · walk_at "any"
    refine ws_cons (w1_retE (ee_rounded_row (v := v) (row := row) (ee_ixT (ds := [.int v, tI row]) (i := 0) ?_ ee_int rfl (by intro _ _; rfl)) (ee_ixT (ds := [.int v, tI row]) (i := 1) ?_ ee_int rfl (by intro _ _; rfl)) hs hl' (by assumption) (by assumption) (by decide) (by rfl) (by rfl) (by rfl) (by rfl)) q)
    · walk_at "any"
    · walk_at "any"
theorem ee_rounded {X : Cx} {δ : En} {pos p : Pos} {e e2 : Expr} {k' : Nat} {n : Nat} {cs : List (List Int)} {v : Int} {row : List Int} (h_e : EE X e δ (bun n cs)) (h_e2 : EE X e2 δ (.tuple [.int v, tI row])) (s0 : BuOk n cs) (s1 : 1 ≤ v) (s2 : IC.isRow n v row = true) (s3 : IC.doesW v row cs = true) (s4 : ∀ x ∈ row, sml x) (T : Txt X.K X.mg) (hr : Room k' X.A) (hk : 5 ≤ k') (hg : Gl X "rounded") (q0 : starEach (e :: [e2]) X.env = (false, eval e X.env) :: starEach [e2] X.env) (q1 : starEach (e2 :: []) X.env = (false, eval e2 X.env) :: starEach [] X.env) (hpl : (backTo pos (starEach [e2] X.env)).any (·.1) = false) : EE X (.Call (.Name "rounded" p) [e, e2] [] pos) δ (tI (IC.roundRow v row)) :=
  ee_callK (ok_rounded T) (ea_cons q0 h_e (ea_cons q1 h_e2 ea_nil)) (⟨n, cs, v, row, rfl, s0, s1, s2, s3, s4, rfl⟩) hr hk hg q0 hpl (by decide)
local macro_rules | `(tactic| walk_at "call") => `(tactic| (with_reducible apply ee_rounded) <;> walk_at "any")
def lightOf (row : List Int) : List Int := (row.zipIdx.filter fun q => !decide (q.1 = 1)).map fun q => if q.1 = 0 then 1 + (q.2 : Int) else 0 - (1 + (q.2 : Int))
theorem lightOf_asc (row : List Int) : (lightOf row).Pairwise fun a b => a.natAbs < b.natAbs := by
  have h0 : ∀ (l : List Int) (k : Nat), (l.zipIdx k).Pairwise fun a b => a.2 < b.2 := by
    intro l
    induction l with
    | nil => intro k; exact .nil
    | cons x l ih =>
      intro k
      rw [List.zipIdx_cons]
      refine List.pairwise_cons.mpr ⟨fun q hq => ?_, ih _⟩
      have := List.le_snd_of_mem_zipIdx (x := q) hq
      show k < q.2
      omega
  unfold lightOf
  refine List.pairwise_map.mpr (List.Pairwise.imp (fun {a b} h => ?_) ((h0 row 0).filter _))
  split <;> split <;> omega
theorem lightOf_len (row : List Int) : (lightOf row).length ≤ row.length := by
  unfold lightOf
  rw [List.length_map]
  exact Nat.le_trans (List.length_filter_le _ _) (by rw [List.length_zipIdx]; exact Nat.le_refl _)
theorem zipIdx_pairs {row : List Int} {c : Int} : ((row.map PyData.int).zipIdx.map fun q => PyData.tuple [.int (c + (q.2 : Int)), q.1]) = row.zipIdx.map fun q => .tuple [.int (c + (q.2 : Int)), .int q.1] := by
  rw [List.zipIdx_map, List.map_map]; rfl
theorem sc42 : FnScope ["row", "found", "name", "weight"] ["row"] (defScope (top 42)) := ⟨rfl, rfl, rfl, by decide +kernel, rfl, by decide +kernel, by decide +kernel⟩
local macro_rules | `(tactic| walk_at "var") => `(tactic| first | ((with_reducible apply ee_varQ (x := "row") (i := 0)) <;> walk_at "vs") | ((with_reducible apply ee_varQ (x := "found") (i := 1)) <;> walk_at "vs") | ((with_reducible apply ee_varQ (x := "name") (i := 2)) <;> walk_at "vs") | ((with_reducible apply ee_varQ (x := "weight") (i := 3)) <;> walk_at "vs"))
local macro_rules | `(tactic| walk_at "nd") => `(tactic| exact sc42.nd)
theorem ok_light_setting (T : Txt K mg) : FnD P w K mg base 2 "light_setting" ["row"] (pureD fun xs r => ∃ row : List Int, xs = [.d (tI row)] ∧ row.length ≤ 100000 ∧ r = tI (lightOf row)) := by
  refine fnd T 27 rfl rfl sc42 (fun _ _ _ _ _ _ us hl => match us, hl with | [_], _ => rfl) (fun xs M Φ h => ?_) (fun a cdv A outer s H E xs M Φ hr h => ?_)
  · obtain ⟨r, ⟨row, rfl, _, rfl⟩, q⟩ := h
    rfl
  · obtain ⟨r, ⟨row, rfl, hl, rfl⟩, q⟩ := h
    refine ws_cons (LC2.set (own := [("name", 2), ("weight", 3)]) (i := 2) (j := 3) (xs := row.zipIdx) (g := fun q => .int (1 + (q.2 : Int))) (g2 := fun q => .int q.1) (f := fun q => .int (if q.1 = 0 then 1 + (q.2 : Int) else 0 - (1 + (q.2 : Int)))) (p := fun q => !decide (q.1 = 1)) ?_ (l := 1) ?_ (by rfl) (by rfl) (by rfl))
    · refine ⟨?_, fun s0 H0 C0 cl0 fp0 z0 hz0 => ?_, fun s0 H0 C0 cl0 fp0 z0 hz0 hp0 => ?_, ?_, fun _ => by rfl, blkOk_by (by rfl), fun _ _ _ _ _ => by walk_at "loc", fun _ _ _ _ _ => by walk_at "locf", fun _ _ _ _ _ => by walk_at "loc", fun _ _ _ _ _ => by walk_at "locf", by rfl, by rfl, by decide, by decide, by walk_at "nd", by rfl⟩
      · apply IV.to
        · refine iv_enumT1 (c := 1) (ds := row.map PyData.int) (by decide) (by decide) (by rfl) (by walk_at "mg") (by rfl) (by rfl) (by rfl) ?_
          walk_at "any"
        · exact zipIdx_pairs
      · refine eif_one ?_
        walk_at "gb"
      · refine EE.to (ee_ifI (p := decide (z0.1 = 0)) (i := 1 + (z0.2 : Int)) (j := 0 - (1 + (z0.2 : Int))) ?_ (fun _ => ?_) (fun _ => ?_)) ?_
        · walk_at "gb"
        · walk_at "any"
        · walk_at "any"
        · by_cases e : z0.1 = 0
          · rw [decide_eq_true e, if_pos rfl, if_pos e]
          · rw [decide_eq_false e, if_neg Bool.false_ne_true, if_neg e]
      · rw [List.length_zipIdx]; exact hl
    have e : ((row.zipIdx.filter fun q => !decide (q.1 = 1)).map fun q : Int × Nat => PyData.int (if q.1 = 0 then 1 + (q.2 : Int) else 0 - (1 + (q.2 : Int)))) = (lightOf row).map PyData.int := by
      unfold lightOf
      rw [List.map_map]; rfl
    rw [e]
    refine ws_cons (w1_retE (EE.to (ee_by_names (ls := lightOf row) ?_ (Nat.le_trans (lightOf_len row) hl) (by assumption) (by assumption) (by decide) (by rfl) (by rfl) (by rfl)) ?_) q)
    · walk_at "any"
    · rw [byN_same (lightOf_asc row)]
theorem ee_light_setting {X : Cx} {δ : En} {pos p : Pos} {e : Expr} {k' : Nat} {row : List Int} (h_e : EE X e δ (tI row)) (s0 : row.length ≤ 100000) (T : Txt X.K X.mg) (hr : Room k' X.A) (hk : 2 ≤ k') (hg : Gl X "light_setting") (q0 : starEach (e :: []) X.env = (false, eval e X.env) :: starEach [] X.env) (hpl : (backTo pos (starEach [] X.env)).any (·.1) = false) : EE X (.Call (.Name "light_setting" p) [e] [] pos) δ (tI (lightOf row)) :=
  ee_callK (ok_light_setting T) (ea_cons q0 h_e ea_nil) (⟨row, rfl, s0, rfl⟩) hr hk hg q0 hpl (by decide)
local macro_rules | `(tactic| walk_at "call") => `(tactic| (with_reducible apply ee_light_setting) <;> walk_at "any")
theorem sc43 : FnScope ["bundle", "row"] ["bundle", "row"] (defScope (top 43)) := ⟨rfl, rfl, rfl, by decide +kernel, rfl, by decide +kernel, by decide +kernel⟩
local macro_rules | `(tactic| walk_at "var") => `(tactic| first | ((with_reducible apply ee_varQ (x := "bundle") (i := 0)) <;> walk_at "vs") | ((with_reducible apply ee_varQ (x := "row") (i := 1)) <;> walk_at "vs"))
local macro_rules | `(tactic| walk_at "nd") => `(tactic| exact sc43.nd)
theorem ok_tidy_by (T : Txt K mg) : FnD P w K mg base 6 "tidy_by" ["bundle", "row"] (pureD fun xs r => ∃ (n : Nat) (cs : List (List Int)) (row : List Int), xs = [.d (bun n cs), .d (tI row)] ∧ BuOk n cs ∧ IC.areHalves n cs row = true ∧ r = tI (lightOf row)) := by
  refine fnd T 28 rfl rfl sc43 (fun _ _ _ _ _ _ us hl => match us, hl with | [_, _], _ => rfl) (fun xs M Φ h => ?_) (fun a cdv A outer s H E xs M Φ hr h => ?_)
  · obtain ⟨r, ⟨n, cs, row, rfl, _, _, rfl⟩, q⟩ := h
    rfl
  · obtain ⟨r, ⟨n, cs, row, rfl, hb, hh, rfl⟩, q⟩ := h
    have h7 := hb.le
    have hl : row.length = n := of_decide_eq_true (Bool.and_eq_true_iff.mp (Bool.and_eq_true_iff.mp hh).1).1
    have hl' : row.length ≤ 100000 := by omega
    refine ws_cons (w1_ifE (p := false) (EB.to (b := !halvD n cs (tI row)) (eb_not (eb_val (fun _ => rfl) (ee_are_halves (n := n) (cs := cs) (d := tI row) ?_ ?_ hb flat_tI (len_tI hl') (by assumption) (by assumption) (by decide) (by rfl) (by rfl) (by rfl) (by rfl)))) ?_) (fun h => nomatch h) (fun _ => ws_nil ?_))
    · walk_at "any"
    · walk_at "any"
    · rw [halvD_tI, hh]; rfl
    refine ws_cons (w1_retE ?_ q)
    walk_at "any"
theorem ee_tidy_by {X : Cx} {δ : En} {pos p : Pos} {e e2 : Expr} {k' : Nat} {n : Nat} {cs : List (List Int)} {row : List Int} (h_e : EE X e δ (bun n cs)) (h_e2 : EE X e2 δ (tI row)) (s0 : BuOk n cs) (s1 : IC.areHalves n cs row = true) (T : Txt X.K X.mg) (hr : Room k' X.A) (hk : 6 ≤ k') (hg : Gl X "tidy_by") (q0 : starEach (e :: [e2]) X.env = (false, eval e X.env) :: starEach [e2] X.env) (q1 : starEach (e2 :: []) X.env = (false, eval e2 X.env) :: starEach [] X.env) (hpl : (backTo pos (starEach [e2] X.env)).any (·.1) = false) : EE X (.Call (.Name "tidy_by" p) [e, e2] [] pos) δ (tI (lightOf row)) :=
  ee_callK (ok_tidy_by T) (ea_cons q0 h_e (ea_cons q1 h_e2 ea_nil)) (⟨n, cs, row, rfl, s0, s1, rfl⟩) hr hk hg q0 hpl (by decide)
local macro_rules | `(tactic| walk_at "call") => `(tactic| (with_reducible apply ee_tidy_by) <;> walk_at "any")
end
end KP
namespace KP
open PySem PySem.Spec PyProof.Rows L2 DL
section
variable {P : Program} {w : World} {K : PySem.W.Frag} {mg : Str → Option Value} {base : Heap}
/-! steps -/
local macro_rules | `(tactic| walk_at "vis") => `(tactic| first | exact vis_l (by rfl) | exact vis_c (by rfl) | exact vis_f (by rfl))
local macro_rules | `(tactic| walk_at "vs") => `(tactic| first | rfl | (walk_at "vis") | decide)
local macro_rules | `(tactic| walk_at "mg") => `(tactic| exact z_of (by assumption) (by decide +kernel))
local macro_rules | `(tactic| walk_at "var") => `(tactic| fail)
local macro_rules | `(tactic| walk_at "glo") => `(tactic| first | exact ee_names (by assumption) (by rfl) (by rfl) | exact ee_clauses (by assumption) (by rfl) (by rfl) | exact ee_halvesS (by assumption) (by rfl) (by rfl) | exact ee_clashS (by assumption) (by rfl) (by rfl))
local macro_rules | `(tactic| walk_at "side") => `(tactic| first | assumption | ((with_reducible apply atI_litG); rfl) | ((fail_if_success (with_reducible apply atI_litG)); skip))
local macro_rules | `(tactic| walk_at "call") => `(tactic| fail)
local macro_rules | `(tactic| walk_at "bv") => `(tactic| first
  | (with_reducible apply bv_gB); first
    | (with_reducible exact bv_add) | (with_reducible exact bv_sub) | (with_reducible apply bv_mulS; walk_at "side") | (with_reducible apply bv_divS; walk_at "side") | (with_reducible apply bv_mod; walk_at "side") | (with_reducible apply bv_powS; walk_at "side")
    | (with_reducible apply bv_cat <;> walk_at "side") | (with_reducible apply bv_rep1 <;> walk_at "side") | (with_reducible apply bv_rep <;> walk_at "side") | (with_reducible apply bv_catT <;> walk_at "side")
  | (with_reducible apply bv_gC); first
    | (with_reducible exact bv_lt) | (with_reducible exact bv_le) | (with_reducible exact bv_gt) | (with_reducible exact bv_ge) | (with_reducible exact bv_eqI) | (with_reducible exact bv_neI) | (with_reducible exact bv_eqS) | (with_reducible exact bv_neS) | (with_reducible exact bv_isNone) | (with_reducible exact bv_inT) | (with_reducible exact bv_notin2)
    | (with_reducible apply bv_eqD <;> walk_at "side") | (with_reducible apply bv_neD <;> walk_at "side") | (with_reducible apply bv_inD <;> walk_at "side"))
local macro_rules | `(tactic| walk_at "any") => `(tactic| first
  | (with_reducible apply ee_id); walk_at "go"
  | (with_reducible apply ea_id); first | (with_reducible exact ea_nil) | ((with_reducible apply ea_cons) <;> walk_at "any")
  | (with_reducible apply eb_id); walk_at "gb"
  | (with_reducible apply ew_id); walk_at "gw"
  | (with_reducible apply eo_id); first | (with_reducible exact eo_none) | (apply eo_some; walk_at "go")
  | (with_reducible apply bv_id); walk_at "bv"
  | (fail_if_success (with_reducible apply ee_id)); (fail_if_success (with_reducible apply ea_id)); (fail_if_success (with_reducible apply eb_id)); (fail_if_success (with_reducible apply ew_id)); (fail_if_success (with_reducible apply bv_id)); first
    | (intro _; walk_at "any")
    | rfl | (walk_at "mg") | decide | (intro _; rfl) | (intro _ _; rfl) | (walk_at "side"))
local macro_rules | `(tactic| walk_at "gb") => `(tactic| first
  | (with_reducible apply eb_not); walk_at "gb"
  | (with_reducible apply eb_cmp) <;> walk_at "any"
  | (with_reducible apply EW.eb); walk_at "gw"
  | (apply eb_val) <;> walk_at "any")
local macro_rules | `(tactic| walk_at "gw") => `(tactic| first
  | (with_reducible apply ew_and) <;> walk_at "any"
  | (with_reducible apply ew_or) <;> walk_at "any"
  | (with_reducible apply ew_and1); walk_at "gb"
  | (with_reducible apply ew_or1); walk_at "gb")
local macro_rules | `(tactic| walk_at "go") => `(tactic| first
  | (with_reducible apply ee_nm); first | walk_at "var" | walk_at "glo"
  | (with_reducible apply g_const); first | (with_reducible exact ee_int) | (with_reducible exact ee_str) | (with_reducible exact ee_bl) | (with_reducible exact ee_non)
  | (with_reducible apply g_call); first
    | (with_reducible apply g_call1); first | ((with_reducible apply ee_lenL) <;> walk_at "any") | ((with_reducible apply ee_lenT) <;> walk_at "any") | ((with_reducible apply ee_intIN) <;> walk_at "any") | ((with_reducible apply ee_intBN) <;> walk_at "any") | ((with_reducible apply ee_tupN) <;> walk_at "any") | ((with_reducible apply ee_absN) <;> walk_at "any") | ((with_reducible apply ee_sumN) <;> walk_at "any") | ((with_reducible apply ee_sumTN) <;> walk_at "any") | ((with_reducible apply ee_allN) <;> walk_at "any") | ((with_reducible apply ee_lstN) <;> walk_at "any") | walk_at "call"
    | (with_reducible apply g_call2); first | ((with_reducible apply ee_isInt) <;> walk_at "any") | ((with_reducible apply ee_isBool) <;> walk_at "any") | ((with_reducible apply ee_isTup) <;> walk_at "any") | ((with_reducible apply ee_isStr) <;> walk_at "any") | ((with_reducible apply ee_minN) <;> walk_at "any") | ((with_reducible apply ee_maxN) <;> walk_at "any") | walk_at "call"
    | walk_at "call"
  | ((with_reducible apply ee_bin) <;> walk_at "any")
  | (with_reducible apply g_cmp); first | ((with_reducible apply ee_cmp) <;> walk_at "any") | ((with_reducible apply ee_chain) <;> walk_at "any")
  | (with_reducible apply g_sub); first | ((with_reducible apply ee_slL) <;> walk_at "any") | ((with_reducible apply ee_cell) <;> walk_at "any") | ((with_reducible apply ee_ixT) <;> walk_at "any") | ((with_reducible apply ee_ixL) <;> walk_at "any")
  | (with_reducible apply g_un); first | ((with_reducible apply ee_not); walk_at "go") | (with_reducible exact ee_neg)
  | (with_reducible apply g_bool); first | ((with_reducible apply ee_and) <;> walk_at "any") | ((with_reducible apply ee_or) <;> walk_at "any") | ((with_reducible apply ee_and1) <;> walk_at "any")
  | (with_reducible apply g_if); first | ((with_reducible apply ee_ifI) <;> walk_at "any") | ((with_reducible apply ee_if) <;> walk_at "any")
  | (with_reducible apply g_lst); first | ((with_reducible apply ee_lst0) <;> walk_at "any") | ((with_reducible apply ee_lst1) <;> walk_at "any") | ((with_reducible apply ee_lst2) <;> walk_at "any") | ((with_reducible apply ee_lst3) <;> walk_at "any") | ((with_reducible apply ee_lst4) <;> walk_at "any")
  | (with_reducible apply g_tup); first | ((with_reducible apply ee_tup0) <;> walk_at "any") | ((with_reducible apply ee_tup1) <;> walk_at "any") | ((with_reducible apply ee_tup2) <;> walk_at "any") | ((with_reducible apply ee_tup3) <;> walk_at "any") | ((with_reducible apply ee_tup4) <;> walk_at "any"))
local macro_rules | `(tactic| walk_at "loc") => `(tactic| first | exact .inl (by rfl) | exact .inr (by rfl))
local macro_rules | `(tactic| walk_at "locf") => `(tactic| first | exact .inr (by rfl) | exact .inl (by rfl))
local macro_rules | `(tactic| walk_at "iv") => `(tactic| first
  | ((with_reducible apply iv_tup); walk_at "go") | ((with_reducible apply iv_list); walk_at "go")
  | ((with_reducible apply iv_range) <;> walk_at "any") | ((with_reducible apply iv_range2) <;> walk_at "any")
  | ((with_reducible apply iv_enumL) <;> walk_at "any") | ((with_reducible apply iv_enumT) <;> walk_at "any") | ((with_reducible apply iv_enumT1) <;> walk_at "any")
  | ((with_reducible apply iv_zipL) <;> walk_at "any") | ((with_reducible apply iv_zipT) <;> walk_at "any"))
local macro_rules | `(tactic| walk_at "fm") => `(tactic| ((try rw [filter_tt]); first | rfl | (rw [List.map_map]; done) | (rw [List.map_map]; rfl) | (simp only [lI, tI, List.map_map]; done) | (simp only [lI, tI, List.map_map]; rfl)))
local macro_rules | `(tactic| walk_at "call") => `(tactic| ((with_reducible apply ee_sortedP) <;> walk_at "any"))
local macro_rules | `(tactic| walk_at "call") => `(tactic| (with_reducible apply ee_by_names) <;> walk_at "any")
local macro_rules | `(tactic| walk_at "call") => `(tactic| (with_reducible apply ee_need_weighing) <;> walk_at "any")
local macro_rules | `(tactic| walk_at "call") => `(tactic| (with_reducible apply ee_rounded) <;> walk_at "any")
local macro_rules | `(tactic| walk_at "call") => `(tactic| (with_reducible apply ee_light_setting) <;> walk_at "any")
local macro_rules | `(tactic| walk_at "call") => `(tactic| (with_reducible apply ee_tidy_by) <;> walk_at "any")
local macro_rules | `(tactic| walk_at "call") => `(tactic| (with_reducible apply ee_halves_paper) <;> walk_at "any")
local macro_rules | `(tactic| walk_at "call") => `(tactic| (with_reducible apply ee_check_halves) <;> walk_at "any")
local macro_rules | `(tactic| walk_at "call") => `(tactic| (with_reducible apply ee_weighed_in) <;> walk_at "any")
local macro_rules | `(tactic| walk_at "call") => `(tactic| (with_reducible apply ee_need_bundle) <;> walk_at "any")
local macro_rules | `(tactic| walk_at "call") => `(tactic| (with_reducible apply ee_are_halves) <;> walk_at "any")
local macro_rules | `(tactic| walk_at "call") => `(tactic| (with_reducible apply ee_need_form) <;> walk_at "any")
local macro_rules | `(tactic| walk_at "call") => `(tactic| (with_reducible apply ee_greatest_of) <;> walk_at "any")
local macro_rules | `(tactic| walk_at "call") => `(tactic| (with_reducible apply ee_first_table) <;> walk_at "any")

local macro_rules | `(tactic| walk_at "call") => `(tactic| (with_reducible apply ee_turned_table) <;> walk_at "any")
local macro_rules | `(tactic| walk_at "call") => `(tactic| (with_reducible apply ee_do_clash) <;> walk_at "any")
local macro_rules | `(tactic| walk_at "call") => `(tactic| (with_reducible apply ee_is_row) <;> walk_at "any")
local macro_rules | `(tactic| walk_at "call") => `(tactic| (with_reducible apply ee_are_halves_of) <;> walk_at "any")
local macro_rules | `(tactic| walk_at "call") => `(tactic| (with_reducible apply ee_rounded_row) <;> walk_at "any")
local macro_rules | `(tactic| walk_at "call") => `(tactic| (with_reducible apply ee_rounded_rowL) <;> walk_at "any")
local macro_rules | `(tactic| walk_at "call") => `(tactic| (with_reducible apply ee_sign_in) <;> walk_at "any")
local macro_rules | `(tactic| walk_at "call") => `(tactic| (with_reducible apply ee_heft_at) <;> walk_at "any")
local macro_rules | `(tactic| walk_at "call") => `(tactic| (with_reducible apply ee_are_rising) <;> walk_at "any")
local macro_rules | `(tactic| walk_at "call") => `(tactic| (with_reducible apply ee_is_literal) <;> walk_at "any")
local macro_rules | `(tactic| walk_at "call") => `(tactic| (with_reducible apply ee_is_clause) <;> walk_at "any")
local macro_rules | `(tactic| walk_at "call") => `(tactic| (with_reducible apply ee_weight_of) <;> walk_at "any")
local macro_rules | `(tactic| walk_at "call") => `(tactic| (with_reducible apply ee_does_weigh) <;> walk_at "any")
local macro_rules | `(tactic| walk_at "call") => `(tactic| (with_reducible apply ee_is_integer) <;> walk_at "any")
local macro_rules | `(tactic| walk_at "call") => `(tactic| (with_reducible apply ee_is_between) <;> walk_at "any")
def rowsN (m : Nat) : Nat → List (List Int)
  | 0 => [[]]
  | k + 1 => (rowsN m k).flatMap fun r => (List.range m).map fun x : Nat => r ++ [(x : Int)]
theorem rowsN_at {m : Nat} : ∀ {k : Nat} {r : List Int}, r ∈ rowsN m k → r.length = k ∧ ∀ x ∈ r, 0 ≤ x ∧ x < m
  | 0, r, h => by
    have e : r = [] := List.mem_singleton.mp h
    subst e
    exact ⟨rfl, fun x hx => nomatch hx⟩
  | k + 1, r, h => by
    obtain ⟨r0, h0, h1⟩ := List.mem_flatMap.mp h
    obtain ⟨x, hx, rfl⟩ := List.mem_map.mp h1
    obtain ⟨a, b⟩ := rowsN_at h0
    refine ⟨by rw [List.length_append, a]; rfl, fun y hy => ?_⟩
    rcases List.mem_append.mp hy with z | z
    · exact b y z
    · rw [List.mem_singleton.mp z]
      have := List.mem_range.mp hx
      omega
theorem rowsN_len {m : Nat} : ∀ {k : Nat}, (rowsN m k).length = m ^ k
  | 0 => rfl
  | k + 1 => by
    show ((rowsN m k).flatMap fun r => (List.range m).map fun x : Nat => r ++ [(x : Int)]).length = _
    rw [List.length_flatMap]
    have : (rowsN m k).map (fun r => ((List.range m).map fun x : Nat => r ++ [(x : Int)]).length) = (rowsN m k).map fun _ => m := List.map_congr_left fun r _ => by rw [List.length_map, List.length_range]
    rw [this, List.map_const', List.sum_replicate_nat, rowsN_len, Nat.pow_succ]
theorem rows3 {n : Nat} (h : n ≤ 7) : (rowsN 3 n).length ≤ 3000 := by
  rw [rowsN_len]
  exact Nat.le_trans (Nat.pow_le_pow_right (by decide) h) (by decide)
theorem flat_tI2 {m k : Nat} : ((rowsN m k).flatMap fun r => (List.range m).map fun x : Nat => tI (r ++ [(x : Int)])) = (rowsN m (k + 1)).map tI := by
  show _ = ((rowsN m k).flatMap fun r => (List.range m).map fun x : Nat => r ++ [(x : Int)]).map tI
  rw [List.map_flatMap]
  congr 1
  funext r
  rw [List.map_map]; rfl
theorem sc32 : FnScope ["bundle", "rows", "name", "row", "weight"] ["bundle"] (defScope (top 32)) := ⟨rfl, rfl, rfl, by decide +kernel, rfl, by decide +kernel, by decide +kernel⟩
local macro_rules | `(tactic| walk_at "var") => `(tactic| first | ((with_reducible apply ee_varQ (x := "bundle") (i := 0)) <;> walk_at "vs") | ((with_reducible apply ee_varQ (x := "rows") (i := 1)) <;> walk_at "vs") | ((with_reducible apply ee_varQ (x := "name") (i := 2)) <;> walk_at "vs") | ((with_reducible apply ee_varQ (x := "row") (i := 3)) <;> walk_at "vs") | ((with_reducible apply ee_varQ (x := "weight") (i := 4)) <;> walk_at "vs"))
local macro_rules | `(tactic| walk_at "nd") => `(tactic| exact sc32.nd)
theorem ok_all_halves (T : Txt K mg) : FnD P w K mg base 5 "all_halves" ["bundle"] (pureD fun xs r => ∃ (n : Nat) (cs : List (List Int)), xs = [.d (bun n cs)] ∧ BuOk n cs ∧ r = .tuple (((rowsN 3 n).filter fun row => IC.doesW 2 row cs).map tI)) := by
  refine fnd T 17 rfl rfl sc32 (fun _ _ _ _ _ _ us hl => match us, hl with | [_], _ => rfl) (fun xs M Φ h => ?_) (fun a cdv A outer s H E xs M Φ hr h => ?_)
  · obtain ⟨r, ⟨n, cs, rfl, _, rfl⟩, q⟩ := h
    rfl
  · obtain ⟨r, ⟨n, cs, rfl, hb, rfl⟩, q⟩ := h
    have hb' := hb.toCsOk
    have h7 := hb.le
    refine ws_cons (w1_setE (i := 1) (d := .list ((rowsN 3 0).map tI)) ?_ ?_ (by walk_at "nd") (by rfl) (by walk_at "loc") (by walk_at "locf") (by rfl))
    · exact ee_lst1 (ee_tup0) (by rfl)
    refine ws_cons (w1_forN (i := 2) (fun j δ' M' => M' = M ∧ ∃ u, δ' = [some (.d (bun n cs)), some (.d (.list ((rowsN 3 j).map tI))), u, none, none]) (ds := rangeD 0 n) (iv_range (n := n) (by rfl) (by walk_at "mg") (by rfl) (ee_ixT (ds := [.int (n : Int), .tuple (cs.map tI)]) (i := 0) ?_ ee_int rfl (by intro _ _; rfl)) (by omega)) ⟨rfl, none, rfl⟩ ?_ ?_ (by walk_at "nd") (by rfl) (by walk_at "loc") (by walk_at "locf") PassesOwn.never (by rfl) (fun _ => by rfl))
    · walk_at "any"
    · rintro j d δ' M' hd ⟨rfl, u, rfl⟩
      obtain ⟨hj, rfl⟩ := range_at hd
      have hlen : ((rowsN 3 j).flatMap fun r => (List.range 3).map fun x : Nat => tI (r ++ [(x : Int)])).length ≤ 100000 := by
        rw [flat_tI2, List.length_map]
        exact Nat.le_trans (rows3 (by omega)) (by decide)
      refine ws_cons (w1_setLc2 (i := 1) [("row", 3), ("weight", 4)] [3] [4] [4] (xs := rowsN 3 j) (ys := fun _ => List.range 3) (g := tI) (g1 := nI) (f := fun r x => tI (r ++ [(x : Int)])) (by rfl) (by walk_at "nd") (by rfl) (by rfl) (by rfl) (blkOk_by (by rfl)) (by decide) (by decide) (by decide) (fun _ => by rfl) (fun _ _ => by rfl) ?_ hlen
        (fun s0 H0 C cl fp z hz => gv_name (i := 3) (by walk_at "nd") (by rfl) (by walk_at "loc") (by walk_at "locf")) (fun s0 H0 C cl fp z hz => IV.to (iv_range (n := 3) (by rfl) (by walk_at "mg") (by rfl) ee_int (by decide)) range0) (fun s0 H0 C cl fp z hz y hy => gv_name (i := 4) (by walk_at "nd") (by rfl) (by walk_at "loc") (by walk_at "locf")) (fun s0 H0 C cl fp z hz y hy => ?_) ?_)
      · walk_at "iv"
      · refine EE.to (ee_star (as_ := z.map PyData.int) (d := nI y) (by rfl) ?_ (ea_cons (by rfl) ?_ ea_nil) ?_) ?_
        · walk_at "any"
        · walk_at "any"
        · rw [List.length_map, (rowsN_at hz).1]; omega
        · simp only [tI, List.map_append]; rfl
      · refine ws_nil ⟨rfl, some (.d (.int (0 + (j : Int)))), ?_⟩
        rw [flat_tI2]; rfl
    · rintro δ' M' ⟨rfl, u, rfl⟩
      rw [range_len]
      refine ws_cons (w1_retE (ee_tupN (LC1.ee (own := [("row", 3)]) (i := 3) (xs := rowsN 3 n) (g := tI) (f := tI) (p := fun row => IC.doesW 2 row cs) ?_) (by rfl) (by walk_at "mg") (by rfl)) q)
      refine ⟨?_, fun s0 H0 C0 cl0 fp0 z0 hz0 => ?_, fun s0 H0 C0 cl0 fp0 z0 hz0 hp0 => ?_, ?_, fun _ => by rfl, blkOk_by (by rfl), fun _ _ _ _ _ => by walk_at "loc", fun _ _ _ _ _ => by walk_at "locf", by rfl, by decide, by walk_at "nd", by rfl⟩
      · walk_at "iv"
      · refine eif_one (eb_val (fun _ => rfl) ?_)
        walk_at "any"
        exact (rowsN_at hz0).1
      · walk_at "any"
      · exact Nat.le_trans (rows3 h7) (by decide)
theorem ee_all_halves {X : Cx} {δ : En} {pos p : Pos} {e : Expr} {k' : Nat} {n : Nat} {cs : List (List Int)} (h_e : EE X e δ (bun n cs)) (s0 : BuOk n cs) (T : Txt X.K X.mg) (hr : Room k' X.A) (hk : 5 ≤ k') (hg : Gl X "all_halves") (q0 : starEach (e :: []) X.env = (false, eval e X.env) :: starEach [] X.env) (hpl : (backTo pos (starEach [] X.env)).any (·.1) = false) : EE X (.Call (.Name "all_halves" p) [e] [] pos) δ (.tuple (((rowsN 3 n).filter fun row => IC.doesW 2 row cs).map tI)) :=
  ee_callK (ok_all_halves T) (ea_cons q0 h_e ea_nil) (⟨n, cs, rfl, s0, rfl⟩) hr hk hg q0 hpl (by decide)
local macro_rules | `(tactic| walk_at "call") => `(tactic| (with_reducible apply ee_all_halves) <;> walk_at "any")
theorem sc51 : FnScope ["thing", "least", "most"] ["thing", "least", "most"] (defScope (top 51)) := ⟨rfl, rfl, rfl, by decide +kernel, rfl, by decide +kernel, by decide +kernel⟩
local macro_rules | `(tactic| walk_at "var") => `(tactic| first | ((with_reducible apply ee_varQ (x := "thing") (i := 0)) <;> walk_at "vs") | ((with_reducible apply ee_varQ (x := "least") (i := 1)) <;> walk_at "vs") | ((with_reducible apply ee_varQ (x := "most") (i := 2)) <;> walk_at "vs"))
local macro_rules | `(tactic| walk_at "nd") => `(tactic| exact sc51.nd)
theorem ok__law_is_int (T : Txt K mg) : FnD P w K mg base 1 "_law_is_int" ["thing", "least", "most"] (pureD fun xs r => ∃ d a b, xs = [.d d, .d (.int a), .d (.int b)] ∧ noDict d = true ∧ r = .bool (betw d a b)) := by
  refine fnd T 35 rfl rfl sc51 (fun _ _ _ _ _ _ us hl => match us, hl with | [_, _, _], _ => rfl) (fun xs M Φ h => ?_) (fun a cdv A outer s H E xs M Φ hr h => ?_)
  · obtain ⟨r, ⟨d, x, y, rfl, _, rfl⟩, q⟩ := h
    rfl
  · obtain ⟨r, ⟨d, x, y, rfl, hd, rfl⟩, q⟩ := h
    refine ws_cons (w1_retE ?_ q)
    refine EE.to (ee_and (p := isIB d) (r := betw d x y) ?_ (fun hp => EE.to (ee_and (p := !isBl d) (r := betw d x y) ?_ (fun hq => ee_and1 ?_)) ?_)) ?_
    · walk_at "any"
    · walk_at "any"
    · cases d with
      | int i =>
        apply EE.to
        walk_at "any"
        rfl
      | bool b => cases hq
      | _ => cases hp
    · cases d <;> rfl
    · cases d <;> rfl
theorem ee__law_is_int {X : Cx} {δ : En} {pos p : Pos} {e e2 e3 : Expr} {k' : Nat} {d : PyData} {a b : Int} (h_e : EE X e δ d) (h_e2 : EE X e2 δ (.int a)) (h_e3 : EE X e3 δ (.int b)) (s0 : noDict d = true) (T : Txt X.K X.mg) (hr : Room k' X.A) (hk : 1 ≤ k') (hg : Gl X "_law_is_int") (q0 : starEach (e :: [e2, e3]) X.env = (false, eval e X.env) :: starEach [e2, e3] X.env) (q1 : starEach (e2 :: [e3]) X.env = (false, eval e2 X.env) :: starEach [e3] X.env) (q2 : starEach (e3 :: []) X.env = (false, eval e3 X.env) :: starEach [] X.env) (hpl : (backTo pos (starEach [e2, e3] X.env)).any (·.1) = false) : EE X (.Call (.Name "_law_is_int" p) [e, e2, e3] [] pos) δ (.bool (betw d a b)) :=
  ee_callK (ok__law_is_int T) (ea_cons q0 h_e (ea_cons q1 h_e2 (ea_cons q2 h_e3 ea_nil))) (⟨d, a, b, rfl, s0, rfl⟩) hr hk hg q0 hpl (by decide)
local macro_rules | `(tactic| walk_at "call") => `(tactic| (with_reducible apply ee__law_is_int) <;> walk_at "any")
theorem sc52 : FnScope ["whole", "row", "literal"] ["whole", "row", "literal"] (defScope (top 52)) := ⟨rfl, rfl, rfl, by decide +kernel, rfl, by decide +kernel, by decide +kernel⟩
local macro_rules | `(tactic| walk_at "var") => `(tactic| first | ((with_reducible apply ee_varQ (x := "whole") (i := 0)) <;> walk_at "vs") | ((with_reducible apply ee_varQ (x := "row") (i := 1)) <;> walk_at "vs") | ((with_reducible apply ee_varQ (x := "literal") (i := 2)) <;> walk_at "vs"))
local macro_rules | `(tactic| walk_at "nd") => `(tactic| exact sc52.nd)
theorem ok__law_weight (T : Txt K mg) : FnD P w K mg base 1 "_law_weight" ["whole", "row", "literal"] (pureD fun xs r => ∃ (v : Int) (row : List Int) (l : Int), xs = [.d (.int v), .d (.tuple (row.map .int)), .d (.int l)] ∧ (1 ≤ l.natAbs ∧ l.natAbs ≤ row.length) ∧ r = .int (IC.weight v row l)) := by
  refine fnd T 36 rfl rfl sc52 (fun _ _ _ _ _ _ us hl => match us, hl with | [_, _, _], _ => rfl) (fun xs M Φ h => ?_) (fun a cdv A outer s H E xs M Φ hr h => ?_)
  · obtain ⟨r, ⟨v, row, l, rfl, _, rfl⟩, q⟩ := h
    rfl
  · obtain ⟨r, ⟨v, row, l, rfl, hl, rfl⟩, q⟩ := h
    refine ws_cons (w1_retE ?_ q)
    refine EE.to (ee_if (p := decide (0 < l)) (d1 := .int (row.getD (l - 1).toNat 0)) (d2 := .int (v - row.getD (0 - l - 1).toNat 0)) ?_ (fun hp => ?_) (fun hp => ?_)) ?_
    · walk_at "any"
    · have hp := of_decide_eq_true hp
      walk_at "any"
      exact at_int (by omega) (by omega)
    · have hp := of_decide_eq_false hp
      walk_at "any"
      exact at_int (by omega) (by omega)
    · unfold IC.weight
      by_cases hp : 0 < l
      · rw [decide_eq_true hp, if_pos rfl, if_pos hp]
      · rw [decide_eq_false hp, if_neg Bool.false_ne_true, if_neg hp]
theorem ee__law_weight {X : Cx} {δ : En} {pos p : Pos} {e e2 e3 : Expr} {k' : Nat} {v : Int} {row : List Int} {l : Int} (h_e : EE X e δ (.int v)) (h_e2 : EE X e2 δ (.tuple (row.map .int))) (h_e3 : EE X e3 δ (.int l)) (s0 : 1 ≤ l.natAbs ∧ l.natAbs ≤ row.length) (T : Txt X.K X.mg) (hr : Room k' X.A) (hk : 1 ≤ k') (hg : Gl X "_law_weight") (q0 : starEach (e :: [e2, e3]) X.env = (false, eval e X.env) :: starEach [e2, e3] X.env) (q1 : starEach (e2 :: [e3]) X.env = (false, eval e2 X.env) :: starEach [e3] X.env) (q2 : starEach (e3 :: []) X.env = (false, eval e3 X.env) :: starEach [] X.env) (hpl : (backTo pos (starEach [e2, e3] X.env)).any (·.1) = false) : EE X (.Call (.Name "_law_weight" p) [e, e2, e3] [] pos) δ (.int (IC.weight v row l)) :=
  ee_callK (ok__law_weight T) (ea_cons q0 h_e (ea_cons q1 h_e2 (ea_cons q2 h_e3 ea_nil))) (⟨v, row, l, rfl, s0, rfl⟩) hr hk hg q0 hpl (by decide)
local macro_rules | `(tactic| walk_at "call") => `(tactic| (with_reducible apply ee__law_weight) <;> walk_at "any")
theorem heavy_none {v : Int} {row : List Int} : ∀ {cs : List (List Int)}, (cs.filter fun c => decide (v < IC.heavy v row c)).isEmpty = IC.doesW v row cs
  | [] => rfl
  | c :: cs => by
    rw [List.filter_cons]
    by_cases h : v < IC.heavy v row c
    · rw [if_pos (decide_eq_true h)]
      show false = (decide (IC.heavy v row c ≤ v) && _)
      rw [decide_eq_false (by omega)]; rfl
    · rw [if_neg (by rw [decide_eq_false h]; exact Bool.false_ne_true), heavy_none]
      show IC.doesW v row cs = (decide (IC.heavy v row c ≤ v) && IC.doesW v row cs)
      rw [decide_eq_true (by omega), Bool.true_and]
theorem sc53 : FnScope ["bundle", "whole", "row", "heavy", "clause", "one"] ["bundle", "whole", "row"] (defScope (top 53)) := ⟨rfl, rfl, rfl, by decide +kernel, rfl, by decide +kernel, by decide +kernel⟩
local macro_rules | `(tactic| walk_at "var") => `(tactic| first | ((with_reducible apply ee_varQ (x := "bundle") (i := 0)) <;> walk_at "vs") | ((with_reducible apply ee_varQ (x := "whole") (i := 1)) <;> walk_at "vs") | ((with_reducible apply ee_varQ (x := "row") (i := 2)) <;> walk_at "vs") | ((with_reducible apply ee_varQ (x := "heavy") (i := 3)) <;> walk_at "vs") | ((with_reducible apply ee_varQ (x := "clause") (i := 4)) <;> walk_at "vs") | ((with_reducible apply ee_varQ (x := "one") (i := 5)) <;> walk_at "vs"))
local macro_rules | `(tactic| walk_at "nd") => `(tactic| exact sc53.nd)
theorem ok__law_does_weigh (T : Txt K mg) : FnD P w K mg base 2 "_law_does_weigh" ["bundle", "whole", "row"] (pureD fun xs r => ∃ (n : Nat) (cs : List (List Int)) (v : Int) (row : List Int), xs = [.d (bun n cs), .d (.int v), .d (tI row)] ∧ CsOk n cs ∧ row.length = n ∧ r = .bool (IC.doesW v row cs)) := by
  refine fnd T 37 rfl rfl sc53 (fun _ _ _ _ _ _ us hl => match us, hl with | [_, _, _], _ => rfl) (fun xs M Φ h => ?_) (fun a cdv A outer s H E xs M Φ hr h => ?_)
  · obtain ⟨r, ⟨n, cs, v, row, rfl, _, _, rfl⟩, q⟩ := h
    rfl
  · obtain ⟨r, ⟨n, cs, v, row, rfl, hb, hl, rfl⟩, q⟩ := h
    refine ws_cons (LC1.set (own := [("clause", 4)]) (i := 4) (xs := cs) (g := tI) (f := tI) (p := fun c => decide (v < IC.heavy v row c)) ?_ (j := 3) ?_ (by rfl) (by rfl) (by rfl))
    · refine ⟨?_, fun s0 H0 C0 cl0 fp0 z0 hz0 => ?_, fun s0 H0 C0 cl0 fp0 z0 hz0 hp0 => ?_, ?_, fun _ => by rfl, blkOk_by (by rfl), fun _ _ _ _ _ => by walk_at "loc", fun _ _ _ _ _ => by walk_at "locf", by rfl, by decide, by walk_at "nd", by rfl⟩
      · walk_at "iv"
      · refine eif_one (eb_cmp (by rfl) (ee_sumN (ns := z0.map (IC.weight v row)) (EE.to (LC1.ee (own := [("one", 5)]) (i := 5) (xs := z0) (g := PyData.int) (f := fun l => .int (IC.weight v row l)) (p := fun _ => true) ?_) ?_) (by rfl) (by rfl) (by walk_at "mg") (by rfl)) ?_ bv_gt)
        · refine ⟨?_, fun s1 H1 C1 cl1 fp1 z1 hz1 => ?_, fun s1 H1 C1 cl1 fp1 z1 hz1 hp1 => ?_, ?_, fun _ => by rfl, blkOk_by (by rfl), fun _ _ _ _ _ => by walk_at "loc", fun _ _ _ _ _ => by walk_at "locf", by rfl, by decide, by walk_at "nd", by rfl⟩
          · walk_at "iv"
          · exact eif_nil
          · walk_at "any"
            rw [hl]; exact (hb.ok z0 hz0).lit _ hz1
          · exact hb.few1 hz0
        · rw [filter_tt, List.map_map]; rfl
        · walk_at "any"
      · walk_at "any"
      · exact hb.few
    refine ws_cons (w1_retE (EE.to (ee_cmp (by rfl) (d1 := .list ((cs.filter fun c => decide (v < IC.heavy v row c)).map tI)) ?_ ee_lst0 (bv_eqNil (f := tI) hr.units (k := 1) (fun _ _ => dep_tI) (by decide))) ?_) q)
    · walk_at "any"
    · rw [heavy_none]
theorem ee__law_does_weigh {X : Cx} {δ : En} {pos p : Pos} {e e2 e3 : Expr} {k' : Nat} {n : Nat} {cs : List (List Int)} {v : Int} {row : List Int} (h_e : EE X e δ (bun n cs)) (h_e2 : EE X e2 δ (.int v)) (h_e3 : EE X e3 δ (tI row)) (s0 : CsOk n cs) (s1 : row.length = n) (T : Txt X.K X.mg) (hr : Room k' X.A) (hk : 2 ≤ k') (hg : Gl X "_law_does_weigh") (q0 : starEach (e :: [e2, e3]) X.env = (false, eval e X.env) :: starEach [e2, e3] X.env) (q1 : starEach (e2 :: [e3]) X.env = (false, eval e2 X.env) :: starEach [e3] X.env) (q2 : starEach (e3 :: []) X.env = (false, eval e3 X.env) :: starEach [] X.env) (hpl : (backTo pos (starEach [e2, e3] X.env)).any (·.1) = false) : EE X (.Call (.Name "_law_does_weigh" p) [e, e2, e3] [] pos) δ (.bool (IC.doesW v row cs)) :=
  ee_callK (ok__law_does_weigh T) (ea_cons q0 h_e (ea_cons q1 h_e2 (ea_cons q2 h_e3 ea_nil))) (⟨n, cs, v, row, rfl, s0, s1, rfl⟩) hr hk hg q0 hpl (by decide)
local macro_rules | `(tactic| walk_at "call") => `(tactic| (with_reducible apply ee__law_does_weigh) <;> walk_at "any")
theorem no_bad {v : Int} : ∀ {row : List Int}, (row.filter fun x => !betw (.int x) 0 v).isEmpty = row.all (IC.between 0 v)
  | [] => rfl
  | x :: xs => by
    rw [List.filter_cons, List.all_cons]
    cases h : IC.between 0 v x with
    | true =>
      have e : ¬ (!betw (.int x) 0 v) = true := by
        show ¬ (!IC.between 0 v x) = true
        rw [h]; decide
      rw [if_neg e, Bool.true_and]; exact no_bad
    | false =>
      have e : (!betw (.int x) 0 v) = true := by
        show (!IC.between 0 v x) = true
        rw [h]; rfl
      rw [if_pos e]; rfl
theorem sc54 : FnScope ["bundle", "thing", "one"] ["bundle", "thing"] (defScope (top 54)) := ⟨rfl, rfl, rfl, by decide +kernel, rfl, by decide +kernel, by decide +kernel⟩
local macro_rules | `(tactic| walk_at "var") => `(tactic| first | ((with_reducible apply ee_varQ (x := "bundle") (i := 0)) <;> walk_at "vs") | ((with_reducible apply ee_varQ (x := "thing") (i := 1)) <;> walk_at "vs") | ((with_reducible apply ee_varQ (x := "one") (i := 2)) <;> walk_at "vs"))
local macro_rules | `(tactic| walk_at "nd") => `(tactic| exact sc54.nd)
theorem ok__law_are_halves (T : Txt K mg) : FnD P w K mg base 3 "_law_are_halves" ["bundle", "thing"] (pureD fun xs r => ∃ (n : Nat) (cs : List (List Int)) (row : List Int), xs = [.d (bun n cs), .d (tI row)] ∧ CsOk n cs ∧ row.length = n ∧ r = .bool (IC.areHalves n cs row)) := by
  refine fnd T 38 rfl rfl sc54 (fun _ _ _ _ _ _ us hl => match us, hl with | [_, _], _ => rfl) (fun xs M Φ h => ?_) (fun a cdv A outer s H E xs M Φ hr h => ?_)
  · obtain ⟨r, ⟨n, cs, row, rfl, _, _, rfl⟩, q⟩ := h
    rfl
  · obtain ⟨r, ⟨n, cs, row, rfl, hb, hl, rfl⟩, q⟩ := h
    have h7 := hb.le
    refine ws_cons (w1_ifE (p := false) (EB.to (EW.eb (ew_or (p := false) (r := false) (EB.to (b := !isTup (tI row)) ?_ rfl) (fun _ => ew_or1 (EB.to (b := !decide (((row.map PyData.int).length : Int) = (n : Int))) ?_ ?_)))) rfl) (fun h => nomatch h) (fun h => ws_nil ?_))
    · walk_at "gb"
    · walk_at "gb"
    · rw [List.length_map, hl]; simp
    refine ws_cons (w1_retE (EE.to (ee_and (p := (row.filter fun x => !betw (.int x) 0 2).isEmpty) (r := IC.doesW 2 row cs) (ee_cmp (by rfl) (d1 := .list ((row.filter fun x => !betw (.int x) 0 2).map fun _ => PyData.int 1)) (LC1.ee (own := [("one", 2)]) (i := 2) (xs := row) (g := PyData.int) (f := fun _ => .int 1) (p := fun x => !betw (.int x) 0 2) ?_) ee_lst0 (bv_eqNil (f := fun _ => PyData.int 1) hr.units (k := 0) (fun _ _ => dep_int) (by decide))) (fun _ => ee_and1 ?_)) ?_) q)
    · refine ⟨?_, fun s0 H0 C0 cl0 fp0 z0 hz0 => ?_, fun s0 H0 C0 cl0 fp0 z0 hz0 hp0 => ?_, ?_, fun _ => by rfl, blkOk_by (by rfl), fun _ _ _ _ _ => by walk_at "loc", fun _ _ _ _ _ => by walk_at "locf", by rfl, by decide, by walk_at "nd", by rfl⟩
      · walk_at "iv"
      · refine eif_one ?_
        walk_at "gb"
      · walk_at "any"
      · omega
    · walk_at "any"
    · rw [no_bad]
      unfold IC.areHalves IC.isRow
      rw [decide_eq_true hl, Bool.true_and]
theorem ee__law_are_halves {X : Cx} {δ : En} {pos p : Pos} {e e2 : Expr} {k' : Nat} {n : Nat} {cs : List (List Int)} {row : List Int} (h_e : EE X e δ (bun n cs)) (h_e2 : EE X e2 δ (tI row)) (s0 : CsOk n cs) (s1 : row.length = n) (T : Txt X.K X.mg) (hr : Room k' X.A) (hk : 3 ≤ k') (hg : Gl X "_law_are_halves") (q0 : starEach (e :: [e2]) X.env = (false, eval e X.env) :: starEach [e2] X.env) (q1 : starEach (e2 :: []) X.env = (false, eval e2 X.env) :: starEach [] X.env) (hpl : (backTo pos (starEach [e2] X.env)).any (·.1) = false) : EE X (.Call (.Name "_law_are_halves" p) [e, e2] [] pos) δ (.bool (IC.areHalves n cs row)) :=
  ee_callK (ok__law_are_halves T) (ea_cons q0 h_e (ea_cons q1 h_e2 ea_nil)) (⟨n, cs, row, rfl, s0, s1, rfl⟩) hr hk hg q0 hpl (by decide)
local macro_rules | `(tactic| walk_at "call") => `(tactic| (with_reducible apply ee__law_are_halves) <;> walk_at "any")
end
end KP
namespace KP
open PySem PySem.Spec PyProof.Rows L2 DL
section
variable {P : Program} {w : World} {K : PySem.W.Frag} {mg : Str → Option Value} {base : Heap}
/-! steps -/
local macro_rules | `(tactic| walk_at "vis") => `(tactic| first | exact vis_l (by rfl) | exact vis_c (by rfl) | exact vis_f (by rfl))
local macro_rules | `(tactic| walk_at "vs") => `(tactic| first | rfl | (walk_at "vis") | decide)
local macro_rules | `(tactic| walk_at "mg") => `(tactic| exact z_of (by assumption) (by decide +kernel))
local macro_rules | `(tactic| walk_at "var") => `(tactic| fail)
local macro_rules | `(tactic| walk_at "glo") => `(tactic| first | exact ee_names (by assumption) (by rfl) (by rfl) | exact ee_clauses (by assumption) (by rfl) (by rfl) | exact ee_halvesS (by assumption) (by rfl) (by rfl) | exact ee_clashS (by assumption) (by rfl) (by rfl))
local macro_rules | `(tactic| walk_at "side") => `(tactic| first | assumption | ((with_reducible apply atI_litG); rfl) | ((fail_if_success (with_reducible apply atI_litG)); skip))
local macro_rules | `(tactic| walk_at "call") => `(tactic| fail)
local macro_rules | `(tactic| walk_at "bv") => `(tactic| first
  | (with_reducible apply bv_gB); first
    | (with_reducible exact bv_add) | (with_reducible exact bv_sub) | (with_reducible apply bv_mulS; walk_at "side") | (with_reducible apply bv_divS; walk_at "side") | (with_reducible apply bv_mod; walk_at "side") | (with_reducible apply bv_powS; walk_at "side")
    | (with_reducible apply bv_cat <;> walk_at "side") | (with_reducible apply bv_rep1 <;> walk_at "side") | (with_reducible apply bv_rep <;> walk_at "side") | (with_reducible apply bv_catT <;> walk_at "side")
  | (with_reducible apply bv_gC); first
    | (with_reducible exact bv_lt) | (with_reducible exact bv_le) | (with_reducible exact bv_gt) | (with_reducible exact bv_ge) | (with_reducible exact bv_eqI) | (with_reducible exact bv_neI) | (with_reducible exact bv_eqS) | (with_reducible exact bv_neS) | (with_reducible exact bv_isNone) | (with_reducible exact bv_inT) | (with_reducible exact bv_notin2)
    | (with_reducible apply bv_eqD <;> walk_at "side") | (with_reducible apply bv_neD <;> walk_at "side") | (with_reducible apply bv_inD <;> walk_at "side"))
local macro_rules | `(tactic| walk_at "any") => `(tactic| first
  | (with_reducible apply ee_id); walk_at "go"
  | (with_reducible apply ea_id); first | (with_reducible exact ea_nil) | ((with_reducible apply ea_cons) <;> walk_at "any")
  | (with_reducible apply eb_id); walk_at "gb"
  | (with_reducible apply ew_id); walk_at "gw"
  | (with_reducible apply eo_id); first | (with_reducible exact eo_none) | (apply eo_some; walk_at "go")
  | (with_reducible apply bv_id); walk_at "bv"
  | (fail_if_success (with_reducible apply ee_id)); (fail_if_success (with_reducible apply ea_id)); (fail_if_success (with_reducible apply eb_id)); (fail_if_success (with_reducible apply ew_id)); (fail_if_success (with_reducible apply bv_id)); first
    | (intro _; walk_at "any")
    | rfl | (walk_at "mg") | decide | (intro _; rfl) | (intro _ _; rfl) | (walk_at "side"))
local macro_rules | `(tactic| walk_at "gb") => `(tactic| first
  | (with_reducible apply eb_not); walk_at "gb"
  | (with_reducible apply eb_cmp) <;> walk_at "any"
  | (with_reducible apply EW.eb); walk_at "gw"
  | (apply eb_val) <;> walk_at "any")
local macro_rules | `(tactic| walk_at "gw") => `(tactic| first
  | (with_reducible apply ew_and) <;> walk_at "any"
  | (with_reducible apply ew_or) <;> walk_at "any"
  | (with_reducible apply ew_and1); walk_at "gb"
  | (with_reducible apply ew_or1); walk_at "gb")
local macro_rules | `(tactic| walk_at "go") => `(tactic| first
  | (with_reducible apply ee_nm); first | walk_at "var" | walk_at "glo"
  | (with_reducible apply g_const); first | (with_reducible exact ee_int) | (with_reducible exact ee_str) | (with_reducible exact ee_bl) | (with_reducible exact ee_non)
  | (with_reducible apply g_call); first
    | (with_reducible apply g_call1); first | ((with_reducible apply ee_lenL) <;> walk_at "any") | ((with_reducible apply ee_lenT) <;> walk_at "any") | ((with_reducible apply ee_intIN) <;> walk_at "any") | ((with_reducible apply ee_intBN) <;> walk_at "any") | ((with_reducible apply ee_tupN) <;> walk_at "any") | ((with_reducible apply ee_absN) <;> walk_at "any") | ((with_reducible apply ee_sumN) <;> walk_at "any") | ((with_reducible apply ee_sumTN) <;> walk_at "any") | ((with_reducible apply ee_allN) <;> walk_at "any") | ((with_reducible apply ee_lstN) <;> walk_at "any") | walk_at "call"
    | (with_reducible apply g_call2); first | ((with_reducible apply ee_isInt) <;> walk_at "any") | ((with_reducible apply ee_isBool) <;> walk_at "any") | ((with_reducible apply ee_isTup) <;> walk_at "any") | ((with_reducible apply ee_isStr) <;> walk_at "any") | ((with_reducible apply ee_minN) <;> walk_at "any") | ((with_reducible apply ee_maxN) <;> walk_at "any") | walk_at "call"
    | walk_at "call"
  | ((with_reducible apply ee_bin) <;> walk_at "any")
  | (with_reducible apply g_cmp); first | ((with_reducible apply ee_cmp) <;> walk_at "any") | ((with_reducible apply ee_chain) <;> walk_at "any")
  | (with_reducible apply g_sub); first | ((with_reducible apply ee_slL) <;> walk_at "any") | ((with_reducible apply ee_cell) <;> walk_at "any") | ((with_reducible apply ee_ixT) <;> walk_at "any") | ((with_reducible apply ee_ixL) <;> walk_at "any")
  | (with_reducible apply g_un); first | ((with_reducible apply ee_not); walk_at "go") | (with_reducible exact ee_neg)
  | (with_reducible apply g_bool); first | ((with_reducible apply ee_and) <;> walk_at "any") | ((with_reducible apply ee_or) <;> walk_at "any") | ((with_reducible apply ee_and1) <;> walk_at "any")
  | (with_reducible apply g_if); first | ((with_reducible apply ee_ifI) <;> walk_at "any") | ((with_reducible apply ee_if) <;> walk_at "any")
  | (with_reducible apply g_lst); first | ((with_reducible apply ee_lst0) <;> walk_at "any") | ((with_reducible apply ee_lst1) <;> walk_at "any") | ((with_reducible apply ee_lst2) <;> walk_at "any") | ((with_reducible apply ee_lst3) <;> walk_at "any") | ((with_reducible apply ee_lst4) <;> walk_at "any")
  | (with_reducible apply g_tup); first | ((with_reducible apply ee_tup0) <;> walk_at "any") | ((with_reducible apply ee_tup1) <;> walk_at "any") | ((with_reducible apply ee_tup2) <;> walk_at "any") | ((with_reducible apply ee_tup3) <;> walk_at "any") | ((with_reducible apply ee_tup4) <;> walk_at "any"))
local macro_rules | `(tactic| walk_at "loc") => `(tactic| first | exact .inl (by rfl) | exact .inr (by rfl))
local macro_rules | `(tactic| walk_at "locf") => `(tactic| first | exact .inr (by rfl) | exact .inl (by rfl))
local macro_rules | `(tactic| walk_at "iv") => `(tactic| first
  | ((with_reducible apply iv_tup); walk_at "go") | ((with_reducible apply iv_list); walk_at "go")
  | ((with_reducible apply iv_range) <;> walk_at "any") | ((with_reducible apply iv_range2) <;> walk_at "any")
  | ((with_reducible apply iv_enumL) <;> walk_at "any") | ((with_reducible apply iv_enumT) <;> walk_at "any") | ((with_reducible apply iv_enumT1) <;> walk_at "any")
  | ((with_reducible apply iv_zipL) <;> walk_at "any") | ((with_reducible apply iv_zipT) <;> walk_at "any"))
local macro_rules | `(tactic| walk_at "fm") => `(tactic| ((try rw [filter_tt]); first | rfl | (rw [List.map_map]; done) | (rw [List.map_map]; rfl) | (simp only [lI, tI, List.map_map]; done) | (simp only [lI, tI, List.map_map]; rfl)))
local macro_rules | `(tactic| walk_at "call") => `(tactic| (with_reducible apply ee_all_halves) <;> walk_at "any")
local macro_rules | `(tactic| walk_at "call") => `(tactic| (with_reducible apply ee__law_is_int) <;> walk_at "any")
local macro_rules | `(tactic| walk_at "call") => `(tactic| (with_reducible apply ee__law_weight) <;> walk_at "any")
local macro_rules | `(tactic| walk_at "call") => `(tactic| (with_reducible apply ee__law_does_weigh) <;> walk_at "any")
local macro_rules | `(tactic| walk_at "call") => `(tactic| (with_reducible apply ee__law_are_halves) <;> walk_at "any")
local macro_rules | `(tactic| walk_at "call") => `(tactic| ((with_reducible apply ee_sortedP) <;> walk_at "any"))
local macro_rules | `(tactic| walk_at "call") => `(tactic| (with_reducible apply ee_by_names) <;> walk_at "any")
local macro_rules | `(tactic| walk_at "call") => `(tactic| (with_reducible apply ee_need_weighing) <;> walk_at "any")
local macro_rules | `(tactic| walk_at "call") => `(tactic| (with_reducible apply ee_rounded) <;> walk_at "any")
local macro_rules | `(tactic| walk_at "call") => `(tactic| (with_reducible apply ee_light_setting) <;> walk_at "any")
local macro_rules | `(tactic| walk_at "call") => `(tactic| (with_reducible apply ee_tidy_by) <;> walk_at "any")
local macro_rules | `(tactic| walk_at "call") => `(tactic| (with_reducible apply ee_halves_paper) <;> walk_at "any")
local macro_rules | `(tactic| walk_at "call") => `(tactic| (with_reducible apply ee_check_halves) <;> walk_at "any")
local macro_rules | `(tactic| walk_at "call") => `(tactic| (with_reducible apply ee_weighed_in) <;> walk_at "any")
local macro_rules | `(tactic| walk_at "call") => `(tactic| (with_reducible apply ee_need_bundle) <;> walk_at "any")
local macro_rules | `(tactic| walk_at "call") => `(tactic| (with_reducible apply ee_are_halves) <;> walk_at "any")
local macro_rules | `(tactic| walk_at "call") => `(tactic| (with_reducible apply ee_need_form) <;> walk_at "any")
local macro_rules | `(tactic| walk_at "call") => `(tactic| (with_reducible apply ee_greatest_of) <;> walk_at "any")
local macro_rules | `(tactic| walk_at "call") => `(tactic| (with_reducible apply ee_first_table) <;> walk_at "any")

local macro_rules | `(tactic| walk_at "call") => `(tactic| (with_reducible apply ee_turned_table) <;> walk_at "any")
local macro_rules | `(tactic| walk_at "call") => `(tactic| (with_reducible apply ee_do_clash) <;> walk_at "any")
local macro_rules | `(tactic| walk_at "call") => `(tactic| (with_reducible apply ee_is_row) <;> walk_at "any")
local macro_rules | `(tactic| walk_at "call") => `(tactic| (with_reducible apply ee_are_halves_of) <;> walk_at "any")
local macro_rules | `(tactic| walk_at "call") => `(tactic| (with_reducible apply ee_rounded_row) <;> walk_at "any")
local macro_rules | `(tactic| walk_at "call") => `(tactic| (with_reducible apply ee_rounded_rowL) <;> walk_at "any")
local macro_rules | `(tactic| walk_at "call") => `(tactic| (with_reducible apply ee_sign_in) <;> walk_at "any")
local macro_rules | `(tactic| walk_at "call") => `(tactic| (with_reducible apply ee_heft_at) <;> walk_at "any")
local macro_rules | `(tactic| walk_at "call") => `(tactic| (with_reducible apply ee_are_rising) <;> walk_at "any")
local macro_rules | `(tactic| walk_at "call") => `(tactic| (with_reducible apply ee_is_literal) <;> walk_at "any")
local macro_rules | `(tactic| walk_at "call") => `(tactic| (with_reducible apply ee_is_clause) <;> walk_at "any")
local macro_rules | `(tactic| walk_at "call") => `(tactic| (with_reducible apply ee_weight_of) <;> walk_at "any")
local macro_rules | `(tactic| walk_at "call") => `(tactic| (with_reducible apply ee_does_weigh) <;> walk_at "any")
local macro_rules | `(tactic| walk_at "call") => `(tactic| (with_reducible apply ee_is_integer) <;> walk_at "any")
local macro_rules | `(tactic| walk_at "call") => `(tactic| (with_reducible apply ee_is_between) <;> walk_at "any")
theorem rowsN_le {m j n : Nat} (h : j ≤ n) (hm : 0 < m) : (rowsN m j).length ≤ (rowsN m n).length := by
  rw [rowsN_len, rowsN_len]
  exact Nat.pow_le_pow_right hm h
def rowsTo (m j k : Nat) : List (List Int) := ((rowsN m j).take k).flatMap fun r => (List.range m).map fun x : Nat => r ++ [(x : Int)]
theorem rowsTo_succ {m j k : Nat} (h : k < (rowsN m j).length) : rowsTo m j (k + 1) = rowsTo m j k ++ (List.range m).map fun x : Nat => (rowsN m j).getD k [] ++ [(x : Int)] := by
  unfold rowsTo
  rw [take_one (d := []) h, List.flatMap_append]
  congr 1
  rw [List.flatMap_cons, List.flatMap_nil, List.append_nil]
theorem rowsTo_le {m j k : Nat} : (rowsTo m j k).length ≤ (rowsN m (j + 1)).length := flat_le k
theorem sc55 : FnScope ["names", "most", "rows", "name", "longer", "row", "one"] ["names", "most"] (defScope (top 55)) := ⟨rfl, rfl, rfl, by decide +kernel, rfl, by decide +kernel, by decide +kernel⟩
local macro_rules | `(tactic| walk_at "var") => `(tactic| first | ((with_reducible apply ee_varQ (x := "names") (i := 0)) <;> walk_at "vs") | ((with_reducible apply ee_varQ (x := "most") (i := 1)) <;> walk_at "vs") | ((with_reducible apply ee_varQ (x := "rows") (i := 2)) <;> walk_at "vs") | ((with_reducible apply ee_varQ (x := "name") (i := 3)) <;> walk_at "vs") | ((with_reducible apply ee_varQ (x := "longer") (i := 4)) <;> walk_at "vs") | ((with_reducible apply ee_varQ (x := "row") (i := 5)) <;> walk_at "vs") | ((with_reducible apply ee_varQ (x := "one") (i := 6)) <;> walk_at "vs"))
local macro_rules | `(tactic| walk_at "nd") => `(tactic| exact sc55.nd)
theorem ok__law_rows (T : Txt K mg) : FnD P w K mg base 1 "_law_rows" ["names", "most"] (pureD fun xs r => ∃ n m : Nat, xs = [.d (nI n), .d (nI m)] ∧ n ≤ 100 ∧ m ≤ 100 ∧ (rowsN (m + 1) n).length ≤ 50000 ∧ r = .list ((rowsN (m + 1) n).map tI)) := by
  refine fnd T 39 rfl rfl sc55 (fun _ _ _ _ _ _ us hl => match us, hl with | [_, _], _ => rfl) (fun xs M Φ h => ?_) (fun a cdv A outer s H E xs M Φ hr h => ?_)
  · obtain ⟨r, ⟨n, m, rfl, _, _, _, rfl⟩, q⟩ := h
    rfl
  · obtain ⟨r, ⟨n, m, rfl, hn, hm, hl, rfl⟩, q⟩ := h
    refine ws_cons (w1_setE (i := 2) (d := .list ((rowsN (m + 1) 0).map tI)) ?_ ?_ (by walk_at "nd") (by rfl) (by walk_at "loc") (by walk_at "locf") (by rfl))
    · exact ee_lst1 (ee_tup0) (by rfl)
    refine ws_cons (w1_forN (i := 3) (fun j δ' M' => M' = M ∧ ∃ u v y, δ' = [some (.d (nI n)), some (.d (nI m)), some (.d (.list ((rowsN (m + 1) j).map tI))), u, v, y, none]) (ds := rangeD 0 n) (iv_range (n := n) (by rfl) (by walk_at "mg") (by rfl) ?_ (by omega)) ⟨rfl, none, none, none, rfl⟩ ?_ ?_ (by walk_at "nd") (by rfl) (by walk_at "loc") (by walk_at "locf") PassesOwn.never (by rfl) (fun _ => by rfl))
    · walk_at "any"
    · rintro j d δ' M' hd ⟨rfl, u, v, y, rfl⟩
      obtain ⟨hj, rfl⟩ := range_at hd
      have hle : (rowsN (m + 1) (j + 1)).length ≤ 50000 := Nat.le_trans (rowsN_le (by omega) (by omega)) hl
      refine ws_cons (w1_setV (i := 4) (ev_lstM (ds := []) ea_nil (by decide) fun f hf => ?_) (by walk_at "nd") (by rfl) (by walk_at "loc") (by walk_at "locf") (by rfl))
      refine ws_cons (w1_forN (i := 5) (fun k δ2 M2 => M2 = mup M' f (.lst ((rowsTo (m + 1) j k).map tI)) ∧ ∃ y, δ2 = [some (.d (nI n)), some (.d (nI m)), some (.d (.list ((rowsN (m + 1) j).map tI))), some (.d (.int (0 + (j : Int)))), some (.m f), y, none]) (ds := (rowsN (m + 1) j).map tI) ?_ ⟨rfl, y, rfl⟩ ?_ ?_ (by walk_at "nd") (by rfl) (by walk_at "loc") (by walk_at "locf") PassesOwn.never (by rfl) (fun _ => by rfl))
      · walk_at "iv"
      · rintro k d δ2 M2 hd2 ⟨rfl, y, rfl⟩
        have hk : k < (rowsN (m + 1) j).length := by
          have := (List.getElem?_eq_some_iff.mp hd2).1
          rwa [List.length_map] at this
        have hd' : d = tI ((rowsN (m + 1) j).getD k []) := by
          rw [List.getElem?_map, List.getElem?_eq_getElem hk] at hd2
          rw [List.getD_eq_getElem?_getD, List.getElem?_eq_getElem hk]
          exact (Option.some.inj hd2).symm
        subst hd'
        have hr1 : ((rowsN (m + 1) j).getD k []).length = j := (rowsN_at (m := m + 1) (k := j) (by
          rw [List.getD_eq_getElem?_getD, List.getElem?_eq_getElem hk]
          exact List.getElem_mem _)).1
        have hs := rowsTo_succ hk
        generalize (rowsN (m + 1) j).getD k [] = r0 at hr1 hs
        refine ws_cons (w1_ext (i := 4) (a := f) (by rfl) (by walk_at "vis") (by rfl) mup_same (by rfl) (by rfl) (by rfl) (by rfl) (by rfl) (by rfl) (EE.ev (d := .list ((List.range (m + 1)).map fun x : Nat => tI (r0 ++ [(x : Int)]))) (EE.to (LC1.ee (own := [("one", 6)]) (i := 6) (xs := List.range (m + 1)) (g := nI) (f := fun x : Nat => tI (r0 ++ [(x : Int)])) (p := fun _ => true) ?_) ?_) ⟨_, _, rfl, mup_same, ?_, ws_nil ⟨?_, some (.d (tI r0)), rfl⟩⟩))
        · refine ⟨?_, fun s0 H0 C0 cl0 fp0 z0 hz0 => ?_, fun s0 H0 C0 cl0 fp0 z0 hz0 hp0 => ?_, ?_, fun _ => by rfl, blkOk_by (by rfl), fun _ _ _ _ _ => by walk_at "loc", fun _ _ _ _ _ => by walk_at "locf", by rfl, by decide, by walk_at "nd", by rfl⟩
          · apply IV.to
            · refine iv_range (n := m + 1) (by rfl) (by walk_at "mg") (by rfl) ?_ (by omega)
              apply EE.to
              walk_at "any"
              rw [Int.natCast_add]; rfl
            · exact range0
          · exact eif_nil
          · refine EE.to (ee_bin (d1 := tI r0) (d2 := .tuple [nI z0]) ?_ ?_ (bv_catT ?_)) ?_
            · walk_at "any"
            · walk_at "any"
            · rw [List.length_map, hr1]; show j + 1 ≤ 100000; omega
            · simp only [tI, List.map_append]; rfl
          · rw [List.length_range]; omega
        · rw [filter_tt]
        · rw [List.length_map, List.length_map, List.length_range]
          have := rowsTo_le (m := m + 1) (j := j) (k := k)
          omega
        · rw [mup_mup, hs, List.map_append, List.map_map]; rfl
      · rintro δ2 M2 ⟨rfl, y, rfl⟩
        have e : rowsTo (m + 1) j ((rowsN (m + 1) j).map tI).length = rowsN (m + 1) (j + 1) := by
          unfold rowsTo
          rw [List.length_map, List.take_of_length_le (Nat.le_refl _)]; rfl
        rw [e]
        refine ws_cons (w1_setV (i := 2) (ev_lstM' (i := 4) (a := f) (by rfl) (by walk_at "mg") (by rfl) (by walk_at "vis") (by rfl) mup_same (by rfl) ?_ (by decide) (by decide)) (by walk_at "nd") (by rfl) (by walk_at "loc") (by walk_at "locf") (by rfl))
        refine ws_freeze 4 rfl mup_same ?_
        rw [mdel_mup hf]
        exact ws_nil ⟨rfl, _, _, _, rfl⟩
    · rintro δ' M' ⟨rfl, u, v, y, rfl⟩
      rw [range_len]
      refine ws_cons (w1_retE ?_ q)
      walk_at "any"
theorem ee__law_rows {X : Cx} {δ : En} {pos p : Pos} {e e2 : Expr} {k' : Nat} {n m : Nat} (h_e : EE X e δ (nI n)) (h_e2 : EE X e2 δ (nI m)) (s0 : n ≤ 100) (s1 : m ≤ 100) (s2 : (rowsN (m + 1) n).length ≤ 50000) (T : Txt X.K X.mg) (hr : Room k' X.A) (hk : 1 ≤ k') (hg : Gl X "_law_rows") (q0 : starEach (e :: [e2]) X.env = (false, eval e X.env) :: starEach [e2] X.env) (q1 : starEach (e2 :: []) X.env = (false, eval e2 X.env) :: starEach [] X.env) (hpl : (backTo pos (starEach [e2] X.env)).any (·.1) = false) : EE X (.Call (.Name "_law_rows" p) [e, e2] [] pos) δ (.list ((rowsN (m + 1) n).map tI)) :=
  ee_callK (ok__law_rows T) (ea_cons q0 h_e (ea_cons q1 h_e2 ea_nil)) (⟨n, m, rfl, s0, s1, s2, rfl⟩) hr hk hg q0 hpl (by decide)
local macro_rules | `(tactic| walk_at "call") => `(tactic| (with_reducible apply ee__law_rows) <;> walk_at "any")
theorem sc56 : FnScope ["bundle", "thing", "taken", "name", "up", "one", "heft", "clause"] ["bundle", "thing"] (defScope (top 56)) := ⟨rfl, rfl, rfl, by decide +kernel, rfl, by decide +kernel, by decide +kernel⟩
local macro_rules | `(tactic| walk_at "var") => `(tactic| first | ((with_reducible apply ee_varQ (x := "bundle") (i := 0)) <;> walk_at "vs") | ((with_reducible apply ee_varQ (x := "thing") (i := 1)) <;> walk_at "vs") | ((with_reducible apply ee_varQ (x := "taken") (i := 2)) <;> walk_at "vs") | ((with_reducible apply ee_varQ (x := "name") (i := 3)) <;> walk_at "vs") | ((with_reducible apply ee_varQ (x := "up") (i := 4)) <;> walk_at "vs") | ((with_reducible apply ee_varQ (x := "one") (i := 5)) <;> walk_at "vs") | ((with_reducible apply ee_varQ (x := "heft") (i := 6)) <;> walk_at "vs") | ((with_reducible apply ee_varQ (x := "clause") (i := 7)) <;> walk_at "vs"))
local macro_rules | `(tactic| walk_at "nd") => `(tactic| exact sc56.nd)
theorem ok__law_do_clash (T : Txt K mg) : FnD P w K mg base 2 "_law_do_clash" ["bundle", "thing"] (pureD fun xs r => ∃ (n : Nat) (cs : List (List Int)) (hs : List Int), xs = [.d (bun n cs), .d (tI hs)] ∧ CsOk n cs ∧ hs.length = cs.length ∧ (∀ h ∈ hs, 0 ≤ h ∧ h ≤ 10 ^ (60 : Int).toNat) ∧ r = .bool (IC.clashes n cs hs)) := by
  refine fnd T 40 rfl rfl sc56 (fun _ _ _ _ _ _ us hl => match us, hl with | [_, _], _ => rfl) (fun xs M Φ h => ?_) (fun a cdv A outer s H E xs M Φ hr h => ?_)
  · obtain ⟨r, ⟨n, cs, hs, rfl, _, _, _, rfl⟩, q⟩ := h
    rfl
  · obtain ⟨r, ⟨n, cs, hs, rfl, hb, hl, hp, rfl⟩, q⟩ := h
    have h7 := hb.le
    have h16 := hb.len
    refine ws_cons (w1_ifE (p := false) (EB.to (EW.eb (ew_or (p := false) (r := false) (EB.to (b := !isTup (tI hs)) ?_ rfl) (fun _ => ew_or1 (EB.to (b := !decide (((hs.map PyData.int).length : Int) = ((cs.map tI).length : Int))) ?_ ?_)))) rfl) (fun h => nomatch h) (fun _ => ws_nil ?_))
    · walk_at "gb"
    · refine eb_cmp (by rfl) (ee_lenT (ds := hs.map PyData.int) ?_ (by rfl) (by walk_at "mg") (by rfl)) (ee_lenT (ds := cs.map tI) (ee_ixT (ds := [.int (n : Int), .tuple (cs.map tI)]) (i := 1) ?_ ee_int rfl (by intro _ _; rfl)) (by rfl) (by walk_at "mg") (by rfl)) bv_neI
      · walk_at "any"
      · walk_at "any"
    · rw [List.length_map, List.length_map, hl]; simp
    have hno : (hs.filter fun x => !betw (.int x) 0 (10 ^ (60 : Int).toNat)).isEmpty = true := by
      rw [no_bad]
      exact List.all_eq_true.mpr fun x hx => IC.between_iff.mpr (hp x hx)
    refine ws_cons (w1_ifE (p := false) (EB.to (b := !(hs.filter fun x => !betw (.int x) 0 (10 ^ (60 : Int).toNat)).isEmpty) (eb_cmp (by rfl) (d1 := .list ((hs.filter fun x => !betw (.int x) 0 (10 ^ (60 : Int).toNat)).map fun _ => PyData.int 1)) (LC1.ee (own := [("one", 5)]) (i := 5) (xs := hs) (g := PyData.int) (f := fun _ => .int 1) (p := fun x => !betw (.int x) 0 (10 ^ (60 : Int).toNat)) ?_) ee_lst0 (bv_neNil (f := fun _ => PyData.int 1) hr.units (k := 0) (fun _ _ => dep_int) (by decide))) (by rw [hno]; rfl)) (fun h => nomatch h) (fun _ => ws_nil ?_))
    · refine ⟨?_, fun s0 H0 C0 cl0 fp0 z0 hz0 => ?_, fun s0 H0 C0 cl0 fp0 z0 hz0 hp0 => ?_, ?_, fun _ => by rfl, blkOk_by (by rfl), fun _ _ _ _ _ => by walk_at "loc", fun _ _ _ _ _ => by walk_at "locf", by rfl, by decide, by walk_at "nd", by rfl⟩
      · walk_at "iv"
      · refine eif_one ?_
        walk_at "gb"
        exact ⟨by decide, by decide, by decide⟩
      · walk_at "any"
      · omega
    refine ws_cons (w1_setE (i := 2) ee_int ?_ (by walk_at "nd") (by rfl) (by walk_at "loc") (by walk_at "locf") (by rfl))
    refine ws_cons (w1_forN (i := 3) (fun j δ' M' => M' = M ∧ ∃ u v, δ' = [some (.d (bun n cs)), some (.d (tI hs)), some (.d (.int (takenTo cs hs j))), u, v, none, none, none]) (iv_range2 (lo := 1) (n := n) (by rfl) (by walk_at "mg") (by rfl) (by rfl) ee_int ?_ (by decide) (by omega)) ⟨rfl, none, none, rfl⟩ ?_ ?_ (by walk_at "nd") (by rfl) (by walk_at "loc") (by walk_at "locf") PassesOwn.never (by rfl) (fun _ => by rfl))
    · apply EE.to
      walk_at "any"
      rw [Int.add_comm]
    · rintro j d δ' M' hd ⟨rfl, u, v, rfl⟩
      obtain ⟨hj, rfl⟩ := range_at hd
      refine ws_cons (w1_setE (i := 4) (d := .int (IC.heftAt hs cs (1 + (j : Int)))) (ee_sumN (ns := ((hs.zip cs).filter fun p => decide (1 + (j : Int) ∈ p.2)).map fun p => p.1) (EE.to (LC2.ee (own := [("heft", 6), ("clause", 7)]) (i := 6) (j := 7) (xs := hs.zip cs) (g := fun z => .int z.1) (g2 := fun z => tI z.2) (f := fun z => .int z.1) (p := fun z => decide (1 + (j : Int) ∈ z.2)) ?_) ?_) (by rfl) (by rfl) (by walk_at "mg") (by rfl)) ?_ (by walk_at "nd") (by rfl) (by walk_at "loc") (by walk_at "locf") (by rfl))
      · refine ⟨?_, fun s1 H1 C1 cl1 fp1 z1 hz1 => ?_, fun s1 H1 C1 cl1 fp1 z1 hz1 hp1 => ?_, ?_, fun _ => by rfl, blkOk_by (by rfl), fun _ _ _ _ _ => by walk_at "loc", fun _ _ _ _ _ => by walk_at "locf", fun _ _ _ _ _ => by walk_at "loc", fun _ _ _ _ _ => by walk_at "locf", by rfl, by rfl, by decide, by decide, by walk_at "nd", by rfl⟩
        · apply IV.to
          walk_at "iv"
          exact zip_map2
        · refine eif_one ?_
          walk_at "gb"
        · walk_at "any"
        · rw [List.length_zip]; exact Nat.le_trans (Nat.min_le_right _ _) hb.few
      · show _ = PyData.list (List.map PyData.int _)
        rw [List.map_map]; rfl
      refine ws_cons (w1_setE (i := 2) (d := .int (takenTo cs hs (j + 1))) (EE.to (ee_bin (d1 := .int (takenTo cs hs j)) ?_ (ee_minN (i := IC.heftAt hs cs (1 + (j : Int))) (j := IC.heftAt hs cs (0 - (1 + (j : Int)))) ?_ (ee_sumN (ns := ((hs.zip cs).filter fun p => decide (0 - (1 + (j : Int)) ∈ p.2)).map fun p => p.1) (EE.to (LC2.ee (own := [("heft", 6), ("clause", 7)]) (i := 6) (j := 7) (xs := hs.zip cs) (g := fun z => .int z.1) (g2 := fun z => tI z.2) (f := fun z => .int z.1) (p := fun z => decide (0 - (1 + (j : Int)) ∈ z.2)) ?_) ?_) (by rfl) (by rfl) (by walk_at "mg") (by rfl)) (by rfl) (by rfl) (by walk_at "mg") (by rfl) (by rfl) (by rfl)) bv_add) ?_) (ws_nil ⟨rfl, _, some (.d (.int (IC.heftAt hs cs (1 + (j : Int))))), rfl⟩) (by walk_at "nd") (by rfl) (by walk_at "loc") (by walk_at "locf") (by rfl))
      · walk_at "any"
      · walk_at "any"
      · refine ⟨?_, fun s2 H2 C2 cl2 fp2 z2 hz2 => ?_, fun s2 H2 C2 cl2 fp2 z2 hz2 hp2 => ?_, ?_, fun _ => by rfl, blkOk_by (by rfl), fun _ _ _ _ _ => by walk_at "loc", fun _ _ _ _ _ => by walk_at "locf", fun _ _ _ _ _ => by walk_at "loc", fun _ _ _ _ _ => by walk_at "locf", by rfl, by rfl, by decide, by decide, by walk_at "nd", by rfl⟩
        · apply IV.to
          walk_at "iv"
          exact zip_map2
        · refine eif_one ?_
          walk_at "gb"
        · walk_at "any"
        · rw [List.length_zip]; exact Nat.le_trans (Nat.min_le_right _ _) hb.few
      · show _ = PyData.list (List.map PyData.int _)
        rw [List.map_map]; rfl
      · rw [takenTo_succ]; rfl
    · rintro δ' M' ⟨rfl, u, v, rfl⟩
      rw [range_len]
      refine ws_cons (w1_retE ?_ q)
      apply EE.to
      walk_at "any"
      rfl
theorem ee__law_do_clash {X : Cx} {δ : En} {pos p : Pos} {e e2 : Expr} {k' : Nat} {n : Nat} {cs : List (List Int)} {hs : List Int} (h_e : EE X e δ (bun n cs)) (h_e2 : EE X e2 δ (tI hs)) (s0 : CsOk n cs) (s1 : hs.length = cs.length) (s2 : ∀ h ∈ hs, 0 ≤ h ∧ h ≤ 10 ^ (60 : Int).toNat) (T : Txt X.K X.mg) (hr : Room k' X.A) (hk : 2 ≤ k') (hg : Gl X "_law_do_clash") (q0 : starEach (e :: [e2]) X.env = (false, eval e X.env) :: starEach [e2] X.env) (q1 : starEach (e2 :: []) X.env = (false, eval e2 X.env) :: starEach [] X.env) (hpl : (backTo pos (starEach [e2] X.env)).any (·.1) = false) : EE X (.Call (.Name "_law_do_clash" p) [e, e2] [] pos) δ (.bool (IC.clashes n cs hs)) :=
  ee_callK (ok__law_do_clash T) (ea_cons q0 h_e (ea_cons q1 h_e2 ea_nil)) (⟨n, cs, hs, rfl, s0, s1, s2, rfl⟩) hr hk hg q0 hpl (by decide)
local macro_rules | `(tactic| walk_at "call") => `(tactic| (with_reducible apply ee__law_do_clash) <;> walk_at "any")
theorem big_60 : (IC.bigZ : Int) ≤ 10 ^ (60 : Int).toNat := by decide +kernel
theorem sc57 : FnScope ["bundle", "sheet"] ["bundle", "sheet"] (defScope (top 57)) := ⟨rfl, rfl, rfl, by decide +kernel, rfl, by decide +kernel, by decide +kernel⟩
local macro_rules | `(tactic| walk_at "var") => `(tactic| first | ((with_reducible apply ee_varQ (x := "bundle") (i := 0)) <;> walk_at "vs") | ((with_reducible apply ee_varQ (x := "sheet") (i := 1)) <;> walk_at "vs"))
local macro_rules | `(tactic| walk_at "nd") => `(tactic| exact sc57.nd)
theorem ok__law_due (T : Txt K mg) : FnD P w K mg base 4 "_law_due" ["bundle", "sheet"] (pureD fun xs r => ∃ (n : Nat) (cs : List (List Int)), xs = [.d (bun n cs), .d (paperW n cs)] ∧ CsOk n cs ∧ r = .list [wordW n cs]) := by
  refine fnd T 41 rfl rfl sc57 (fun _ _ _ _ _ _ us hl => match us, hl with | [_, _], _ => rfl) (fun xs M Φ h => ?_) (fun a cdv A outer s H E xs M Φ hr h => ?_)
  · obtain ⟨r, ⟨n, cs, rfl, _, rfl⟩, q⟩ := h
    rfl
  · obtain ⟨r, ⟨n, cs, rfl, hb, rfl⟩, q⟩ := h
    by_cases hg : goodW n cs
    · rw [paperW_yes hg]
      rw [wordW_yes hg] at q
      have hh := IC.halves_of hb.pos hb.ok hg
      have hl : (IC.rowW n cs).length = n := of_decide_eq_true (Bool.and_eq_true_iff.mp (Bool.and_eq_true_iff.mp hh).1).1
      refine ws_cons (w1_ifE (p := false) (EB.to (EW.eb (ew_or (p := false) (r := false) (EB.to (b := !isTup (.tuple [.str "halves", tI (IC.rowW n cs)])) ?_ rfl) (fun _ => ew_or (p := false) (r := false) (EB.to (b := !decide (((([PyData.str "halves", tI (IC.rowW n cs)] : List PyData).length : Nat) : Int) = 2)) ?_ ?_) (fun _ => ew_or1 (EB.to (b := !isStr (.str "halves")) (eb_not (eb_val (fun _ => rfl) (ee_isStr (ee_ixT (ds := [.str "halves", tI (IC.rowW n cs)]) (i := 0) ?_ ee_int rfl (by intro _ _; rfl)) rfl (by walk_at "mg") (by walk_at "mg") (by rfl) (by rfl) (by rfl)))) rfl))))) rfl) (fun h => nomatch h) (fun _ => ws_nil ?_))
      · walk_at "gb"
      · walk_at "gb"
      · rfl
      · walk_at "any"
      refine ws_cons (w1_ifE (p := true) (EB.to (b := decide (("halves" : Str) = "halves")) (eb_cmp (by rfl) (d1 := .str "halves") (d2 := .str "halves") (ee_ixT (ds := [.str "halves", tI (IC.rowW n cs)]) (i := 0) ?_ ee_int rfl (by intro _ _; rfl)) ee_str bv_eqS) (decide_eq_true rfl)) (fun _ => ?_) (fun h => nomatch h))
      · walk_at "any"
      refine ws_cons (w1_retE (EE.to (ee_if (p := true) (d1 := .list [.str "halves"]) (d2 := .none) (EB.to (b := IC.areHalves n cs (IC.rowW n cs)) (eb_val (fun _ => rfl) (ee__law_are_halves (n := n) (cs := cs) (row := IC.rowW n cs) ?_ (ee_ixT (ds := [.str "halves", tI (IC.rowW n cs)]) (i := 1) ?_ ee_int rfl (by intro _ _; rfl)) hb hl (by assumption) (by assumption) (by decide) (by rfl) (by rfl) (by rfl) (by rfl))) hh) (fun _ => ?_) (fun h => nomatch h)) rfl) q)
      · walk_at "any"
      · walk_at "any"
      · walk_at "any"
    · rw [paperW_no hg]
      rw [wordW_no hg] at q
      have hh := IC.clash_of hb.pos hb.le hb.len hb.ok hg
      obtain ⟨k1, k2⟩ := IC.hefts_ok hb.pos hb.le hb.len hb.ok
      have k3 : ∀ h ∈ IC.heftsW n cs, 0 ≤ h ∧ h ≤ 10 ^ (60 : Int).toNat := fun x hx => by
        obtain ⟨a1, a2⟩ := k2 x hx
        have := big_60
        exact ⟨a1, by omega⟩
      refine ws_cons (w1_ifE (p := false) (EB.to (EW.eb (ew_or (p := false) (r := false) (EB.to (b := !isTup (.tuple [.str "clash", tI (IC.heftsW n cs)])) ?_ rfl) (fun _ => ew_or (p := false) (r := false) (EB.to (b := !decide (((([PyData.str "clash", tI (IC.heftsW n cs)] : List PyData).length : Nat) : Int) = 2)) ?_ ?_) (fun _ => ew_or1 (EB.to (b := !isStr (.str "clash")) (eb_not (eb_val (fun _ => rfl) (ee_isStr (ee_ixT (ds := [.str "clash", tI (IC.heftsW n cs)]) (i := 0) ?_ ee_int rfl (by intro _ _; rfl)) rfl (by walk_at "mg") (by walk_at "mg") (by rfl) (by rfl) (by rfl)))) rfl))))) rfl) (fun h => nomatch h) (fun _ => ws_nil ?_))
      · walk_at "gb"
      · walk_at "gb"
      · rfl
      · walk_at "any"
      refine ws_cons (w1_ifE (p := false) (EB.to (b := decide (("clash" : Str) = "halves")) (eb_cmp (by rfl) (d1 := .str "clash") (d2 := .str "halves") (ee_ixT (ds := [.str "clash", tI (IC.heftsW n cs)]) (i := 0) ?_ ee_int rfl (by intro _ _; rfl)) ee_str bv_eqS) (by decide +kernel)) (fun h => nomatch h) (fun _ => ws_nil ?_))
      · walk_at "any"
      refine ws_cons (w1_ifE (p := false) (EB.to (b := !decide (("clash" : Str) = "clash")) (eb_cmp (by rfl) (d1 := .str "clash") (d2 := .str "clash") (ee_ixT (ds := [.str "clash", tI (IC.heftsW n cs)]) (i := 0) ?_ ee_int rfl (by intro _ _; rfl)) ee_str bv_neS) (by decide +kernel)) (fun h => nomatch h) (fun _ => ws_nil ?_))
      · walk_at "any"
      refine ws_cons (w1_retE (EE.to (ee_if (p := true) (d1 := .list [.str "clash"]) (d2 := .none) (EB.to (b := IC.clashes n cs (IC.heftsW n cs)) (eb_val (fun _ => rfl) (ee__law_do_clash (n := n) (cs := cs) (hs := IC.heftsW n cs) ?_ (ee_ixT (ds := [.str "clash", tI (IC.heftsW n cs)]) (i := 1) ?_ ee_int rfl (by intro _ _; rfl)) hb k1 k3 (by assumption) (by assumption) (by decide) (by rfl) (by rfl) (by rfl) (by rfl))) hh) (fun _ => ?_) (fun h => nomatch h)) rfl) q)
      · walk_at "any"
      · walk_at "any"
      · walk_at "any"
theorem ee__law_due {X : Cx} {δ : En} {pos p : Pos} {e e2 : Expr} {k' : Nat} {n : Nat} {cs : List (List Int)} (h_e : EE X e δ (bun n cs)) (h_e2 : EE X e2 δ (paperW n cs)) (s0 : CsOk n cs) (T : Txt X.K X.mg) (hr : Room k' X.A) (hk : 4 ≤ k') (hg : Gl X "_law_due") (q0 : starEach (e :: [e2]) X.env = (false, eval e X.env) :: starEach [e2] X.env) (q1 : starEach (e2 :: []) X.env = (false, eval e2 X.env) :: starEach [] X.env) (hpl : (backTo pos (starEach [e2] X.env)).any (·.1) = false) : EE X (.Call (.Name "_law_due" p) [e, e2] [] pos) δ (.list [wordW n cs]) :=
  ee_callK (ok__law_due T) (ea_cons q0 h_e (ea_cons q1 h_e2 ea_nil)) (⟨n, cs, rfl, s0, rfl⟩) hr hk hg q0 hpl (by decide)
local macro_rules | `(tactic| walk_at "call") => `(tactic| (with_reducible apply ee__law_due) <;> walk_at "any")
theorem sc58 : FnScope ["row", "name", "weight"] ["row"] (defScope (top 58)) := ⟨rfl, rfl, rfl, by decide +kernel, rfl, by decide +kernel, by decide +kernel⟩
local macro_rules | `(tactic| walk_at "var") => `(tactic| first | ((with_reducible apply ee_varQ (x := "row") (i := 0)) <;> walk_at "vs") | ((with_reducible apply ee_varQ (x := "name") (i := 1)) <;> walk_at "vs") | ((with_reducible apply ee_varQ (x := "weight") (i := 2)) <;> walk_at "vs"))
local macro_rules | `(tactic| walk_at "nd") => `(tactic| exact sc58.nd)
theorem ok__law_light (T : Txt K mg) : FnD P w K mg base 1 "_law_light" ["row"] (pureD fun xs r => ∃ row : List Int, xs = [.d (tI row)] ∧ row.length ≤ 100000 ∧ r = tI (lightOf row)) := by
  refine fnd T 42 rfl rfl sc58 (fun _ _ _ _ _ _ us hl => match us, hl with | [_], _ => rfl) (fun xs M Φ h => ?_) (fun a cdv A outer s H E xs M Φ hr h => ?_)
  · obtain ⟨r, ⟨row, rfl, _, rfl⟩, q⟩ := h
    rfl
  · obtain ⟨r, ⟨row, rfl, hl, rfl⟩, q⟩ := h
    refine ws_cons (w1_retE (EE.to (ee_tupN (LC2.ee (own := [("name", 1), ("weight", 2)]) (i := 1) (j := 2) (xs := row.zipIdx) (g := fun q => .int (1 + (q.2 : Int))) (g2 := fun q => .int q.1) (f := fun q => .int (if q.1 = 0 then 1 + (q.2 : Int) else 0 - (1 + (q.2 : Int)))) (p := fun q => !decide (q.1 = 1)) ?_) (by rfl) (by walk_at "mg") (by rfl)) ?_) q)
    · refine ⟨?_, fun s0 H0 C0 cl0 fp0 z0 hz0 => ?_, fun s0 H0 C0 cl0 fp0 z0 hz0 hp0 => ?_, ?_, fun _ => by rfl, blkOk_by (by rfl), fun _ _ _ _ _ => by walk_at "loc", fun _ _ _ _ _ => by walk_at "locf", fun _ _ _ _ _ => by walk_at "loc", fun _ _ _ _ _ => by walk_at "locf", by rfl, by rfl, by decide, by decide, by walk_at "nd", by rfl⟩
      · apply IV.to
        · refine iv_enumT1 (c := 1) (ds := row.map PyData.int) (by decide) (by decide) (by rfl) (by walk_at "mg") (by rfl) (by rfl) (by rfl) ?_
          walk_at "any"
        · exact zipIdx_pairs
      · refine eif_one ?_
        walk_at "gb"
      · refine EE.to (ee_ifI (p := decide (z0.1 = 0)) (i := 1 + (z0.2 : Int)) (j := 0 - (1 + (z0.2 : Int))) ?_ (fun _ => ?_) (fun _ => ?_)) ?_
        · walk_at "gb"
        · walk_at "any"
        · walk_at "any"
        · by_cases e : z0.1 = 0
          · rw [decide_eq_true e, if_pos rfl, if_pos e]
          · rw [decide_eq_false e, if_neg Bool.false_ne_true, if_neg e]
      · rw [List.length_zipIdx]; exact hl
    · show PyData.tuple _ = PyData.tuple ((lightOf row).map PyData.int)
      unfold lightOf
      rw [List.map_map]; rfl
theorem ee__law_light {X : Cx} {δ : En} {pos p : Pos} {e : Expr} {k' : Nat} {row : List Int} (h_e : EE X e δ (tI row)) (s0 : row.length ≤ 100000) (T : Txt X.K X.mg) (hr : Room k' X.A) (hk : 1 ≤ k') (hg : Gl X "_law_light") (q0 : starEach (e :: []) X.env = (false, eval e X.env) :: starEach [] X.env) (hpl : (backTo pos (starEach [] X.env)).any (·.1) = false) : EE X (.Call (.Name "_law_light" p) [e] [] pos) δ (tI (lightOf row)) :=
  ee_callK (ok__law_light T) (ea_cons q0 h_e ea_nil) (⟨row, rfl, s0, rfl⟩) hr hk hg q0 hpl (by decide)
local macro_rules | `(tactic| walk_at "call") => `(tactic| (with_reducible apply ee__law_light) <;> walk_at "any")
end
end KP
namespace KP
open PySem PySem.Spec PyProof.Rows L2 DL
section
variable {P : Program} {w : World} {K : PySem.W.Frag} {mg : Str → Option Value} {base : Heap}
/-! steps -/
local macro_rules | `(tactic| walk_at "vis") => `(tactic| first | exact vis_l (by rfl) | exact vis_c (by rfl) | exact vis_f (by rfl))
local macro_rules | `(tactic| walk_at "vs") => `(tactic| first | rfl | (walk_at "vis") | decide)
local macro_rules | `(tactic| walk_at "mg") => `(tactic| exact z_of (by assumption) (by decide +kernel))
local macro_rules | `(tactic| walk_at "var") => `(tactic| fail)
local macro_rules | `(tactic| walk_at "glo") => `(tactic| first | exact ee_names (by assumption) (by rfl) (by rfl) | exact ee_clauses (by assumption) (by rfl) (by rfl) | exact ee_halvesS (by assumption) (by rfl) (by rfl) | exact ee_clashS (by assumption) (by rfl) (by rfl))
local macro_rules | `(tactic| walk_at "side") => `(tactic| first | assumption | ((with_reducible apply atI_litG); rfl) | ((fail_if_success (with_reducible apply atI_litG)); skip))
local macro_rules | `(tactic| walk_at "call") => `(tactic| fail)
local macro_rules | `(tactic| walk_at "bv") => `(tactic| first
  | (with_reducible apply bv_gB); first
    | (with_reducible exact bv_add) | (with_reducible exact bv_sub) | (with_reducible apply bv_mulS; walk_at "side") | (with_reducible apply bv_divS; walk_at "side") | (with_reducible apply bv_mod; walk_at "side") | (with_reducible apply bv_powS; walk_at "side")
    | (with_reducible apply bv_cat <;> walk_at "side") | (with_reducible apply bv_rep1 <;> walk_at "side") | (with_reducible apply bv_rep <;> walk_at "side") | (with_reducible apply bv_catT <;> walk_at "side")
  | (with_reducible apply bv_gC); first
    | (with_reducible exact bv_lt) | (with_reducible exact bv_le) | (with_reducible exact bv_gt) | (with_reducible exact bv_ge) | (with_reducible exact bv_eqI) | (with_reducible exact bv_neI) | (with_reducible exact bv_eqS) | (with_reducible exact bv_neS) | (with_reducible exact bv_isNone) | (with_reducible exact bv_inT) | (with_reducible exact bv_notin2)
    | (with_reducible apply bv_eqD <;> walk_at "side") | (with_reducible apply bv_neD <;> walk_at "side") | (with_reducible apply bv_inD <;> walk_at "side"))
local macro_rules | `(tactic| walk_at "any") => `(tactic| first
  | (with_reducible apply ee_id); walk_at "go"
  | (with_reducible apply ea_id); first | (with_reducible exact ea_nil) | ((with_reducible apply ea_cons) <;> walk_at "any")
  | (with_reducible apply eb_id); walk_at "gb"
  | (with_reducible apply ew_id); walk_at "gw"
  | (with_reducible apply eo_id); first | (with_reducible exact eo_none) | (apply eo_some; walk_at "go")
  | (with_reducible apply bv_id); walk_at "bv"
  | (fail_if_success (with_reducible apply ee_id)); (fail_if_success (with_reducible apply ea_id)); (fail_if_success (with_reducible apply eb_id)); (fail_if_success (with_reducible apply ew_id)); (fail_if_success (with_reducible apply bv_id)); first
    | (intro _; walk_at "any")
    | rfl | (walk_at "mg") | decide | (intro _; rfl) | (intro _ _; rfl) | (walk_at "side"))
local macro_rules | `(tactic| walk_at "gb") => `(tactic| first
  | (with_reducible apply eb_not); walk_at "gb"
  | (with_reducible apply eb_cmp) <;> walk_at "any"
  | (with_reducible apply EW.eb); walk_at "gw"
  | (apply eb_val) <;> walk_at "any")
local macro_rules | `(tactic| walk_at "gw") => `(tactic| first
  | (with_reducible apply ew_and) <;> walk_at "any"
  | (with_reducible apply ew_or) <;> walk_at "any"
  | (with_reducible apply ew_and1); walk_at "gb"
  | (with_reducible apply ew_or1); walk_at "gb")
local macro_rules | `(tactic| walk_at "go") => `(tactic| first
  | (with_reducible apply ee_nm); first | walk_at "var" | walk_at "glo"
  | (with_reducible apply g_const); first | (with_reducible exact ee_int) | (with_reducible exact ee_str) | (with_reducible exact ee_bl) | (with_reducible exact ee_non)
  | (with_reducible apply g_call); first
    | (with_reducible apply g_call1); first | ((with_reducible apply ee_lenL) <;> walk_at "any") | ((with_reducible apply ee_lenT) <;> walk_at "any") | ((with_reducible apply ee_intIN) <;> walk_at "any") | ((with_reducible apply ee_intBN) <;> walk_at "any") | ((with_reducible apply ee_tupN) <;> walk_at "any") | ((with_reducible apply ee_absN) <;> walk_at "any") | ((with_reducible apply ee_sumN) <;> walk_at "any") | ((with_reducible apply ee_sumTN) <;> walk_at "any") | ((with_reducible apply ee_allN) <;> walk_at "any") | ((with_reducible apply ee_lstN) <;> walk_at "any") | walk_at "call"
    | (with_reducible apply g_call2); first | ((with_reducible apply ee_isInt) <;> walk_at "any") | ((with_reducible apply ee_isBool) <;> walk_at "any") | ((with_reducible apply ee_isTup) <;> walk_at "any") | ((with_reducible apply ee_isStr) <;> walk_at "any") | ((with_reducible apply ee_minN) <;> walk_at "any") | ((with_reducible apply ee_maxN) <;> walk_at "any") | walk_at "call"
    | walk_at "call"
  | ((with_reducible apply ee_bin) <;> walk_at "any")
  | (with_reducible apply g_cmp); first | ((with_reducible apply ee_cmp) <;> walk_at "any") | ((with_reducible apply ee_chain) <;> walk_at "any")
  | (with_reducible apply g_sub); first | ((with_reducible apply ee_slL) <;> walk_at "any") | ((with_reducible apply ee_cell) <;> walk_at "any") | ((with_reducible apply ee_ixT) <;> walk_at "any") | ((with_reducible apply ee_ixL) <;> walk_at "any")
  | (with_reducible apply g_un); first | ((with_reducible apply ee_not); walk_at "go") | (with_reducible exact ee_neg)
  | (with_reducible apply g_bool); first | ((with_reducible apply ee_and) <;> walk_at "any") | ((with_reducible apply ee_or) <;> walk_at "any") | ((with_reducible apply ee_and1) <;> walk_at "any")
  | (with_reducible apply g_if); first | ((with_reducible apply ee_ifI) <;> walk_at "any") | ((with_reducible apply ee_if) <;> walk_at "any")
  | (with_reducible apply g_lst); first | ((with_reducible apply ee_lst0) <;> walk_at "any") | ((with_reducible apply ee_lst1) <;> walk_at "any") | ((with_reducible apply ee_lst2) <;> walk_at "any") | ((with_reducible apply ee_lst3) <;> walk_at "any") | ((with_reducible apply ee_lst4) <;> walk_at "any")
  | (with_reducible apply g_tup); first | ((with_reducible apply ee_tup0) <;> walk_at "any") | ((with_reducible apply ee_tup1) <;> walk_at "any") | ((with_reducible apply ee_tup2) <;> walk_at "any") | ((with_reducible apply ee_tup3) <;> walk_at "any") | ((with_reducible apply ee_tup4) <;> walk_at "any"))
local macro_rules | `(tactic| walk_at "loc") => `(tactic| first | exact .inl (by rfl) | exact .inr (by rfl))
local macro_rules | `(tactic| walk_at "locf") => `(tactic| first | exact .inr (by rfl) | exact .inl (by rfl))
local macro_rules | `(tactic| walk_at "iv") => `(tactic| first
  | ((with_reducible apply iv_tup); walk_at "go") | ((with_reducible apply iv_list); walk_at "go")
  | ((with_reducible apply iv_range) <;> walk_at "any") | ((with_reducible apply iv_range2) <;> walk_at "any")
  | ((with_reducible apply iv_enumL) <;> walk_at "any") | ((with_reducible apply iv_enumT) <;> walk_at "any") | ((with_reducible apply iv_enumT1) <;> walk_at "any")
  | ((with_reducible apply iv_zipL) <;> walk_at "any") | ((with_reducible apply iv_zipT) <;> walk_at "any"))
local macro_rules | `(tactic| walk_at "fm") => `(tactic| ((try rw [filter_tt]); first | rfl | (rw [List.map_map]; done) | (rw [List.map_map]; rfl) | (simp only [lI, tI, List.map_map]; done) | (simp only [lI, tI, List.map_map]; rfl)))
local macro_rules | `(tactic| walk_at "call") => `(tactic| (with_reducible apply ee__law_rows) <;> walk_at "any")
local macro_rules | `(tactic| walk_at "call") => `(tactic| (with_reducible apply ee__law_do_clash) <;> walk_at "any")
local macro_rules | `(tactic| walk_at "call") => `(tactic| (with_reducible apply ee__law_due) <;> walk_at "any")
local macro_rules | `(tactic| walk_at "call") => `(tactic| (with_reducible apply ee__law_light) <;> walk_at "any")
local macro_rules | `(tactic| walk_at "call") => `(tactic| (with_reducible apply ee_all_halves) <;> walk_at "any")
local macro_rules | `(tactic| walk_at "call") => `(tactic| (with_reducible apply ee__law_is_int) <;> walk_at "any")
local macro_rules | `(tactic| walk_at "call") => `(tactic| (with_reducible apply ee__law_weight) <;> walk_at "any")
local macro_rules | `(tactic| walk_at "call") => `(tactic| (with_reducible apply ee__law_does_weigh) <;> walk_at "any")
local macro_rules | `(tactic| walk_at "call") => `(tactic| (with_reducible apply ee__law_are_halves) <;> walk_at "any")
local macro_rules | `(tactic| walk_at "call") => `(tactic| ((with_reducible apply ee_sortedP) <;> walk_at "any"))
local macro_rules | `(tactic| walk_at "call") => `(tactic| (with_reducible apply ee_by_names) <;> walk_at "any")
local macro_rules | `(tactic| walk_at "call") => `(tactic| (with_reducible apply ee_need_weighing) <;> walk_at "any")
local macro_rules | `(tactic| walk_at "call") => `(tactic| (with_reducible apply ee_rounded) <;> walk_at "any")
local macro_rules | `(tactic| walk_at "call") => `(tactic| (with_reducible apply ee_light_setting) <;> walk_at "any")
local macro_rules | `(tactic| walk_at "call") => `(tactic| (with_reducible apply ee_tidy_by) <;> walk_at "any")
local macro_rules | `(tactic| walk_at "call") => `(tactic| (with_reducible apply ee_halves_paper) <;> walk_at "any")
local macro_rules | `(tactic| walk_at "call") => `(tactic| (with_reducible apply ee_check_halves) <;> walk_at "any")
local macro_rules | `(tactic| walk_at "call") => `(tactic| (with_reducible apply ee_weighed_in) <;> walk_at "any")
local macro_rules | `(tactic| walk_at "call") => `(tactic| (with_reducible apply ee_need_bundle) <;> walk_at "any")
local macro_rules | `(tactic| walk_at "call") => `(tactic| (with_reducible apply ee_are_halves) <;> walk_at "any")
local macro_rules | `(tactic| walk_at "call") => `(tactic| (with_reducible apply ee_need_form) <;> walk_at "any")
local macro_rules | `(tactic| walk_at "call") => `(tactic| (with_reducible apply ee_greatest_of) <;> walk_at "any")
local macro_rules | `(tactic| walk_at "call") => `(tactic| (with_reducible apply ee_first_table) <;> walk_at "any")

local macro_rules | `(tactic| walk_at "call") => `(tactic| (with_reducible apply ee_turned_table) <;> walk_at "any")
local macro_rules | `(tactic| walk_at "call") => `(tactic| (with_reducible apply ee_do_clash) <;> walk_at "any")
local macro_rules | `(tactic| walk_at "call") => `(tactic| (with_reducible apply ee_is_row) <;> walk_at "any")
local macro_rules | `(tactic| walk_at "call") => `(tactic| (with_reducible apply ee_are_halves_of) <;> walk_at "any")
local macro_rules | `(tactic| walk_at "call") => `(tactic| (with_reducible apply ee_rounded_row) <;> walk_at "any")
local macro_rules | `(tactic| walk_at "call") => `(tactic| (with_reducible apply ee_rounded_rowL) <;> walk_at "any")
local macro_rules | `(tactic| walk_at "call") => `(tactic| (with_reducible apply ee_sign_in) <;> walk_at "any")
local macro_rules | `(tactic| walk_at "call") => `(tactic| (with_reducible apply ee_heft_at) <;> walk_at "any")
local macro_rules | `(tactic| walk_at "call") => `(tactic| (with_reducible apply ee_are_rising) <;> walk_at "any")
local macro_rules | `(tactic| walk_at "call") => `(tactic| (with_reducible apply ee_is_literal) <;> walk_at "any")
local macro_rules | `(tactic| walk_at "call") => `(tactic| (with_reducible apply ee_is_clause) <;> walk_at "any")
local macro_rules | `(tactic| walk_at "call") => `(tactic| (with_reducible apply ee_weight_of) <;> walk_at "any")
local macro_rules | `(tactic| walk_at "call") => `(tactic| (with_reducible apply ee_does_weigh) <;> walk_at "any")
local macro_rules | `(tactic| walk_at "call") => `(tactic| (with_reducible apply ee_is_integer) <;> walk_at "any")
local macro_rules | `(tactic| walk_at "call") => `(tactic| (with_reducible apply ee_is_between) <;> walk_at "any")
def mixF (c k : Int) : Int := (((c % 2147483647) * (48271 + 2 * k * k) + 69621 * k + 11) % 2147483647 * 69621) % 2147483629
theorem mixF_at (c k : Int) : 0 ≤ mixF c k ∧ mixF c k < 2147483629 := ⟨Int.emod_nonneg _ (by decide), Int.emod_lt_of_pos _ (by decide)⟩
theorem sc45 : FnScope ["cell", "k"] ["cell", "k"] (defScope (top 45)) := ⟨rfl, rfl, rfl, by decide +kernel, rfl, by decide +kernel, by decide +kernel⟩
local macro_rules | `(tactic| walk_at "var") => `(tactic| first | ((with_reducible apply ee_varQ (x := "cell") (i := 0)) <;> walk_at "vs") | ((with_reducible apply ee_varQ (x := "k") (i := 1)) <;> walk_at "vs"))
local macro_rules | `(tactic| walk_at "nd") => `(tactic| exact sc45.nd)
theorem ok__law_mixed (T : Txt K mg) : FnD P w K mg base 1 "_law_mixed" ["cell", "k"] (pureD fun xs r => ∃ c k : Int, xs = [.d (.int c), .d (.int k)] ∧ 0 ≤ k ∧ k < 2 ^ 60 ∧ r = .int (mixF c k)) := by
  refine fnd T 29 rfl rfl sc45 (fun _ _ _ _ _ _ us hl => match us, hl with | [_, _], _ => rfl) (fun xs M Φ h => ?_) (fun a cdv A outer s H E xs M Φ hr h => ?_)
  · obtain ⟨r, ⟨c, k, rfl, _, _, rfl⟩, q⟩ := h
    rfl
  · obtain ⟨r, ⟨c, k, rfl, h0, h1, rfl⟩, q⟩ := h
    have hk : k.natAbs < 2 ^ 60 := by omega
    refine ws_cons (w1_setE (i := 0) (d := .int (c % 2147483647)) ?_ ?_ (by walk_at "nd") (by rfl) (by walk_at "loc") (by walk_at "locf") (by rfl))
    · walk_at "any"
      decide
    have hc0 : 0 ≤ c % 2147483647 := Int.emod_nonneg _ (by decide)
    have hc1 : c % 2147483647 < 2147483647 := Int.emod_lt_of_pos _ (by decide)
    have hc : (c % 2147483647).natAbs < 2 ^ 60 := by omega
    have e1 : (2 * k : Int).natAbs < 2 ^ 62 := by omega
    have e2 : (2 * k * k : Int).natAbs < 2 ^ 122 := wide_lt e1 hk
    have e3 : (48271 + 2 * k * k : Int).natAbs < 2 ^ 123 := by omega
    have f0 : 0 ≤ ((c % 2147483647) * (48271 + 2 * k * k) + 69621 * k + 11) % 2147483647 := Int.emod_nonneg _ (by decide)
    have f1 : ((c % 2147483647) * (48271 + 2 * k * k) + 69621 * k + 11) % 2147483647 < 2147483647 := Int.emod_lt_of_pos _ (by decide)
    refine ws_cons (w1_retE ?_ q)
    apply EE.to
    · walk_at "any"
      · exact wide_mul (i := 2) (j := k) (a := 60) (b := 60) (by decide) hk (by decide) (by decide) (by decide)
      · exact wide_mul (a := 62) (b := 60) e1 hk (by decide) (by decide) (by decide)
      · exact wide_mul (a := 60) (b := 123) hc e3 (by decide) (by decide) (by decide)
      · exact wide_mul (i := 69621) (j := k) (a := 60) (b := 60) (by decide) hk (by decide) (by decide) (by decide)
      · decide
      · exact wide_mul (i := ((c % 2147483647) * (48271 + 2 * k * k) + 69621 * k + 11) % 2147483647) (j := 69621) (a := 60) (b := 60) (by omega) (by decide) (by decide) (by decide) (by decide)
      · decide
    · rfl
theorem ee__law_mixed {X : Cx} {δ : En} {pos p : Pos} {e e2 : Expr} {k' : Nat} {c k : Int} (h_e : EE X e δ (.int c)) (h_e2 : EE X e2 δ (.int k)) (s0 : 0 ≤ k) (s1 : k < 2 ^ 60) (T : Txt X.K X.mg) (hr : Room k' X.A) (hk : 1 ≤ k') (hg : Gl X "_law_mixed") (q0 : starEach (e :: [e2]) X.env = (false, eval e X.env) :: starEach [e2] X.env) (q1 : starEach (e2 :: []) X.env = (false, eval e2 X.env) :: starEach [] X.env) (hpl : (backTo pos (starEach [e2] X.env)).any (·.1) = false) : EE X (.Call (.Name "_law_mixed" p) [e, e2] [] pos) δ (.int (mixF c k)) :=
  ee_callK (ok__law_mixed T) (ea_cons q0 h_e (ea_cons q1 h_e2 ea_nil)) (⟨c, k, rfl, s0, s1, rfl⟩) hr hk hg q0 hpl (by decide)
local macro_rules | `(tactic| walk_at "call") => `(tactic| (with_reducible apply ee__law_mixed) <;> walk_at "any")
abbrev dkOf (cs : List Int) (l : Addr) (t : Int) : List (Key × S) := dk4 "cells" "lefts" "at" "room" (.d (lI cs)) (.m l) (.d (.int t)) (.d (.int 0))
theorem dk_at {cs : List Int} {l : Addr} {t : Int} : valG (dkOf cs l t) (Sum.inr "at" : Key) = some (.d (.int t)) := rfl
theorem dk_cells {cs : List Int} {l : Addr} {t : Int} : valG (dkOf cs l t) (Sum.inr "cells" : Key) = some (.d (lI cs)) := rfl
theorem dk_lefts {cs : List Int} {l : Addr} {t : Int} : valG (dkOf cs l t) (Sum.inr "lefts" : Key) = some (.m l) := rfl
theorem dk_put {cs : List Int} {l : Addr} {t t' : Int} : putG (dkOf cs l t) (Sum.inr "at" : Key) (.d (.int t')) = dkOf cs l t' := rfl
/-- the state of the draws -/
structure Stt (M : Mu) (st l : Addr) (cs : List Int) (t : Int) : Prop where
  d : M st = some (.dK (dkOf cs l t))
  lf : ∃ ls : List Int, M l = some (.lst (ls.map PyData.int)) ∧ ls.length = cs.length
  ne : st ≠ l
  pos : 0 < cs.length
  few : cs.length ≤ 100000
  t0 : 0 ≤ t
/-- the other things stand -/
def Fr2 (M M' : Mu) (st l : Addr) : Prop := ∀ b, b ≠ st → b ≠ l → M b ≠ none → M' b = M b
theorem Fr2.refl {M : Mu} {st l : Addr} : Fr2 M M st l := fun _ _ _ _ => rfl
theorem Fr2.trans {M M1 M2 : Mu} {st l : Addr} (a : Fr2 M M1 st l) (b : Fr2 M1 M2 st l) : Fr2 M M2 st l := fun x h1 h2 h3 => by
  have e := a x h1 h2 h3
  rw [b x h1 h2 (by rw [e]; exact h3), e]
def begD (K : PySem.W.Frag) : DS := fun xs M Φ => ∃ (a : Addr) (ns : List Int), xs = [.m a] ∧ Scr K M a ns ∧ ns.length ≤ 100000 ∧ ∀ (st l : Addr) (cs : List Int) (M' : Mu), Stt M' st l cs 0 → (∀ b, M b ≠ none → M' b = M b) → Φ (.m st) M'
theorem sc46 : FnScope ["script", "cells", "cell"] ["script"] (defScope (top 46)) := ⟨rfl, rfl, rfl, by decide +kernel, rfl, by decide +kernel, by decide +kernel⟩
local macro_rules | `(tactic| walk_at "var") => `(tactic| first | ((with_reducible apply ee_varQ (x := "script") (i := 0)) <;> walk_at "vs") | ((with_reducible apply ee_varQ (x := "cells") (i := 1)) <;> walk_at "vs") | ((with_reducible apply ee_varQ (x := "cell") (i := 2)) <;> walk_at "vs"))
local macro_rules | `(tactic| walk_at "nd") => `(tactic| exact sc46.nd)
theorem ok__law_begin (T : Txt K mg) : FnD P w K mg base 1 "_law_begin" ["script"] (begD K) := by
  refine fnd T 30 rfl rfl sc46 (fun _ _ _ _ _ _ us hl => match us, hl with | [_], _ => rfl) (fun xs M Φ h => ?_) (fun a cdv A outer s H E xs M Φ hr h => ?_)
  · obtain ⟨_, _, rfl, _⟩ := h
    rfl
  · obtain ⟨a0, ns, rfl, hS, hl, q⟩ := h
    have rest : ∀ cs : List Int, 0 < cs.length → cs.length ≤ 100000 → WS (Xj P w K mg base ["script", "cells", "cell"] "_law_begin" 46 a cdv A outer s H E) ((defBody (top 46)).drop 1) [some (.m a0), some (.d (lI cs)), none] M { nx := fun _ M' => Φ (.d .none) M', rt := Φ } := fun cs h0 h1 => by
      refine ws_cons (w1_ret (ev_disp4 fun p hp => EE.ev (d := lI cs) ?_ (LC1.evM (own := [("cell", 2)]) (i := 2) (xs := cs) (g := PyData.int) (f := fun c => .int (if (10 : Int) ^ (18 : Int).toNat ≤ c then c else 0)) (p := fun _ => true) ?_ fun l hlM => EE.ev (d := .int 0) ee_int (EE.ev (d := .int 0) ee_int ⟨?_, ?_⟩))))
      · walk_at "any"
      · refine ⟨?_, fun s0 H0 C0 cl0 fp0 z0 hz0 => ?_, fun s0 H0 C0 cl0 fp0 z0 hz0 hp0 => ?_, ?_, fun _ => by rfl, blkOk_by (by rfl), fun _ _ _ _ _ => by walk_at "loc", fun _ _ _ _ _ => by walk_at "locf", by rfl, by decide, by walk_at "nd", by rfl⟩
        · walk_at "iv"
        · exact eif_nil
        · refine EE.to (ee_ifI (p := decide ((10 : Int) ^ (18 : Int).toNat ≤ z0)) (i := z0) (j := 0) ?_ (fun _ => ?_) (fun _ => ?_)) ?_
          · walk_at "gb"
            exact ⟨by decide, by decide, by decide⟩
          · walk_at "any"
          · walk_at "any"
          · by_cases e : (10 : Int) ^ (18 : Int).toNat ≤ z0
            · rw [decide_eq_true e, if_pos rfl, if_pos e]
            · rw [decide_eq_false e, if_neg Bool.false_ne_true, if_neg e]
        · exact h1
      · have hlp : p ≠ l := fun e => by rw [← e, mup_same] at hlM; cases hlM
        rw [mup_ne hlp, mup_same]
      · have hlp : p ≠ l := fun e => by rw [← e, mup_same] at hlM; cases hlM
        have hlM' : M l = none := by rw [mup_ne (Ne.symm hlp)] at hlM; exact hlM
        refine q p l cs _ ⟨mup_same, ⟨cs.map fun c => if (10 : Int) ^ (18 : Int).toNat ≤ c then c else 0, ?_, List.length_map ..⟩, hlp, h0, h1, by decide⟩ fun b hb => ?_
        · rw [mup_ne (Ne.symm hlp), mup_same, filter_tt, List.map_map]; rfl
        · have n1 : b ≠ p := fun e => hb (by rw [e]; exact hp)
          have n2 : b ≠ l := fun e => hb (by rw [e]; exact hlM')
          rw [mup_ne n1, mup_ne n2, mup_ne n1]
    refine ws_cons (w1_setV (i := 1) (ev_if (tv_neScr (i := 0) hS (by rfl) ee_lst0 ⟨fun h => ?_, fun h => ?_⟩ hr.units (by rfl) (by walk_at "vis") (by rfl) (by decide) (by decide))) (by walk_at "nd") (by rfl) (by walk_at "loc") (by walk_at "locf") (by rfl))
    · refine ev_lstScr (i := 0) hS (by rfl) (rest ns ?_ hl) (by rfl) (by walk_at "mg") (by rfl) (by walk_at "vis") (by rfl) (by decide) (by decide)
      cases ns with
      | nil => cases h
      | cons x xs => exact Nat.succ_pos _
    · exact EE.ev (d := lI [0]) (ee_lst1 ee_int (by rfl)) (rest [0] (by decide) (by decide))
end
end KP
namespace KP
open PySem PySem.Spec PyProof.Rows L2 DL
section
variable {P : Program} {w : World} {K : PySem.W.Frag} {mg : Str → Option Value} {base : Heap}
/-! steps -/
local macro_rules | `(tactic| walk_at "vis") => `(tactic| first | exact vis_l (by rfl) | exact vis_c (by rfl) | exact vis_f (by rfl))
local macro_rules | `(tactic| walk_at "vs") => `(tactic| first | rfl | (walk_at "vis") | decide)
local macro_rules | `(tactic| walk_at "mg") => `(tactic| exact z_of (by assumption) (by decide +kernel))
local macro_rules | `(tactic| walk_at "var") => `(tactic| fail)
local macro_rules | `(tactic| walk_at "glo") => `(tactic| first | exact ee_names (by assumption) (by rfl) (by rfl) | exact ee_clauses (by assumption) (by rfl) (by rfl) | exact ee_halvesS (by assumption) (by rfl) (by rfl) | exact ee_clashS (by assumption) (by rfl) (by rfl))
local macro_rules | `(tactic| walk_at "side") => `(tactic| first | assumption | ((with_reducible apply atI_litG); rfl) | ((fail_if_success (with_reducible apply atI_litG)); skip))
local macro_rules | `(tactic| walk_at "call") => `(tactic| fail)
local macro_rules | `(tactic| walk_at "bv") => `(tactic| first
  | (with_reducible apply bv_gB); first
    | (with_reducible exact bv_add) | (with_reducible exact bv_sub) | (with_reducible apply bv_mulS; walk_at "side") | (with_reducible apply bv_divS; walk_at "side") | (with_reducible apply bv_mod; walk_at "side") | (with_reducible apply bv_powS; walk_at "side")
    | (with_reducible apply bv_cat <;> walk_at "side") | (with_reducible apply bv_rep1 <;> walk_at "side") | (with_reducible apply bv_rep <;> walk_at "side") | (with_reducible apply bv_catT <;> walk_at "side")
  | (with_reducible apply bv_gC); first
    | (with_reducible exact bv_lt) | (with_reducible exact bv_le) | (with_reducible exact bv_gt) | (with_reducible exact bv_ge) | (with_reducible exact bv_eqI) | (with_reducible exact bv_neI) | (with_reducible exact bv_eqS) | (with_reducible exact bv_neS) | (with_reducible exact bv_isNone) | (with_reducible exact bv_inT) | (with_reducible exact bv_notin2)
    | (with_reducible apply bv_eqD <;> walk_at "side") | (with_reducible apply bv_neD <;> walk_at "side") | (with_reducible apply bv_inD <;> walk_at "side"))
local macro_rules | `(tactic| walk_at "any") => `(tactic| first
  | (with_reducible apply ee_id); walk_at "go"
  | (with_reducible apply ea_id); first | (with_reducible exact ea_nil) | ((with_reducible apply ea_cons) <;> walk_at "any")
  | (with_reducible apply eb_id); walk_at "gb"
  | (with_reducible apply ew_id); walk_at "gw"
  | (with_reducible apply eo_id); first | (with_reducible exact eo_none) | (apply eo_some; walk_at "go")
  | (with_reducible apply bv_id); walk_at "bv"
  | (fail_if_success (with_reducible apply ee_id)); (fail_if_success (with_reducible apply ea_id)); (fail_if_success (with_reducible apply eb_id)); (fail_if_success (with_reducible apply ew_id)); (fail_if_success (with_reducible apply bv_id)); first
    | (intro _; walk_at "any")
    | rfl | (walk_at "mg") | decide | (intro _; rfl) | (intro _ _; rfl) | (walk_at "side"))
local macro_rules | `(tactic| walk_at "gb") => `(tactic| first
  | (with_reducible apply eb_not); walk_at "gb"
  | (with_reducible apply eb_cmp) <;> walk_at "any"
  | (with_reducible apply EW.eb); walk_at "gw"
  | (apply eb_val) <;> walk_at "any")
local macro_rules | `(tactic| walk_at "gw") => `(tactic| first
  | (with_reducible apply ew_and) <;> walk_at "any"
  | (with_reducible apply ew_or) <;> walk_at "any"
  | (with_reducible apply ew_and1); walk_at "gb"
  | (with_reducible apply ew_or1); walk_at "gb")
local macro_rules | `(tactic| walk_at "go") => `(tactic| first
  | (with_reducible apply ee_nm); first | walk_at "var" | walk_at "glo"
  | (with_reducible apply g_const); first | (with_reducible exact ee_int) | (with_reducible exact ee_str) | (with_reducible exact ee_bl) | (with_reducible exact ee_non)
  | (with_reducible apply g_call); first
    | (with_reducible apply g_call1); first | ((with_reducible apply ee_lenL) <;> walk_at "any") | ((with_reducible apply ee_lenT) <;> walk_at "any") | ((with_reducible apply ee_intIN) <;> walk_at "any") | ((with_reducible apply ee_intBN) <;> walk_at "any") | ((with_reducible apply ee_tupN) <;> walk_at "any") | ((with_reducible apply ee_absN) <;> walk_at "any") | ((with_reducible apply ee_sumN) <;> walk_at "any") | ((with_reducible apply ee_sumTN) <;> walk_at "any") | ((with_reducible apply ee_allN) <;> walk_at "any") | ((with_reducible apply ee_lstN) <;> walk_at "any") | walk_at "call"
    | (with_reducible apply g_call2); first | ((with_reducible apply ee_isInt) <;> walk_at "any") | ((with_reducible apply ee_isBool) <;> walk_at "any") | ((with_reducible apply ee_isTup) <;> walk_at "any") | ((with_reducible apply ee_isStr) <;> walk_at "any") | ((with_reducible apply ee_minN) <;> walk_at "any") | ((with_reducible apply ee_maxN) <;> walk_at "any") | walk_at "call"
    | walk_at "call"
  | ((with_reducible apply ee_bin) <;> walk_at "any")
  | (with_reducible apply g_cmp); first | ((with_reducible apply ee_cmp) <;> walk_at "any") | ((with_reducible apply ee_chain) <;> walk_at "any")
  | (with_reducible apply g_sub); first | ((with_reducible apply ee_slL) <;> walk_at "any") | ((with_reducible apply ee_cell) <;> walk_at "any") | ((with_reducible apply ee_ixT) <;> walk_at "any") | ((with_reducible apply ee_ixL) <;> walk_at "any")
  | (with_reducible apply g_un); first | ((with_reducible apply ee_not); walk_at "go") | (with_reducible exact ee_neg)
  | (with_reducible apply g_bool); first | ((with_reducible apply ee_and) <;> walk_at "any") | ((with_reducible apply ee_or) <;> walk_at "any") | ((with_reducible apply ee_and1) <;> walk_at "any")
  | (with_reducible apply g_if); first | ((with_reducible apply ee_ifI) <;> walk_at "any") | ((with_reducible apply ee_if) <;> walk_at "any")
  | (with_reducible apply g_lst); first | ((with_reducible apply ee_lst0) <;> walk_at "any") | ((with_reducible apply ee_lst1) <;> walk_at "any") | ((with_reducible apply ee_lst2) <;> walk_at "any") | ((with_reducible apply ee_lst3) <;> walk_at "any") | ((with_reducible apply ee_lst4) <;> walk_at "any")
  | (with_reducible apply g_tup); first | ((with_reducible apply ee_tup0) <;> walk_at "any") | ((with_reducible apply ee_tup1) <;> walk_at "any") | ((with_reducible apply ee_tup2) <;> walk_at "any") | ((with_reducible apply ee_tup3) <;> walk_at "any") | ((with_reducible apply ee_tup4) <;> walk_at "any"))
local macro_rules | `(tactic| walk_at "loc") => `(tactic| first | exact .inl (by rfl) | exact .inr (by rfl))
local macro_rules | `(tactic| walk_at "locf") => `(tactic| first | exact .inr (by rfl) | exact .inl (by rfl))
local macro_rules | `(tactic| walk_at "iv") => `(tactic| first
  | ((with_reducible apply iv_tup); walk_at "go") | ((with_reducible apply iv_list); walk_at "go")
  | ((with_reducible apply iv_range) <;> walk_at "any") | ((with_reducible apply iv_range2) <;> walk_at "any")
  | ((with_reducible apply iv_enumL) <;> walk_at "any") | ((with_reducible apply iv_enumT) <;> walk_at "any") | ((with_reducible apply iv_enumT1) <;> walk_at "any")
  | ((with_reducible apply iv_zipL) <;> walk_at "any") | ((with_reducible apply iv_zipT) <;> walk_at "any"))
local macro_rules | `(tactic| walk_at "fm") => `(tactic| ((try rw [filter_tt]); first | rfl | (rw [List.map_map]; done) | (rw [List.map_map]; rfl) | (simp only [lI, tI, List.map_map]; done) | (simp only [lI, tI, List.map_map]; rfl)))
local macro_rules | `(tactic| walk_at "call") => `(tactic| (with_reducible apply ee__law_mixed) <;> walk_at "any")
local macro_rules | `(tactic| walk_at "call") => `(tactic| (with_reducible apply ee__law_rows) <;> walk_at "any")
local macro_rules | `(tactic| walk_at "call") => `(tactic| (with_reducible apply ee__law_do_clash) <;> walk_at "any")
local macro_rules | `(tactic| walk_at "call") => `(tactic| (with_reducible apply ee__law_due) <;> walk_at "any")
local macro_rules | `(tactic| walk_at "call") => `(tactic| (with_reducible apply ee__law_light) <;> walk_at "any")
local macro_rules | `(tactic| walk_at "call") => `(tactic| (with_reducible apply ee_all_halves) <;> walk_at "any")
local macro_rules | `(tactic| walk_at "call") => `(tactic| (with_reducible apply ee__law_is_int) <;> walk_at "any")
local macro_rules | `(tactic| walk_at "call") => `(tactic| (with_reducible apply ee__law_weight) <;> walk_at "any")
local macro_rules | `(tactic| walk_at "call") => `(tactic| (with_reducible apply ee__law_does_weigh) <;> walk_at "any")
local macro_rules | `(tactic| walk_at "call") => `(tactic| (with_reducible apply ee__law_are_halves) <;> walk_at "any")
local macro_rules | `(tactic| walk_at "call") => `(tactic| ((with_reducible apply ee_sortedP) <;> walk_at "any"))
local macro_rules | `(tactic| walk_at "call") => `(tactic| (with_reducible apply ee_by_names) <;> walk_at "any")
local macro_rules | `(tactic| walk_at "call") => `(tactic| (with_reducible apply ee_need_weighing) <;> walk_at "any")
local macro_rules | `(tactic| walk_at "call") => `(tactic| (with_reducible apply ee_rounded) <;> walk_at "any")
local macro_rules | `(tactic| walk_at "call") => `(tactic| (with_reducible apply ee_light_setting) <;> walk_at "any")
local macro_rules | `(tactic| walk_at "call") => `(tactic| (with_reducible apply ee_tidy_by) <;> walk_at "any")
local macro_rules | `(tactic| walk_at "call") => `(tactic| (with_reducible apply ee_halves_paper) <;> walk_at "any")
local macro_rules | `(tactic| walk_at "call") => `(tactic| (with_reducible apply ee_check_halves) <;> walk_at "any")
local macro_rules | `(tactic| walk_at "call") => `(tactic| (with_reducible apply ee_weighed_in) <;> walk_at "any")
local macro_rules | `(tactic| walk_at "call") => `(tactic| (with_reducible apply ee_need_bundle) <;> walk_at "any")
local macro_rules | `(tactic| walk_at "call") => `(tactic| (with_reducible apply ee_are_halves) <;> walk_at "any")
local macro_rules | `(tactic| walk_at "call") => `(tactic| (with_reducible apply ee_need_form) <;> walk_at "any")
local macro_rules | `(tactic| walk_at "call") => `(tactic| (with_reducible apply ee_greatest_of) <;> walk_at "any")
local macro_rules | `(tactic| walk_at "call") => `(tactic| (with_reducible apply ee_first_table) <;> walk_at "any")

local macro_rules | `(tactic| walk_at "call") => `(tactic| (with_reducible apply ee_turned_table) <;> walk_at "any")
local macro_rules | `(tactic| walk_at "call") => `(tactic| (with_reducible apply ee_do_clash) <;> walk_at "any")
local macro_rules | `(tactic| walk_at "call") => `(tactic| (with_reducible apply ee_is_row) <;> walk_at "any")
local macro_rules | `(tactic| walk_at "call") => `(tactic| (with_reducible apply ee_are_halves_of) <;> walk_at "any")
local macro_rules | `(tactic| walk_at "call") => `(tactic| (with_reducible apply ee_rounded_row) <;> walk_at "any")
local macro_rules | `(tactic| walk_at "call") => `(tactic| (with_reducible apply ee_rounded_rowL) <;> walk_at "any")
local macro_rules | `(tactic| walk_at "call") => `(tactic| (with_reducible apply ee_sign_in) <;> walk_at "any")
local macro_rules | `(tactic| walk_at "call") => `(tactic| (with_reducible apply ee_heft_at) <;> walk_at "any")
local macro_rules | `(tactic| walk_at "call") => `(tactic| (with_reducible apply ee_are_rising) <;> walk_at "any")
local macro_rules | `(tactic| walk_at "call") => `(tactic| (with_reducible apply ee_is_literal) <;> walk_at "any")
local macro_rules | `(tactic| walk_at "call") => `(tactic| (with_reducible apply ee_is_clause) <;> walk_at "any")
local macro_rules | `(tactic| walk_at "call") => `(tactic| (with_reducible apply ee_weight_of) <;> walk_at "any")
local macro_rules | `(tactic| walk_at "call") => `(tactic| (with_reducible apply ee_does_weigh) <;> walk_at "any")
local macro_rules | `(tactic| walk_at "call") => `(tactic| (with_reducible apply ee_is_integer) <;> walk_at "any")
local macro_rules | `(tactic| walk_at "call") => `(tactic| (with_reducible apply ee_is_between) <;> walk_at "any")
theorem EA_of {X : Cx} {es : List Expr} {δ : En} {xs : List S} (h : EA X es δ xs) {M : Mu} {Ψ : List S → Mu → Prop} (q : Ψ xs M) : AV X es δ M Ψ := h M Ψ q
def drawD : DS := fun xs M Φ => ∃ (st l : Addr) (m : Int) (cs : List Int) (t : Int), xs = [.m st, .d (.int m)] ∧ 1 ≤ m ∧ m ≤ 2 ^ 30 ∧ Stt M st l cs t ∧ t ≤ 1000000000 ∧ ∀ (r : Int) (M' : Mu), 0 ≤ r → r < m → Stt M' st l cs (t + 1) → Fr2 M M' st l → Φ (.d (.int r)) M'
theorem drawD_mono : ∀ xs M1 (Φ Φ' : S → Mu → Prop), drawD xs M1 Φ → (∀ x M2, Φ x M2 → Φ' x M2) → drawD xs M1 Φ' := fun xs M1 Φ Φ' ⟨st, l, m, cs, t, h1, h2, h3, h4, h5, h6⟩ mo => ⟨st, l, m, cs, t, h1, h2, h3, h4, h5, fun r M' a b c d => mo _ _ (h6 r M' a b c d)⟩
theorem place_ok {cs : List Int} {t : Int} (h : 0 < cs.length) : 0 ≤ t % (cs.length : Int) ∧ t % (cs.length : Int) < (cs.length : Int) := ⟨Int.emod_nonneg _ (by omega), Int.emod_lt_of_pos _ (by omega)⟩
theorem sc47 : FnScope ["state", "many", "at", "place", "left", "number"] ["state", "many"] (defScope (top 47)) := ⟨rfl, rfl, rfl, by decide +kernel, rfl, by decide +kernel, by decide +kernel⟩
local macro_rules | `(tactic| walk_at "var") => `(tactic| first | ((with_reducible apply ee_varQ (x := "state") (i := 0)) <;> walk_at "vs") | ((with_reducible apply ee_varQ (x := "many") (i := 1)) <;> walk_at "vs") | ((with_reducible apply ee_varQ (x := "at") (i := 2)) <;> walk_at "vs") | ((with_reducible apply ee_varQ (x := "place") (i := 3)) <;> walk_at "vs") | ((with_reducible apply ee_varQ (x := "left") (i := 4)) <;> walk_at "vs") | ((with_reducible apply ee_varQ (x := "number") (i := 5)) <;> walk_at "vs"))
local macro_rules | `(tactic| walk_at "nd") => `(tactic| exact sc47.nd)
theorem ok__law_draw (T : Txt K mg) : FnD P w K mg base 2 "_law_draw" ["state", "many"] drawD := by
  refine fnd T 31 rfl rfl sc47 (fun _ _ _ _ _ _ us hl => match us, hl with | [_, _], _ => rfl) (fun xs M Φ h => ?_) (fun a cdv A outer s H E xs M Φ hr h => ?_)
  · obtain ⟨_, _, _, _, _, rfl, _⟩ := h
    rfl
  · obtain ⟨st, l, m, cs, t, rfl, hm1, hm2, hS, ht, q⟩ := h
    obtain ⟨ls, hls, hll⟩ := hS.lf
    have ht0 := hS.t0
    have hne := hS.ne
    have hmlog : m.natAbs.log2 < 9000 := Nat.lt_of_lt_of_le (PySem.Flt.log2_lt_of (k := 31) (by decide) (by omega)) (by decide)
    refine ws_cons (w1_setV (i := 2) (ev_dget (hu_of hr) (fun _ _ => rfl) (ev_var (i := 0) (by rfl) (by walk_at "vis") (by rfl) ⟨st, _, _, rfl, hS.d, dk_at, ?_⟩)) (by walk_at "nd") (by rfl) (by walk_at "loc") (by walk_at "locf") (by rfl))
    refine ws_cons (w1_dput (hu_of hr) (by rfl) (EE.ev (d := .int (t + 1)) ?_ (ev_var (i := 0) (by rfl) (by walk_at "vis") (by rfl) ⟨st, _, rfl, hS.d, (by decide : 4 < 1000), ?_⟩)))
    · walk_at "any"
    have e1 : mup M st (.dK (putG (dkOf cs l t) (Sum.inr "at" : Key) (.d (.int (t + 1))))) = mup M st (.dK (dkOf cs l (t + 1))) := by rw [dk_put]
    rw [e1]
    have d1 : mup M st (.dK (dkOf cs l (t + 1))) st = some (.dK (dkOf cs l (t + 1))) := mup_same
    have l1 : mup M st (.dK (dkOf cs l (t + 1))) l = some (.lst (ls.map PyData.int)) := by rw [mup_ne (Ne.symm hne)]; exact hls
    have S1 : Stt (mup M st (.dK (dkOf cs l (t + 1)))) st l cs (t + 1) := ⟨d1, ⟨ls, l1, hll⟩, hne, hS.pos, hS.few, by omega⟩
    have F1 : Fr2 M (mup M st (.dK (dkOf cs l (t + 1)))) st l := fun b h1 h2 h3 => mup_ne h1
    generalize mup M st (.dK (dkOf cs l (t + 1))) = M1 at d1 l1 S1 F1
    obtain ⟨g0, g1⟩ := place_ok (t := t) hS.pos
    refine ws_cons (w1_setV (i := 3) (ev_bin (EE.ev (d := .int t) ?_ (ev_callB (id := "len") (by rfl) (by walk_at "mg") (by decide +kernel) (by rfl) (by rfl) (av_cons (by rfl) (ev_dget (hu_of hr) (fun _ _ => rfl) (ev_var (i := 0) (by rfl) (by walk_at "vis") (by rfl) ⟨st, _, _, rfl, d1, dk_cells, ea_nil _ _ ⟨[lI cs], .int (cs.length : Int), rfl, ?_, _, _, .int (t % (cs.length : Int)), rfl, rfl, bv_mod ?_, ?_⟩⟩)))))) (by walk_at "nd") (by rfl) (by walk_at "loc") (by walk_at "locf") (by rfl))
    · walk_at "any"
    · have := cv_lenL (X := Xj P w K mg base ["state", "many", "at", "place", "left", "number"] "_law_draw" 47 a cdv A outer s H E) (ds := cs.map PyData.int)
      rwa [List.length_map] at this
    · have := hS.pos; omega
    generalize t % (cs.length : Int) = pl at g0 g1
    have hpl : pl = ((pl.toNat : Nat) : Int) := by omega
    refine ws_cons (w1_setV (i := 4) (ev_ixV (fun _ _ => rfl) (ev_dget (hu_of hr) (fun _ _ => rfl) (ev_var (i := 0) (by rfl) (by walk_at "vis") (by rfl) ⟨st, _, _, rfl, d1, dk_lefts, EE.ev (d := .int pl) ?_ ⟨l, _, pl, .int (ls.getD pl.toNat 0), rfl, rfl, l1, at_int (by omega) (by omega), ?_⟩⟩))) (by walk_at "nd") (by rfl) (by walk_at "loc") (by walk_at "locf") (by rfl))
    · walk_at "any"
    generalize hlf : ls.getD pl.toNat 0 = lf
    refine ws_cons (w1_ifE (p := decide (0 < lf)) ?_ (fun h => ?_) (fun h => ws_nil ?_))
    · walk_at "gb"
    · refine ws_cons (w1_setM (by rfl) (by rfl) (by rfl) (fun _ => by rfl) (EE.ev (d := .int (lf / m)) ?_ (ev_dget (hu_of hr) (fun _ _ => rfl) (ev_var (i := 0) (by rfl) (by walk_at "vis") (by rfl) ⟨st, _, _, rfl, d1, dk_lefts, EE.ev (d := .int pl) ?_ ⟨.int (lf / m), l, pl.toNat, _, rfl, rfl, by rw [← hpl], l1, ?_, ?_⟩⟩))))
      · walk_at "any"
        exact ⟨by omega, hmlog⟩
      · walk_at "any"
      · rw [List.length_map]; omega
      refine ws_cons (w1_retE (d := .int (lf % m)) ?_ (q _ _ (Int.emod_nonneg _ (by omega)) (Int.emod_lt_of_pos _ (by omega)) ⟨?_, ⟨ls.set pl.toNat (lf / m), ?_, ?_⟩, hne, hS.pos, hS.few, by omega⟩ (F1.trans fun b h1 h2 h3 => mup_ne h2)))
      · walk_at "any"
        omega
      · rw [mup_ne hne]; exact d1
      · rw [mup_same, List.map_set]
      · rw [List.length_set]; exact hll
    have hk1 : (40 : Int) + t < 2 ^ 60 := by omega
    refine ws_cons (w1_setV (i := 5) (ev_call (ok__law_mixed T) (hr.mono (by decide)) (by rfl) (by rfl) (by rfl) (av_cons (by rfl) (ev_call (ok__law_mixed T) (hr.mono (by decide)) (by rfl) (by rfl) (by rfl) (av_cons (by rfl) (ev_ix (fun _ _ => rfl) (ev_dget (hu_of hr) (fun _ _ => rfl) (ev_var (i := 0) (by rfl) (by walk_at "vis") (by rfl) ⟨st, _, _, rfl, d1, dk_cells, EE.ev (d := .int pl) ?_ ⟨_, _, .int (cs.getD pl.toNat 0), rfl, rfl, ix_L (at_int (by omega) (by omega)), EA_of (ea_cons (d := .int t) (by rfl) ?_ ea_nil) ⟨.int (mixF (cs.getD pl.toNat 0) t), ⟨_, _, rfl, ht0, by omega, rfl⟩, EA_of (ea_cons (d := .int (40 + t)) (by rfl) ?_ ea_nil) ⟨.int (mixF (mixF (cs.getD pl.toNat 0) t) (40 + t)), ⟨_, _, rfl, by omega, hk1, rfl⟩, ?_⟩⟩⟩⟩)))) (pureD_mono _) (by decide))) (pureD_mono _) (by decide)) (by walk_at "nd") (by rfl) (by walk_at "loc") (by walk_at "locf") (by rfl))
    · walk_at "any"
    · walk_at "any"
    · walk_at "any"
    obtain ⟨n0, n1⟩ := mixF_at (mixF (cs.getD pl.toNat 0) t) (40 + t)
    generalize mixF (mixF (cs.getD pl.toNat 0) t) (40 + t) = nu at n0 n1
    obtain ⟨x0, x1⟩ := mixF_at nu (7 + t)
    refine ws_cons (w1_retE (d := .int ((nu * 2147483647 + mixF nu (7 + t)) / 64 % m)) ?_ (q _ _ (Int.emod_nonneg _ (by omega)) (Int.emod_lt_of_pos _ (by omega)) S1 F1))
    walk_at "any"
    · exact wide_mul (i := nu) (j := 2147483647) (a := 60) (b := 60) (by omega) (by decide) (by decide) (by decide) (by decide)
    · omega
    · omega
    · exact ⟨by decide, by decide +kernel⟩
    · omega
end
end KP
namespace KP
open PySem PySem.Spec PyProof.Rows L2 DL
section
variable {P : Program} {w : World} {K : PySem.W.Frag} {mg : Str → Option Value} {base : Heap}
/-! steps -/
local macro_rules | `(tactic| walk_at "vis") => `(tactic| first | exact vis_l (by rfl) | exact vis_c (by rfl) | exact vis_f (by rfl))
local macro_rules | `(tactic| walk_at "vs") => `(tactic| first | rfl | (walk_at "vis") | decide)
local macro_rules | `(tactic| walk_at "mg") => `(tactic| exact z_of (by assumption) (by decide +kernel))
local macro_rules | `(tactic| walk_at "var") => `(tactic| fail)
local macro_rules | `(tactic| walk_at "glo") => `(tactic| first | exact ee_names (by assumption) (by rfl) (by rfl) | exact ee_clauses (by assumption) (by rfl) (by rfl) | exact ee_halvesS (by assumption) (by rfl) (by rfl) | exact ee_clashS (by assumption) (by rfl) (by rfl))
local macro_rules | `(tactic| walk_at "side") => `(tactic| first | assumption | ((with_reducible apply atI_litG); rfl) | ((fail_if_success (with_reducible apply atI_litG)); skip))
local macro_rules | `(tactic| walk_at "call") => `(tactic| fail)
local macro_rules | `(tactic| walk_at "bv") => `(tactic| first
  | (with_reducible apply bv_gB); first
    | (with_reducible exact bv_add) | (with_reducible exact bv_sub) | (with_reducible apply bv_mulS; walk_at "side") | (with_reducible apply bv_divS; walk_at "side") | (with_reducible apply bv_mod; walk_at "side") | (with_reducible apply bv_powS; walk_at "side")
    | (with_reducible apply bv_cat <;> walk_at "side") | (with_reducible apply bv_rep1 <;> walk_at "side") | (with_reducible apply bv_rep <;> walk_at "side") | (with_reducible apply bv_catT <;> walk_at "side")
  | (with_reducible apply bv_gC); first
    | (with_reducible exact bv_lt) | (with_reducible exact bv_le) | (with_reducible exact bv_gt) | (with_reducible exact bv_ge) | (with_reducible exact bv_eqI) | (with_reducible exact bv_neI) | (with_reducible exact bv_eqS) | (with_reducible exact bv_neS) | (with_reducible exact bv_isNone) | (with_reducible exact bv_inT) | (with_reducible exact bv_notin2)
    | (with_reducible apply bv_eqD <;> walk_at "side") | (with_reducible apply bv_neD <;> walk_at "side") | (with_reducible apply bv_inD <;> walk_at "side"))
local macro_rules | `(tactic| walk_at "any") => `(tactic| first
  | (with_reducible apply ee_id); walk_at "go"
  | (with_reducible apply ea_id); first | (with_reducible exact ea_nil) | ((with_reducible apply ea_cons) <;> walk_at "any")
  | (with_reducible apply eb_id); walk_at "gb"
  | (with_reducible apply ew_id); walk_at "gw"
  | (with_reducible apply eo_id); first | (with_reducible exact eo_none) | (apply eo_some; walk_at "go")
  | (with_reducible apply bv_id); walk_at "bv"
  | (fail_if_success (with_reducible apply ee_id)); (fail_if_success (with_reducible apply ea_id)); (fail_if_success (with_reducible apply eb_id)); (fail_if_success (with_reducible apply ew_id)); (fail_if_success (with_reducible apply bv_id)); first
    | (intro _; walk_at "any")
    | rfl | (walk_at "mg") | decide | (intro _; rfl) | (intro _ _; rfl) | (walk_at "side"))
local macro_rules | `(tactic| walk_at "gb") => `(tactic| first
  | (with_reducible apply eb_not); walk_at "gb"
  | (with_reducible apply eb_cmp) <;> walk_at "any"
  | (with_reducible apply EW.eb); walk_at "gw"
  | (apply eb_val) <;> walk_at "any")
local macro_rules | `(tactic| walk_at "gw") => `(tactic| first
  | (with_reducible apply ew_and) <;> walk_at "any"
  | (with_reducible apply ew_or) <;> walk_at "any"
  | (with_reducible apply ew_and1); walk_at "gb"
  | (with_reducible apply ew_or1); walk_at "gb")
local macro_rules | `(tactic| walk_at "go") => `(tactic| first
  | (with_reducible apply ee_nm); first | walk_at "var" | walk_at "glo"
  | (with_reducible apply g_const); first | (with_reducible exact ee_int) | (with_reducible exact ee_str) | (with_reducible exact ee_bl) | (with_reducible exact ee_non)
  | (with_reducible apply g_call); first
    | (with_reducible apply g_call1); first | ((with_reducible apply ee_lenL) <;> walk_at "any") | ((with_reducible apply ee_lenT) <;> walk_at "any") | ((with_reducible apply ee_intIN) <;> walk_at "any") | ((with_reducible apply ee_intBN) <;> walk_at "any") | ((with_reducible apply ee_tupN) <;> walk_at "any") | ((with_reducible apply ee_absN) <;> walk_at "any") | ((with_reducible apply ee_sumN) <;> walk_at "any") | ((with_reducible apply ee_sumTN) <;> walk_at "any") | ((with_reducible apply ee_allN) <;> walk_at "any") | ((with_reducible apply ee_lstN) <;> walk_at "any") | walk_at "call"
    | (with_reducible apply g_call2); first | ((with_reducible apply ee_isInt) <;> walk_at "any") | ((with_reducible apply ee_isBool) <;> walk_at "any") | ((with_reducible apply ee_isTup) <;> walk_at "any") | ((with_reducible apply ee_isStr) <;> walk_at "any") | ((with_reducible apply ee_minN) <;> walk_at "any") | ((with_reducible apply ee_maxN) <;> walk_at "any") | walk_at "call"
    | walk_at "call"
  | ((with_reducible apply ee_bin) <;> walk_at "any")
  | (with_reducible apply g_cmp); first | ((with_reducible apply ee_cmp) <;> walk_at "any") | ((with_reducible apply ee_chain) <;> walk_at "any")
  | (with_reducible apply g_sub); first | ((with_reducible apply ee_slL) <;> walk_at "any") | ((with_reducible apply ee_cell) <;> walk_at "any") | ((with_reducible apply ee_ixT) <;> walk_at "any") | ((with_reducible apply ee_ixL) <;> walk_at "any")
  | (with_reducible apply g_un); first | ((with_reducible apply ee_not); walk_at "go") | (with_reducible exact ee_neg)
  | (with_reducible apply g_bool); first | ((with_reducible apply ee_and) <;> walk_at "any") | ((with_reducible apply ee_or) <;> walk_at "any") | ((with_reducible apply ee_and1) <;> walk_at "any")
  | (with_reducible apply g_if); first | ((with_reducible apply ee_ifI) <;> walk_at "any") | ((with_reducible apply ee_if) <;> walk_at "any")
  | (with_reducible apply g_lst); first | ((with_reducible apply ee_lst0) <;> walk_at "any") | ((with_reducible apply ee_lst1) <;> walk_at "any") | ((with_reducible apply ee_lst2) <;> walk_at "any") | ((with_reducible apply ee_lst3) <;> walk_at "any") | ((with_reducible apply ee_lst4) <;> walk_at "any")
  | (with_reducible apply g_tup); first | ((with_reducible apply ee_tup0) <;> walk_at "any") | ((with_reducible apply ee_tup1) <;> walk_at "any") | ((with_reducible apply ee_tup2) <;> walk_at "any") | ((with_reducible apply ee_tup3) <;> walk_at "any") | ((with_reducible apply ee_tup4) <;> walk_at "any"))
local macro_rules | `(tactic| walk_at "loc") => `(tactic| first | exact .inl (by rfl) | exact .inr (by rfl))
local macro_rules | `(tactic| walk_at "locf") => `(tactic| first | exact .inr (by rfl) | exact .inl (by rfl))
local macro_rules | `(tactic| walk_at "iv") => `(tactic| first
  | ((with_reducible apply iv_tup); walk_at "go") | ((with_reducible apply iv_list); walk_at "go")
  | ((with_reducible apply iv_range) <;> walk_at "any") | ((with_reducible apply iv_range2) <;> walk_at "any")
  | ((with_reducible apply iv_enumL) <;> walk_at "any") | ((with_reducible apply iv_enumT) <;> walk_at "any") | ((with_reducible apply iv_enumT1) <;> walk_at "any")
  | ((with_reducible apply iv_zipL) <;> walk_at "any") | ((with_reducible apply iv_zipT) <;> walk_at "any"))
local macro_rules | `(tactic| walk_at "fm") => `(tactic| ((try rw [filter_tt]); first | rfl | (rw [List.map_map]; done) | (rw [List.map_map]; rfl) | (simp only [lI, tI, List.map_map]; done) | (simp only [lI, tI, List.map_map]; rfl)))

local macro_rules | `(tactic| walk_at "call") => `(tactic| (with_reducible apply ee__law_mixed) <;> walk_at "any")
local macro_rules | `(tactic| walk_at "call") => `(tactic| (with_reducible apply ee__law_rows) <;> walk_at "any")
local macro_rules | `(tactic| walk_at "call") => `(tactic| (with_reducible apply ee__law_do_clash) <;> walk_at "any")
local macro_rules | `(tactic| walk_at "call") => `(tactic| (with_reducible apply ee__law_due) <;> walk_at "any")
local macro_rules | `(tactic| walk_at "call") => `(tactic| (with_reducible apply ee__law_light) <;> walk_at "any")
local macro_rules | `(tactic| walk_at "call") => `(tactic| (with_reducible apply ee_all_halves) <;> walk_at "any")
local macro_rules | `(tactic| walk_at "call") => `(tactic| (with_reducible apply ee__law_is_int) <;> walk_at "any")
local macro_rules | `(tactic| walk_at "call") => `(tactic| (with_reducible apply ee__law_weight) <;> walk_at "any")
local macro_rules | `(tactic| walk_at "call") => `(tactic| (with_reducible apply ee__law_does_weigh) <;> walk_at "any")
local macro_rules | `(tactic| walk_at "call") => `(tactic| (with_reducible apply ee__law_are_halves) <;> walk_at "any")
local macro_rules | `(tactic| walk_at "call") => `(tactic| ((with_reducible apply ee_sortedP) <;> walk_at "any"))
local macro_rules | `(tactic| walk_at "call") => `(tactic| (with_reducible apply ee_by_names) <;> walk_at "any")
local macro_rules | `(tactic| walk_at "call") => `(tactic| (with_reducible apply ee_need_weighing) <;> walk_at "any")
local macro_rules | `(tactic| walk_at "call") => `(tactic| (with_reducible apply ee_rounded) <;> walk_at "any")
local macro_rules | `(tactic| walk_at "call") => `(tactic| (with_reducible apply ee_light_setting) <;> walk_at "any")
local macro_rules | `(tactic| walk_at "call") => `(tactic| (with_reducible apply ee_tidy_by) <;> walk_at "any")
local macro_rules | `(tactic| walk_at "call") => `(tactic| (with_reducible apply ee_halves_paper) <;> walk_at "any")
local macro_rules | `(tactic| walk_at "call") => `(tactic| (with_reducible apply ee_check_halves) <;> walk_at "any")
local macro_rules | `(tactic| walk_at "call") => `(tactic| (with_reducible apply ee_weighed_in) <;> walk_at "any")
local macro_rules | `(tactic| walk_at "call") => `(tactic| (with_reducible apply ee_need_bundle) <;> walk_at "any")
local macro_rules | `(tactic| walk_at "call") => `(tactic| (with_reducible apply ee_are_halves) <;> walk_at "any")
local macro_rules | `(tactic| walk_at "call") => `(tactic| (with_reducible apply ee_need_form) <;> walk_at "any")
local macro_rules | `(tactic| walk_at "call") => `(tactic| (with_reducible apply ee_greatest_of) <;> walk_at "any")
local macro_rules | `(tactic| walk_at "call") => `(tactic| (with_reducible apply ee_first_table) <;> walk_at "any")

local macro_rules | `(tactic| walk_at "call") => `(tactic| (with_reducible apply ee_turned_table) <;> walk_at "any")
local macro_rules | `(tactic| walk_at "call") => `(tactic| (with_reducible apply ee_do_clash) <;> walk_at "any")
local macro_rules | `(tactic| walk_at "call") => `(tactic| (with_reducible apply ee_is_row) <;> walk_at "any")
local macro_rules | `(tactic| walk_at "call") => `(tactic| (with_reducible apply ee_are_halves_of) <;> walk_at "any")
local macro_rules | `(tactic| walk_at "call") => `(tactic| (with_reducible apply ee_rounded_row) <;> walk_at "any")
local macro_rules | `(tactic| walk_at "call") => `(tactic| (with_reducible apply ee_rounded_rowL) <;> walk_at "any")
local macro_rules | `(tactic| walk_at "call") => `(tactic| (with_reducible apply ee_sign_in) <;> walk_at "any")
local macro_rules | `(tactic| walk_at "call") => `(tactic| (with_reducible apply ee_heft_at) <;> walk_at "any")
local macro_rules | `(tactic| walk_at "call") => `(tactic| (with_reducible apply ee_are_rising) <;> walk_at "any")
local macro_rules | `(tactic| walk_at "call") => `(tactic| (with_reducible apply ee_is_literal) <;> walk_at "any")
local macro_rules | `(tactic| walk_at "call") => `(tactic| (with_reducible apply ee_is_clause) <;> walk_at "any")
local macro_rules | `(tactic| walk_at "call") => `(tactic| (with_reducible apply ee_weight_of) <;> walk_at "any")
local macro_rules | `(tactic| walk_at "call") => `(tactic| (with_reducible apply ee_does_weigh) <;> walk_at "any")
local macro_rules | `(tactic| walk_at "call") => `(tactic| (with_reducible apply ee_is_integer) <;> walk_at "any")
local macro_rules | `(tactic| walk_at "call") => `(tactic| (with_reducible apply ee_is_between) <;> walk_at "any")
def ofD : DS := fun xs M Φ => ∃ (st l : Addr) (ds : List PyData) (cs : List Int) (t : Int), xs = [.m st, .d (.list ds)] ∧ 1 ≤ ds.length ∧ ds.length ≤ 1000000 ∧ Stt M st l cs t ∧ t ≤ 1000000000 ∧ ∀ (d : PyData) (M' : Mu), d ∈ ds → Stt M' st l cs (t + 1) → Fr2 M M' st l → Φ (.d d) M'
theorem ofD_mono : ∀ xs M1 (Φ Φ' : S → Mu → Prop), ofD xs M1 Φ → (∀ x M2, Φ x M2 → Φ' x M2) → ofD xs M1 Φ' := fun xs M1 Φ Φ' ⟨st, l, ds, cs, t, h1, h2, h3, h4, h5, h6⟩ mo => ⟨st, l, ds, cs, t, h1, h2, h3, h4, h5, fun d M' a b c => mo _ _ (h6 d M' a b c)⟩
theorem at_mem {ds : List PyData} {r : Int} (h0 : 0 ≤ r) (h1 : r < ds.length) : ∃ d, d ∈ ds ∧ atI ds r = some d := by
  have hr : r = ((r.toNat : Nat) : Int) := by omega
  have hl : r.toNat < ds.length := by omega
  refine ⟨ds[r.toNat], List.getElem_mem hl, ?_⟩
  exact (congrArg (atI ds) hr).trans (atI_nat (by rw [List.getElem?_eq_getElem hl]))
theorem sc48 : FnScope ["state", "some"] ["state", "some"] (defScope (top 48)) := ⟨rfl, rfl, rfl, by decide +kernel, rfl, by decide +kernel, by decide +kernel⟩
local macro_rules | `(tactic| walk_at "var") => `(tactic| first | ((with_reducible apply ee_varQ (x := "state") (i := 0)) <;> walk_at "vs") | ((with_reducible apply ee_varQ (x := "some") (i := 1)) <;> walk_at "vs"))
local macro_rules | `(tactic| walk_at "nd") => `(tactic| exact sc48.nd)
theorem ok__law_of (T : Txt K mg) : FnD P w K mg base 3 "_law_of" ["state", "some"] ofD := by
  refine fnd T 32 rfl rfl sc48 (fun _ _ _ _ _ _ us hl => match us, hl with | [_, _], _ => rfl) (fun xs M Φ h => ?_) (fun a cdv A outer s H E xs M Φ hr h => ?_)
  · obtain ⟨_, _, _, _, _, rfl, _⟩ := h
    rfl
  · obtain ⟨st, l, ds, cs, t, rfl, h1, h2, hS, ht, q⟩ := h
    refine ws_cons (w1_ret (ev_ix (fun _ _ => rfl) (EE.ev (d := .list ds) ?_ (ev_call (ok__law_draw T) (hr.mono (by decide)) (by rfl) (by rfl) (by rfl) (EA_of (ea_consM (i := 0) (a := st) (by rfl) (by rfl) (by walk_at "vis") (by rfl) (ea_cons (d := .int (ds.length : Int)) (by rfl) ?_ ea_nil)) ⟨st, l, _, cs, t, rfl, by omega, by omega, hS, ht, fun r M' r0 r1 hS' F => ?_⟩) drawD_mono (by decide)))))
    · walk_at "any"
    · walk_at "any"
    · obtain ⟨d, hd, ha⟩ := at_mem r0 r1
      exact ⟨_, _, d, rfl, rfl, ix_L ha, q d M' hd hS' F⟩
/-- what has been drawn of a clause so far -/
structure GotOk (n : Nat) (lf : List Int) (gt : List (Int × Int)) : Prop where
  nd : (gt.map (fun p => p.1) ++ lf).Nodup
  at_ : ∀ x ∈ gt.map (fun p => p.1) ++ lf, 1 ≤ x ∧ x ≤ (n : Int)
  sg : ∀ p ∈ gt, p.2 = p.1 ∨ p.2 = - p.1
def clOf (gt : List (Int × Int)) : List Int := (sortP gt).map fun p => p.2
theorem clOf_ok {n : Nat} {lf : List Int} {gt : List (Int × Int)} (h : GotOk n lf gt) : IC.ClOk n (clOf gt) := by
  have hp := sortP_perm gt
  have nd : (gt.map fun p => p.1).Nodup := (List.nodup_append.mp h.nd).1
  have nd2 : ((sortP gt).map fun p => p.1).Nodup := (hp.map _).nodup_iff.mpr nd
  have mem : ∀ p ∈ sortP gt, (1 ≤ p.1 ∧ p.1 ≤ (n : Int)) ∧ (p.2 = p.1 ∨ p.2 = - p.1) := fun p hm =>
    have hm' := hp.mem_iff.mp hm
    ⟨h.at_ _ (List.mem_append_left _ (List.mem_map.mpr ⟨p, hm', rfl⟩)), h.sg p hm'⟩
  refine ⟨fun l hl => ?_, ?_⟩
  · obtain ⟨p, hm, rfl⟩ := List.mem_map.mp hl
    obtain ⟨a, b⟩ := mem p hm
    omega
  · unfold clOf
    rw [List.map_map]
    have s1 := sortP_sorted gt
    have s2 : (sortP gt).Pairwise fun x y => x.1 ≠ y.1 := List.pairwise_map.mp nd2
    refine List.pairwise_map.mpr ((List.pairwise_and_iff.mpr ⟨s1, s2⟩).imp_of_mem fun {x y} hx hy hh => ?_)
    obtain ⟨a1, b1⟩ := mem x hx
    obtain ⟨a2, b2⟩ := mem y hy
    have := leP_iff.mp hh.1
    have := hh.2
    show x.2.natAbs < y.2.natAbs
    omega
theorem erase_perm : ∀ {l : List Int} {i : Nat}, i < l.length → (l.getD i 0 :: l.eraseIdx i).Perm l
  | x :: l, 0, _ => List.Perm.refl _
  | x :: l, i + 1, h => by
    have ih := erase_perm (l := l) (i := i) (Nat.lt_of_succ_lt_succ h)
    have e : (x :: l).getD (i + 1) 0 = l.getD i 0 := rfl
    rw [e]
    exact (List.Perm.swap x (l.getD i 0) (l.eraseIdx i)).trans (ih.cons x)
theorem erase_map {α β : Type} {f : α → β} : ∀ {l : List α} {i : Nat}, (l.map f).eraseIdx i = (l.eraseIdx i).map f
  | [], _ => rfl
  | x :: l, 0 => rfl
  | x :: l, i + 1 => by
    show f x :: (l.map f).eraseIdx i = f x :: (l.eraseIdx i).map f
    rw [erase_map]
theorem mdel_ne {M : Mu} {a b : Addr} (h : b ≠ a) : mdel M a b = M b := by unfold mdel; rw [if_neg h]
theorem GotOk.next {n : Nat} {lf : List Int} {gt : List (Int × Int)} (h : GotOk n lf gt) {i : Nat} (hi : i < lf.length) {e : Int} (he : e = 1 ∨ e = -1) : GotOk n (lf.eraseIdx i) (gt ++ [(lf.getD i 0, lf.getD i 0 * e)]) := by
  have hp : ((gt ++ [(lf.getD i 0, lf.getD i 0 * e)]).map (fun p => p.1) ++ lf.eraseIdx i).Perm (gt.map (fun p => p.1) ++ lf) := by
    rw [List.map_append, List.append_assoc]
    refine List.Perm.append_left _ ?_
    exact erase_perm hi
  refine ⟨hp.nodup_iff.mpr h.nd, fun x hx => h.at_ x (hp.mem_iff.mp hx), fun p hm => ?_⟩
  rcases List.mem_append.mp hm with z | z
  · exact h.sg p z
  · rw [List.mem_singleton.mp z]
    rcases he with rfl | rfl
    · left; show lf.getD i 0 * 1 = lf.getD i 0; omega
    · right; show lf.getD i 0 * -1 = - lf.getD i 0; omega
theorem gotStart (n : Nat) : GotOk n ((List.range n).map fun v : Nat => 1 + (v : Int)) [] := by
  refine ⟨?_, fun x hx => ?_, fun p hp => nomatch hp⟩
  · show ((List.range n).map fun v : Nat => 1 + (v : Int)).Nodup
    exact List.pairwise_map.mpr (List.nodup_range.imp fun h e => h (by omega))
  · obtain ⟨v, hv, rfl⟩ := List.mem_map.mp hx
    have := List.mem_range.mp hv
    omega
def clauseD : DS := fun xs M Φ => ∃ (st l : Addr) (n : Nat) (cs : List Int) (t : Int), xs = [.m st, .d (nI n)] ∧ 1 ≤ n ∧ n ≤ 7 ∧ Stt M st l cs t ∧ t ≤ 900000000 ∧ ∀ (c : List Int) (t' : Int) (M' : Mu), IC.ClOk n c → t' ≤ t + 20 → Stt M' st l cs t' → Fr2 M M' st l → Φ (.d (tI c)) M'
theorem clauseD_mono : ∀ xs M1 (Φ Φ' : S → Mu → Prop), clauseD xs M1 Φ → (∀ x M2, Φ x M2 → Φ' x M2) → clauseD xs M1 Φ' := fun xs M1 Φ Φ' ⟨st, l, n, cs, t, h1, h2, h3, h4, h5, h6⟩ mo => ⟨st, l, n, cs, t, h1, h2, h3, h4, h5, fun d t' M' a b c e => mo _ _ (h6 d t' M' a b c e)⟩
theorem Stt.keep {M M' : Mu} {st l : Addr} {cs : List Int} {t : Int} (h : Stt M st l cs t) (h1 : M' st = M st) (h2 : M' l = M l) : Stt M' st l cs t := ⟨by rw [h1]; exact h.d, by rw [h2]; exact h.lf, h.ne, h.pos, h.few, h.t0⟩
theorem Stt.live {M : Mu} {st l : Addr} {cs : List Int} {t : Int} (h : Stt M st l cs t) : M st ≠ none ∧ M l ≠ none := ⟨by rw [h.d]; exact fun e => (nomatch e), by obtain ⟨ls, e, _⟩ := h.lf; rw [e]; exact fun e => (nomatch e)⟩
theorem sc49 : FnScope ["state", "names", "left", "got", "k", "name", "pair"] ["state", "names"] (defScope (top 49)) := ⟨rfl, rfl, rfl, by decide +kernel, rfl, by decide +kernel, by decide +kernel⟩
local macro_rules | `(tactic| walk_at "var") => `(tactic| first | ((with_reducible apply ee_varQ (x := "state") (i := 0)) <;> walk_at "vs") | ((with_reducible apply ee_varQ (x := "names") (i := 1)) <;> walk_at "vs") | ((with_reducible apply ee_varQ (x := "left") (i := 2)) <;> walk_at "vs") | ((with_reducible apply ee_varQ (x := "got") (i := 3)) <;> walk_at "vs") | ((with_reducible apply ee_varQ (x := "k") (i := 4)) <;> walk_at "vs") | ((with_reducible apply ee_varQ (x := "name") (i := 5)) <;> walk_at "vs") | ((with_reducible apply ee_varQ (x := "pair") (i := 6)) <;> walk_at "vs"))
local macro_rules | `(tactic| walk_at "nd") => `(tactic| exact sc49.nd)
theorem ok__law_clause (T : Txt K mg) : FnD P w K mg base 3 "_law_clause" ["state", "names"] clauseD := by
  refine fnd T 33 rfl rfl sc49 (fun _ _ _ _ _ _ us hl => match us, hl with | [_, _], _ => rfl) (fun xs M Φ h => ?_) (fun a cdv A outer s H E xs M Φ hr h => ?_)
  · obtain ⟨_, _, _, _, _, rfl, _⟩ := h
    rfl
  · obtain ⟨st, l, n, cs, t, rfl, hn1, hn7, hS, ht, q⟩ := h
    obtain ⟨live1, live2⟩ := hS.live
    refine ws_cons (w1_par (i := 2) (j := 3) (by rfl) (by walk_at "nd") (by rfl) (by rfl) (by decide) (by rfl) (by rfl) (by rfl) (by rfl) (av_cons (by rfl) (ev_listRg2 (lo := 1) (n := n) ee_int ?_ (by decide) (by omega) (by rfl) (by rfl) (by walk_at "mg") (by rfl) (by walk_at "mg") (by rfl) (by rfl) (by rfl) (by rfl) fun la hla => av_cons (by rfl) (ev_lstM (ds := []) ea_nil (by decide) fun ga hga => ea_nil _ _ ⟨rfl, ?_⟩))))
    · apply EE.to
      walk_at "any"
      rw [Int.add_comm]
    have hgl : ga ≠ la := fun e => by rw [e, mup_same] at hga; cases hga
    have hga' : M ga = none := by rw [mup_ne hgl] at hga; exact hga
    have n1 : la ≠ st := fun e => live1 (by rw [← e]; exact hla)
    have n2 : la ≠ l := fun e => live2 (by rw [← e]; exact hla)
    have n3 : ga ≠ st := fun e => live1 (by rw [← e]; exact hga')
    have n4 : ga ≠ l := fun e => live2 (by rw [← e]; exact hga')
    generalize hM1 : mup (mup M la (.lst (rangeD 1 n))) ga (.lst []) = M1
    have S1 : Stt M1 st l cs t := hS.keep (by rw [← hM1, mup_ne (Ne.symm n3), mup_ne (Ne.symm n1)]) (by rw [← hM1, mup_ne (Ne.symm n4), mup_ne (Ne.symm n2)])
    have F1 : Fr2 M M1 st l := fun b h1 h2 h3 => by
      rw [← hM1, mup_ne (fun e => h3 (by rw [e]; exact hga')), mup_ne (fun e => h3 (by rw [e]; exact hla))]
    have L1 : M1 la = some (.lst (((List.range n).map fun v : Nat => 1 + (v : Int)).map PyData.int)) := by
      rw [← hM1, mup_ne (Ne.symm hgl), mup_same, List.map_map]; rfl
    have G1 : M1 ga = some (.lst (([] : List (Int × Int)).map DL.pairD)) := by rw [← hM1, mup_same]; rfl
    refine ws_cons (w1_forRgV (i := 4) (ev_bin (EE.ev (d := .int 1) ee_int (ev_call (ok__law_draw T) (hr.mono (by decide)) (by rfl) (by rfl) (by rfl) (EA_of (ea_consM (i := 0) (a := st) (by rfl) (by rfl) (by walk_at "vis") (by rfl) (ea_cons (d := .int (if (n : Int) < 4 then (n : Int) else 4)) (by rfl) ?_ ea_nil)) ⟨st, l, _, cs, t, rfl, ?_, ?_, S1, by omega, fun r M2 r0 r1 S2 F2 => ?_⟩) drawD_mono (by decide)))) (by rfl) (by walk_at "mg") (by rfl) (by walk_at "nd") (by rfl) (by walk_at "loc") (by walk_at "locf") PassesOwn.never (by rfl) (fun _ => by rfl))
    · walk_at "any"
    · split <;> omega
    · split <;> omega
    have hrn : r < (n : Int) ∧ r < 4 := by split at r1 <;> omega
    refine ⟨_, _, _, rfl, rfl, bv_add, (1 + r).toNat, fun j δ' M' => ∃ (t' : Int) (lf : List Int) (gt : List (Int × Int)) (u v : Option S), t' ≤ t + 1 + 2 * (j : Int) ∧ Stt M' st l cs t' ∧ Fr2 M M' st l ∧ M' la = some (.lst (lf.map PyData.int)) ∧ M' ga = some (.lst (gt.map DL.pairD)) ∧ lf.length = n - j ∧ gt.length = j ∧ GotOk n lf gt ∧ δ' = [some (.m st), some (.d (nI n)), some (.m la), some (.m ga), u, v, none], ?_, by omega, ⟨t + 1, _, [], none, none, by omega, S2, ?_, ?_, ?_, ?_, rfl, gotStart n, rfl⟩, ?_, ?_⟩
    · show S.d (.int (1 + r)) = S.d (.int (((1 + r).toNat : Nat) : Int))
      rw [Int.toNat_of_nonneg (by omega)]
    · exact F1.trans F2
    · rw [F2 la n1 n2 (by rw [L1]; exact fun e => (nomatch e))]; exact L1
    · rw [F2 ga n3 n4 (by rw [G1]; exact fun e => (nomatch e))]; exact G1
    · rw [List.length_map, List.length_range]; omega
    · rintro j δ' M' hj ⟨t', lf, gt, u, v, ht', S3, F3, hL, hG, hl1, hl2, ok, rfl⟩
      have hlf : 0 < lf.length := by omega
      have lalive : M' la ≠ none := by rw [hL]; exact fun e => (nomatch e)
      have galive : M' ga ≠ none := by rw [hG]; exact fun e => (nomatch e)
      refine ws_cons (w1_setV (i := 5) (ev_popM (i := 2) (by rfl) (by walk_at "vis") (by rfl) hL (by rfl) (by rfl) (by rfl) (by rfl) (by rfl) (ev_call (ok__law_draw T) (hr.mono (by decide)) (by rfl) (by rfl) (by rfl) (av_cons (by rfl) (ev_var (i := 0) (by rfl) (by walk_at "vis") (by rfl) (av_cons (by rfl) (ev_lenM (i := 2) (by rfl) (by walk_at "mg") (by rfl) (by walk_at "vis") (by rfl) (.inl hL) (by rfl) (ea_nil _ _ ⟨st, l, _, cs, t', rfl, by rw [List.length_map]; omega, by rw [List.length_map]; omega, S3, by omega, fun r2 M4 r20 r21 S4 F4 => ?_⟩)) ))) drawD_mono (by decide))) (by walk_at "nd") (by rfl) (by walk_at "loc") (by walk_at "locf") (by rfl))
      rw [List.length_map] at r21
      have hL4 : M4 la = some (.lst (lf.map PyData.int)) := by rw [F4 la n1 n2 lalive]; exact hL
      have hG4 : M4 ga = some (.lst (gt.map DL.pairD)) := by rw [F4 ga n3 n4 galive]; exact hG
      have hix : r2.toNat < lf.length := by omega
      refine ⟨r2.toNat, .int (lf.getD r2.toNat 0), _, by rw [Int.toNat_of_nonneg r20], hL4, ?_, by omega, ?_⟩
      · rw [List.getElem?_map, List.getElem?_eq_getElem hix, List.getD_eq_getElem?_getD, List.getElem?_eq_getElem hix]; rfl
      have S5 : Stt (mup M4 la (.lst ((lf.map PyData.int).eraseIdx r2.toNat))) st l cs (t' + 1) := S4.keep (mup_ne (Ne.symm n1)) (mup_ne (Ne.symm n2))
      have G5 : (mup M4 la (.lst ((lf.map PyData.int).eraseIdx r2.toNat))) ga = some (.lst (gt.map DL.pairD)) := by rw [mup_ne hgl]; exact hG4
      have L5 : (mup M4 la (.lst ((lf.map PyData.int).eraseIdx r2.toNat))) la = some (.lst ((lf.eraseIdx r2.toNat).map PyData.int)) := by
        rw [mup_same, erase_map]
      have F5 : Fr2 M (mup M4 la (.lst ((lf.map PyData.int).eraseIdx r2.toNat))) st l := fun b h1 h2 h3 => by
        rw [mup_ne (fun e => h3 (by rw [e]; exact hla))]
        exact (F3.trans F4) b h1 h2 h3
      generalize mup M4 la (.lst ((lf.map PyData.int).eraseIdx r2.toNat)) = M5 at S5 G5 L5 F5
      have hnm : 1 ≤ lf.getD r2.toNat 0 ∧ lf.getD r2.toNat 0 ≤ (n : Int) := ok.at_ _ (List.mem_append_right _ (by
        rw [List.getD_eq_getElem?_getD, List.getElem?_eq_getElem hix]
        exact List.getElem_mem _))
      have hnext := fun e (he : e = 1 ∨ e = -1) => ok.next hix (e := e) he
      have hel : (lf.eraseIdx r2.toNat).length = n - (j + 1) := by rw [List.length_eraseIdx_of_lt hix]; omega
      generalize lf.getD r2.toNat 0 = nm at hnm hnext
      refine ws_cons (w1_app (i := 3) (a := ga) (by rfl) (by walk_at "vis") (by rfl) G5 (by rfl) (by rfl) (by rfl) (by rfl) (by rfl) (by rfl) (ev_tup (av_cons (by rfl) (EE.ev (d := .int nm) ?_ (av_cons (by rfl) (ev_bin (EE.ev (d := .int nm) ?_ (ev_ix (fun _ _ => rfl) (EE.ev (d := .list [.int 1, .int (-1)]) (ee_lst2 ee_int ee_neg (by rfl) (by rfl)) (ev_call (ok__law_draw T) (hr.mono (by decide)) (by rfl) (by rfl) (by rfl) (EA_of (ea_consM (i := 0) (a := st) (by rfl) (by rfl) (by walk_at "vis") (by rfl) (ea_cons (d := .int 2) (by rfl) ee_int ea_nil)) ⟨st, l, _, cs, t' + 1, rfl, by decide, by decide, S5, by omega, fun r3 M6 r30 r31 S6 F6 => ?_⟩) drawD_mono (by decide)))))))))))
      · walk_at "any"
      · walk_at "any"
      have g6 : M6 ga = some (.lst (gt.map DL.pairD)) := by rw [F6 ga n3 n4 (by rw [G5]; exact fun e => (nomatch e))]; exact G5
      have l6 : M6 la = some (.lst ((lf.eraseIdx r2.toNat).map PyData.int)) := by rw [F6 la n1 n2 (by rw [L5]; exact fun e => (nomatch e))]; exact L5
      obtain ⟨e, he, hat⟩ : ∃ e : Int, (e = 1 ∨ e = -1) ∧ atI [PyData.int 1, PyData.int (-1)] r3 = some (.int e) := by
        rcases (by omega : r3 = 0 ∨ r3 = 1) with z | z
        · rw [z]; exact ⟨1, .inl rfl, rfl⟩
        · rw [z]; exact ⟨-1, .inr rfl, rfl⟩
      refine ⟨_, _, .int e, rfl, rfl, ix_L hat, _, _, .int (nm * e), rfl, rfl, bv_mul (wide_mul (a := 60) (b := 60) (by omega) (by omega) (by decide) (by decide) (by decide)), ea_nil _ _ ⟨[.int nm, .int (nm * e)], rfl, (by decide : 2 ≤ 100000), _, _, rfl, g6, ?_, ws_nil ⟨t' + 1 + 1, lf.eraseIdx r2.toNat, gt ++ [(nm, nm * e)], some (.d (.int (0 + (j : Int)))), some (.d (.int nm)), by omega, S6.keep (mup_ne (Ne.symm n3)) (mup_ne (Ne.symm n4)), fun b h1 h2 h3 => ?_, ?_, ?_, hel, ?_, hnext e he, rfl⟩⟩⟩
      · rw [List.length_map]; omega
      · rw [mup_ne (fun e => h3 (by rw [e]; exact hga'))]
        exact (F5.trans F6) b h1 h2 h3
      · rw [mup_ne (Ne.symm hgl)]; exact l6
      · rw [mup_same, List.map_append]; rfl
      · rw [List.length_append, hl2]; rfl
    · rintro δ' M' ⟨t', lf, gt, u, v, ht', S3, F3, hL, hG, hl1, hl2, ok, rfl⟩
      have ht2 : t' ≤ t + 20 := by omega
      refine ws_freeze 3 rfl hG ?_
      refine ws_cons (w1_retE (d := tI (clOf gt)) (EE.to (ee_tupN (EE.to (LC1.ee (own := [("pair", 6)]) (i := 6) (xs := sortP gt) (g := DL.pairD) (f := fun p => .int p.2) (p := fun _ => true) ?_) (d' := lI (clOf gt)) ?_) (by rfl) (by walk_at "mg") (by rfl)) rfl) (q _ t' _ (clOf_ok ok) ht2 (S3.keep (mdel_ne (Ne.symm n3)) (mdel_ne (Ne.symm n4))) fun b h1 h2 h3 => ?_))
      · refine ⟨?_, fun s0 H0 C0 cl0 fp0 z0 hz0 => ?_, fun s0 H0 C0 cl0 fp0 z0 hz0 hp0 => ?_, ?_, fun _ => by rfl, blkOk_by (by rfl), fun _ _ _ _ _ => by walk_at "loc", fun _ _ _ _ _ => by walk_at "locf", by rfl, by decide, by walk_at "nd", by rfl⟩
        · apply iv_list
          refine ee_sortedP ?_ (by rfl) (by walk_at "mg") (by rfl)
          walk_at "any"
        · exact eif_nil
        · walk_at "any"
        · rw [(sortP_perm _).length_eq]; omega
      · rw [filter_tt]
        show PyData.list _ = PyData.list ((clOf gt).map PyData.int)
        unfold clOf
        rw [List.map_map]; rfl
      · rw [mdel_ne (fun e => h3 (by rw [e]; exact hga'))]
        exact F3 b h1 h2 h3
end
end KP
namespace KP
open PySem PySem.Spec PyProof.Rows L2 DL
section
variable {P : Program} {w : World} {K : PySem.W.Frag} {mg : Str → Option Value} {base : Heap}
/-! steps -/
local macro_rules | `(tactic| walk_at "vis") => `(tactic| first | exact vis_l (by rfl) | exact vis_c (by rfl) | exact vis_f (by rfl))
local macro_rules | `(tactic| walk_at "vs") => `(tactic| first | rfl | (walk_at "vis") | decide)
local macro_rules | `(tactic| walk_at "mg") => `(tactic| exact z_of (by assumption) (by decide +kernel))
local macro_rules | `(tactic| walk_at "var") => `(tactic| fail)
local macro_rules | `(tactic| walk_at "glo") => `(tactic| first | exact ee_names (by assumption) (by rfl) (by rfl) | exact ee_clauses (by assumption) (by rfl) (by rfl) | exact ee_halvesS (by assumption) (by rfl) (by rfl) | exact ee_clashS (by assumption) (by rfl) (by rfl))
local macro_rules | `(tactic| walk_at "side") => `(tactic| first | assumption | ((with_reducible apply atI_litG); rfl) | ((fail_if_success (with_reducible apply atI_litG)); skip))
local macro_rules | `(tactic| walk_at "call") => `(tactic| fail)
local macro_rules | `(tactic| walk_at "bv") => `(tactic| first
  | (with_reducible apply bv_gB); first
    | (with_reducible exact bv_add) | (with_reducible exact bv_sub) | (with_reducible apply bv_mulS; walk_at "side") | (with_reducible apply bv_divS; walk_at "side") | (with_reducible apply bv_mod; walk_at "side") | (with_reducible apply bv_powS; walk_at "side")
    | (with_reducible apply bv_cat <;> walk_at "side") | (with_reducible apply bv_rep1 <;> walk_at "side") | (with_reducible apply bv_rep <;> walk_at "side") | (with_reducible apply bv_catT <;> walk_at "side")
  | (with_reducible apply bv_gC); first
    | (with_reducible exact bv_lt) | (with_reducible exact bv_le) | (with_reducible exact bv_gt) | (with_reducible exact bv_ge) | (with_reducible exact bv_eqI) | (with_reducible exact bv_neI) | (with_reducible exact bv_eqS) | (with_reducible exact bv_neS) | (with_reducible exact bv_isNone) | (with_reducible exact bv_inT) | (with_reducible exact bv_notin2)
    | (with_reducible apply bv_eqD <;> walk_at "side") | (with_reducible apply bv_neD <;> walk_at "side") | (with_reducible apply bv_inD <;> walk_at "side"))
local macro_rules | `(tactic| walk_at "any") => `(tactic| first
  | (with_reducible apply ee_id); walk_at "go"
  | (with_reducible apply ea_id); first | (with_reducible exact ea_nil) | ((with_reducible apply ea_cons) <;> walk_at "any")
  | (with_reducible apply eb_id); walk_at "gb"
  | (with_reducible apply ew_id); walk_at "gw"
  | (with_reducible apply eo_id); first | (with_reducible exact eo_none) | (apply eo_some; walk_at "go")
  | (with_reducible apply bv_id); walk_at "bv"
  | (fail_if_success (with_reducible apply ee_id)); (fail_if_success (with_reducible apply ea_id)); (fail_if_success (with_reducible apply eb_id)); (fail_if_success (with_reducible apply ew_id)); (fail_if_success (with_reducible apply bv_id)); first
    | (intro _; walk_at "any")
    | rfl | (walk_at "mg") | decide | (intro _; rfl) | (intro _ _; rfl) | (walk_at "side"))
local macro_rules | `(tactic| walk_at "gb") => `(tactic| first
  | (with_reducible apply eb_not); walk_at "gb"
  | (with_reducible apply eb_cmp) <;> walk_at "any"
  | (with_reducible apply EW.eb); walk_at "gw"
  | (apply eb_val) <;> walk_at "any")
local macro_rules | `(tactic| walk_at "gw") => `(tactic| first
  | (with_reducible apply ew_and) <;> walk_at "any"
  | (with_reducible apply ew_or) <;> walk_at "any"
  | (with_reducible apply ew_and1); walk_at "gb"
  | (with_reducible apply ew_or1); walk_at "gb")
local macro_rules | `(tactic| walk_at "go") => `(tactic| first
  | (with_reducible apply ee_nm); first | walk_at "var" | walk_at "glo"
  | (with_reducible apply g_const); first | (with_reducible exact ee_int) | (with_reducible exact ee_str) | (with_reducible exact ee_bl) | (with_reducible exact ee_non)
  | (with_reducible apply g_call); first
    | (with_reducible apply g_call1); first | ((with_reducible apply ee_lenL) <;> walk_at "any") | ((with_reducible apply ee_lenT) <;> walk_at "any") | ((with_reducible apply ee_intIN) <;> walk_at "any") | ((with_reducible apply ee_intBN) <;> walk_at "any") | ((with_reducible apply ee_tupN) <;> walk_at "any") | ((with_reducible apply ee_absN) <;> walk_at "any") | ((with_reducible apply ee_sumN) <;> walk_at "any") | ((with_reducible apply ee_sumTN) <;> walk_at "any") | ((with_reducible apply ee_allN) <;> walk_at "any") | ((with_reducible apply ee_lstN) <;> walk_at "any") | walk_at "call"
    | (with_reducible apply g_call2); first | ((with_reducible apply ee_isInt) <;> walk_at "any") | ((with_reducible apply ee_isBool) <;> walk_at "any") | ((with_reducible apply ee_isTup) <;> walk_at "any") | ((with_reducible apply ee_isStr) <;> walk_at "any") | ((with_reducible apply ee_minN) <;> walk_at "any") | ((with_reducible apply ee_maxN) <;> walk_at "any") | walk_at "call"
    | walk_at "call"
  | ((with_reducible apply ee_bin) <;> walk_at "any")
  | (with_reducible apply g_cmp); first | ((with_reducible apply ee_cmp) <;> walk_at "any") | ((with_reducible apply ee_chain) <;> walk_at "any")
  | (with_reducible apply g_sub); first | ((with_reducible apply ee_slL) <;> walk_at "any") | ((with_reducible apply ee_cell) <;> walk_at "any") | ((with_reducible apply ee_ixT) <;> walk_at "any") | ((with_reducible apply ee_ixL) <;> walk_at "any")
  | (with_reducible apply g_un); first | ((with_reducible apply ee_not); walk_at "go") | (with_reducible exact ee_neg)
  | (with_reducible apply g_bool); first | ((with_reducible apply ee_and) <;> walk_at "any") | ((with_reducible apply ee_or) <;> walk_at "any") | ((with_reducible apply ee_and1) <;> walk_at "any")
  | (with_reducible apply g_if); first | ((with_reducible apply ee_ifI) <;> walk_at "any") | ((with_reducible apply ee_if) <;> walk_at "any")
  | (with_reducible apply g_lst); first | ((with_reducible apply ee_lst0) <;> walk_at "any") | ((with_reducible apply ee_lst1) <;> walk_at "any") | ((with_reducible apply ee_lst2) <;> walk_at "any") | ((with_reducible apply ee_lst3) <;> walk_at "any") | ((with_reducible apply ee_lst4) <;> walk_at "any")
  | (with_reducible apply g_tup); first | ((with_reducible apply ee_tup0) <;> walk_at "any") | ((with_reducible apply ee_tup1) <;> walk_at "any") | ((with_reducible apply ee_tup2) <;> walk_at "any") | ((with_reducible apply ee_tup3) <;> walk_at "any") | ((with_reducible apply ee_tup4) <;> walk_at "any"))
local macro_rules | `(tactic| walk_at "loc") => `(tactic| first | exact .inl (by rfl) | exact .inr (by rfl))
local macro_rules | `(tactic| walk_at "locf") => `(tactic| first | exact .inr (by rfl) | exact .inl (by rfl))
local macro_rules | `(tactic| walk_at "iv") => `(tactic| first
  | ((with_reducible apply iv_tup); walk_at "go") | ((with_reducible apply iv_list); walk_at "go")
  | ((with_reducible apply iv_range) <;> walk_at "any") | ((with_reducible apply iv_range2) <;> walk_at "any")
  | ((with_reducible apply iv_enumL) <;> walk_at "any") | ((with_reducible apply iv_enumT) <;> walk_at "any") | ((with_reducible apply iv_enumT1) <;> walk_at "any")
  | ((with_reducible apply iv_zipL) <;> walk_at "any") | ((with_reducible apply iv_zipT) <;> walk_at "any"))
local macro_rules | `(tactic| walk_at "fm") => `(tactic| ((try rw [filter_tt]); first | rfl | (rw [List.map_map]; done) | (rw [List.map_map]; rfl) | (simp only [lI, tI, List.map_map]; done) | (simp only [lI, tI, List.map_map]; rfl)))


local macro_rules | `(tactic| walk_at "call") => `(tactic| (with_reducible apply ee__law_mixed) <;> walk_at "any")
local macro_rules | `(tactic| walk_at "call") => `(tactic| (with_reducible apply ee__law_rows) <;> walk_at "any")
local macro_rules | `(tactic| walk_at "call") => `(tactic| (with_reducible apply ee__law_do_clash) <;> walk_at "any")
local macro_rules | `(tactic| walk_at "call") => `(tactic| (with_reducible apply ee__law_due) <;> walk_at "any")
local macro_rules | `(tactic| walk_at "call") => `(tactic| (with_reducible apply ee__law_light) <;> walk_at "any")
local macro_rules | `(tactic| walk_at "call") => `(tactic| (with_reducible apply ee_all_halves) <;> walk_at "any")
local macro_rules | `(tactic| walk_at "call") => `(tactic| (with_reducible apply ee__law_is_int) <;> walk_at "any")
local macro_rules | `(tactic| walk_at "call") => `(tactic| (with_reducible apply ee__law_weight) <;> walk_at "any")
local macro_rules | `(tactic| walk_at "call") => `(tactic| (with_reducible apply ee__law_does_weigh) <;> walk_at "any")
local macro_rules | `(tactic| walk_at "call") => `(tactic| (with_reducible apply ee__law_are_halves) <;> walk_at "any")
local macro_rules | `(tactic| walk_at "call") => `(tactic| ((with_reducible apply ee_sortedP) <;> walk_at "any"))
local macro_rules | `(tactic| walk_at "call") => `(tactic| (with_reducible apply ee_by_names) <;> walk_at "any")
local macro_rules | `(tactic| walk_at "call") => `(tactic| (with_reducible apply ee_need_weighing) <;> walk_at "any")
local macro_rules | `(tactic| walk_at "call") => `(tactic| (with_reducible apply ee_rounded) <;> walk_at "any")
local macro_rules | `(tactic| walk_at "call") => `(tactic| (with_reducible apply ee_light_setting) <;> walk_at "any")
local macro_rules | `(tactic| walk_at "call") => `(tactic| (with_reducible apply ee_tidy_by) <;> walk_at "any")
local macro_rules | `(tactic| walk_at "call") => `(tactic| (with_reducible apply ee_halves_paper) <;> walk_at "any")
local macro_rules | `(tactic| walk_at "call") => `(tactic| (with_reducible apply ee_check_halves) <;> walk_at "any")
local macro_rules | `(tactic| walk_at "call") => `(tactic| (with_reducible apply ee_weighed_in) <;> walk_at "any")
local macro_rules | `(tactic| walk_at "call") => `(tactic| (with_reducible apply ee_need_bundle) <;> walk_at "any")
local macro_rules | `(tactic| walk_at "call") => `(tactic| (with_reducible apply ee_are_halves) <;> walk_at "any")
local macro_rules | `(tactic| walk_at "call") => `(tactic| (with_reducible apply ee_need_form) <;> walk_at "any")
local macro_rules | `(tactic| walk_at "call") => `(tactic| (with_reducible apply ee_greatest_of) <;> walk_at "any")
local macro_rules | `(tactic| walk_at "call") => `(tactic| (with_reducible apply ee_first_table) <;> walk_at "any")

local macro_rules | `(tactic| walk_at "call") => `(tactic| (with_reducible apply ee_turned_table) <;> walk_at "any")
local macro_rules | `(tactic| walk_at "call") => `(tactic| (with_reducible apply ee_do_clash) <;> walk_at "any")
local macro_rules | `(tactic| walk_at "call") => `(tactic| (with_reducible apply ee_is_row) <;> walk_at "any")
local macro_rules | `(tactic| walk_at "call") => `(tactic| (with_reducible apply ee_are_halves_of) <;> walk_at "any")
local macro_rules | `(tactic| walk_at "call") => `(tactic| (with_reducible apply ee_rounded_row) <;> walk_at "any")
local macro_rules | `(tactic| walk_at "call") => `(tactic| (with_reducible apply ee_rounded_rowL) <;> walk_at "any")
local macro_rules | `(tactic| walk_at "call") => `(tactic| (with_reducible apply ee_sign_in) <;> walk_at "any")
local macro_rules | `(tactic| walk_at "call") => `(tactic| (with_reducible apply ee_heft_at) <;> walk_at "any")
local macro_rules | `(tactic| walk_at "call") => `(tactic| (with_reducible apply ee_are_rising) <;> walk_at "any")
local macro_rules | `(tactic| walk_at "call") => `(tactic| (with_reducible apply ee_is_literal) <;> walk_at "any")
local macro_rules | `(tactic| walk_at "call") => `(tactic| (with_reducible apply ee_is_clause) <;> walk_at "any")
local macro_rules | `(tactic| walk_at "call") => `(tactic| (with_reducible apply ee_weight_of) <;> walk_at "any")
local macro_rules | `(tactic| walk_at "call") => `(tactic| (with_reducible apply ee_does_weigh) <;> walk_at "any")
local macro_rules | `(tactic| walk_at "call") => `(tactic| (with_reducible apply ee_is_integer) <;> walk_at "any")
local macro_rules | `(tactic| walk_at "call") => `(tactic| (with_reducible apply ee_is_between) <;> walk_at "any")
theorem cl1 {n : Nat} {a : Int} (h1 : 1 ≤ a.natAbs) (h2 : a.natAbs ≤ n) : IC.ClOk n [a] := ⟨fun l hl => by rw [List.mem_singleton.mp hl]; exact ⟨h1, h2⟩, List.pairwise_singleton _ _⟩
theorem cl2 {n : Nat} {a b : Int} (h1 : 1 ≤ a.natAbs) (h2 : a.natAbs < b.natAbs) (h3 : b.natAbs ≤ n) : IC.ClOk n [a, b] := ⟨fun l hl => by
  rcases List.mem_cons.mp hl with z | z
  · rw [z]; omega
  · rw [List.mem_singleton.mp z]; omega, by
  refine List.pairwise_cons.mpr ⟨fun x hx => ?_, List.pairwise_singleton _ _⟩
  rw [List.mem_singleton.mp hx]; exact h2⟩
/-- what is known so far: tuples of ints, each a clause -/
def KsOk (n b : Nat) (es : List (List Key × PyData)) : Prop := ∃ ks : List (List Int), es.map (·.1) = ks.map (fun k => k.map Sum.inl) ∧ ks.Nodup ∧ (∀ c ∈ ks, IC.ClOk n c) ∧ es.length ≤ b
theorem KsOk.mono {n b b' : Nat} {es : List (List Key × PyData)} (h : KsOk n b es) (hb : b ≤ b') : KsOk n b' es := by
  obtain ⟨ks, h1, h2, h3, h4⟩ := h
  exact ⟨ks, h1, h2, h3, Nat.le_trans h4 hb⟩
theorem inl_inj {a b : List Int} (h : a.map (Sum.inl : Int → Key) = b.map Sum.inl) : a = b := by
  have := congrArg (List.map fun k : Key => match k with | .inl i => i | .inr _ => 0) h
  rw [List.map_map, List.map_map] at this
  have e : ∀ l : List Int, l.map ((fun k : Key => match k with | .inl i => i | .inr _ => 0) ∘ Sum.inl) = l := fun l => List.map_id'' (fun _ => rfl) l
  rwa [e, e] at this
theorem putG_in {es : List (List Key × PyData)} {k : List Key} {d : PyData} (h : k ∈ es.map (·.1)) : (putG es k d).map (·.1) = es.map (·.1) := by
  unfold putG
  have ha : (es.any fun kv => decide (kv.1 = k)) = true := by
    obtain ⟨p, hp, e⟩ := List.mem_map.mp h
    exact List.any_eq_true.mpr ⟨p, hp, decide_eq_true e⟩
  rw [if_pos ha, List.map_map]
  refine List.map_congr_left fun p hp => ?_
  show (if p.1 = k then (p.1, d) else p).1 = p.1
  split <;> rfl
theorem putG_out {es : List (List Key × PyData)} {k : List Key} {d : PyData} (h : k ∉ es.map (·.1)) : (putG es k d).map (·.1) = es.map (·.1) ++ [k] := by
  unfold putG
  have ha : ¬ (es.any fun kv => decide (kv.1 = k)) = true := fun z => by
    obtain ⟨p, hp, e⟩ := List.any_eq_true.mp z
    exact h (List.mem_map.mpr ⟨p, hp, of_decide_eq_true e⟩)
  rw [if_neg ha, List.map_append]; rfl
theorem KsOk.put {n b : Nat} {es : List (List Key × PyData)} (h : KsOk n b es) {c : List Int} (hc : IC.ClOk n c) {d : PyData} : KsOk n (b + 1) (putG es (c.map Sum.inl : List Key) d) := by
  obtain ⟨ks, h1, h2, h3, h4⟩ := h
  by_cases hm : (c.map Sum.inl : List Key) ∈ es.map (·.1)
  · have e := putG_in (d := d) hm
    refine ⟨ks, e.trans h1, h2, h3, ?_⟩
    have := congrArg List.length e
    rw [List.length_map, List.length_map] at this
    omega
  · have e := putG_out (d := d) hm
    have hn : c ∉ ks := fun z => hm (by rw [h1]; exact List.mem_map.mpr ⟨c, z, rfl⟩)
    refine ⟨ks ++ [c], by rw [e, h1, List.map_append]; rfl, ?_, fun x hx => ?_, ?_⟩
    · exact List.nodup_append.mpr ⟨h2, List.pairwise_singleton _ _, fun a ha b hb => by
        rw [List.mem_singleton.mp hb]; exact fun e => hn (e ▸ ha)⟩
    · rcases List.mem_append.mp hx with z | z
      · exact h3 x z
      · rw [List.mem_singleton.mp z]; exact hc
    · have := congrArg List.length e
      rw [List.length_map, List.length_append, List.length_map] at this
      have e1 : [(c.map Sum.inl : List Key)].length = 1 := rfl
      omega
theorem bu_of {n : Nat} (hn : 1 ≤ n ∧ n ≤ 7) {ks out : List (List Int)} (h2 : ks.Nodup) (h3 : ∀ c ∈ ks, IC.ClOk n c) (hp : out.Perm ks) (hs : out.Pairwise fun x y => ¬ y < x) : BuOk n (out.take 16) := by
  refine ⟨⟨fun c hc => h3 c (hp.mem_iff.mp (List.mem_of_mem_take hc)), by rw [List.length_take]; exact Nat.min_le_left _ _, hn.1, hn.2⟩, fun j hj => ?_⟩
  have nd : out.Pairwise fun x y => x ≠ y := hp.nodup_iff.mpr h2
  have p2 : (out.take 16).Pairwise fun x y => x < y := ((List.pairwise_and_iff.mpr ⟨hs, nd⟩).imp fun {x y} h => by
    refine Classical.byContradiction fun z => h.2 ?_
    exact List.le_antisymm (List.not_lt.mp h.1) (List.not_lt.mp z)).sublist (List.take_sublist _ _)
  have := List.pairwise_iff_getElem.mp p2 j (j + 1) (by omega) hj (by omega)
  rw [List.getD_eq_getElem?_getD, List.getD_eq_getElem?_getD, List.getElem?_eq_getElem (by omega), List.getElem?_eq_getElem hj]
  exact this
def bundleD : DS := fun xs M Φ => ∃ (st l : Addr) (cs : List Int) (t : Int), xs = [.m st, .d (.int 5), .d (.int 6)] ∧ Stt M st l cs t ∧ t ≤ 800000000 ∧ ∀ (n : Nat) (bs : List (List Int)) (t' : Int) (M' : Mu), BuOk n bs → n ≤ 5 → t' ≤ t + 1000 → Stt M' st l cs t' → Fr2 M M' st l → Φ (.d (bun n bs)) M'
theorem bundleD_mono : ∀ xs M1 (Φ Φ' : S → Mu → Prop), bundleD xs M1 Φ → (∀ x M2, Φ x M2 → Φ' x M2) → bundleD xs M1 Φ' := fun xs M1 Φ Φ' ⟨st, l, cs, t, h1, h2, h3, h4⟩ mo => ⟨st, l, cs, t, h1, h2, h3, fun n bs t' M' a b c d e => mo _ _ (h4 n bs t' M' a b c d e)⟩
/-- the state within _law_bundle -/
def Mid (M : Mu) (st l ka : Addr) (cs : List Int) (n b : Nat) (top : Int) (M' : Mu) : Prop := ∃ (t' : Int) (es : List (List Key × PyData)), t' ≤ top ∧ Stt M' st l cs t' ∧ Fr2 M M' st l ∧ M' ka = some (.dT es) ∧ KsOk n b es
theorem sc50 : FnScope ["state", "most", "many", "names", "known", "k", "one", "other", "low", "high", "row"] ["state", "most", "many"] (defScope (top 50)) := ⟨rfl, rfl, rfl, by decide +kernel, rfl, by decide +kernel, by decide +kernel⟩
local macro_rules | `(tactic| walk_at "var") => `(tactic| first | ((with_reducible apply ee_varQ (x := "state") (i := 0)) <;> walk_at "vs") | ((with_reducible apply ee_varQ (x := "most") (i := 1)) <;> walk_at "vs") | ((with_reducible apply ee_varQ (x := "many") (i := 2)) <;> walk_at "vs") | ((with_reducible apply ee_varQ (x := "names") (i := 3)) <;> walk_at "vs") | ((with_reducible apply ee_varQ (x := "known") (i := 4)) <;> walk_at "vs") | ((with_reducible apply ee_varQ (x := "k") (i := 5)) <;> walk_at "vs") | ((with_reducible apply ee_varQ (x := "one") (i := 6)) <;> walk_at "vs") | ((with_reducible apply ee_varQ (x := "other") (i := 7)) <;> walk_at "vs") | ((with_reducible apply ee_varQ (x := "low") (i := 8)) <;> walk_at "vs") | ((with_reducible apply ee_varQ (x := "high") (i := 9)) <;> walk_at "vs") | ((with_reducible apply ee_varQ (x := "row") (i := 10)) <;> walk_at "vs"))
local macro_rules | `(tactic| walk_at "nd") => `(tactic| exact sc50.nd)
theorem ok__law_bundle (T : Txt K mg) : FnD P w K mg base 4 "_law_bundle" ["state", "most", "many"] bundleD := by
  refine fnd T 34 rfl rfl sc50 (fun _ _ _ _ _ _ us hl => match us, hl with | [_, _, _], _ => rfl) (fun xs M Φ h => ?_) (fun a cdv A outer s H E xs M Φ hr h => ?_)
  · obtain ⟨_, _, _, _, rfl, _⟩ := h
    rfl
  · obtain ⟨st, l, cs, t, rfl, hS, ht, q⟩ := h
    obtain ⟨live1, live2⟩ := hS.live
    refine ws_cons (w1_par (i := 3) (j := 4) (by rfl) (by walk_at "nd") (by rfl) (by rfl) (by decide) (by rfl) (by rfl) (by rfl) (by rfl) (av_cons (by rfl) (ev_bin (EE.ev (d := .int 1) ee_int (ev_call (ok__law_draw T) (hr.mono (by decide)) (by rfl) (by rfl) (by rfl) (EA_of (ea_consM (i := 0) (a := st) (by rfl) (by rfl) (by walk_at "vis") (by rfl) (ea_cons (d := .int 5) (by rfl) ?_ ea_nil)) ⟨st, l, _, cs, t, rfl, by decide, by decide, hS, by omega, fun r M1 r0 r1 S1 F1 => ⟨_, _, .int (1 + r), rfl, rfl, bv_add, av_cons (by rfl) (ev_dnewT fun ka hka => ea_nil _ _ ⟨rfl, ?_⟩)⟩⟩) drawD_mono (by decide))))))
    · walk_at "any"
    obtain ⟨n, hn⟩ : ∃ n : Nat, 1 + r = (n : Int) := ⟨(1 + r).toNat, by omega⟩
    rw [hn]
    have hn1 : 1 ≤ n := by omega
    have hn5 : n ≤ 5 := by omega
    obtain ⟨live3, live4⟩ := S1.live
    have n1 : ka ≠ st := fun e => live3 (by rw [← e]; exact hka)
    have n2 : ka ≠ l := fun e => live4 (by rw [← e]; exact hka)
    have hkM : ∀ b, b ≠ st → b ≠ l → M b ≠ none → b ≠ ka := fun b h1 h2 h3 e => h3 (by rw [← F1 b h1 h2 h3, e]; exact hka)
    have mid0 : Mid M st l ka cs n 0 (t + 1) (mup M1 ka (.dT [])) := ⟨t + 1, [], Int.le_refl _, S1.keep (mup_ne (Ne.symm n1)) (mup_ne (Ne.symm n2)), fun b h1 h2 h3 => by rw [mup_ne (hkM b h1 h2 h3)]; exact F1 b h1 h2 h3, mup_same, [], rfl, List.nodup_nil, fun c hc => (nomatch hc), Nat.le_refl _⟩
    generalize mup M1 ka (.dT []) = Ma at mid0
    -- one more key
    have putK : ∀ {b : Nat} {top : Int} {M' : Mu} {es : List (List Key × PyData)} {t' : Int} {c : List Int}, t' ≤ top → Stt M' st l cs t' → Fr2 M M' st l → M' ka = some (.dT es) → KsOk n b es → IC.ClOk n c → Mid M st l ka cs n (b + 1) top (mup M' ka (.dT (putG es (c.map Sum.inl : List Key) (.bool true)))) := fun h1 h2 h3 h4 h5 h6 =>
      ⟨_, _, h1, h2.keep (mup_ne (Ne.symm n1)) (mup_ne (Ne.symm n2)), fun b g1 g2 g3 => by rw [mup_ne (hkM b g1 g2 g3)]; exact h3 b g1 g2 g3, mup_same, h5.put h6⟩
    have draws : ∀ {b : Nat} {top : Int} {M' M2 : Mu} {es : List (List Key × PyData)} {t' : Int}, M' ka = some (.dT es) → Fr2 M' M2 st l → M2 ka = some (.dT es) := fun {b top M' M2 es t'} h1 h2 => by
      rw [h2 ka n1 n2 (by rw [h1]; exact fun e => (nomatch e))]; exact h1
    obtain ⟨ta, ea, ha1, ha2, ha3, ha4, ha5⟩ := mid0
    refine ws_cons (w1_forRgV (i := 5) (ev_call (ok__law_draw T) (hr.mono (by decide)) (by rfl) (by rfl) (by rfl) (EA_of (ea_consM (i := 0) (a := st) (by rfl) (by rfl) (by walk_at "vis") (by rfl) (ea_cons (d := .int (6 + 1)) (by rfl) ?_ ea_nil)) ⟨st, l, _, cs, ta, rfl, by decide, by decide, ha2, by omega, fun r2 M2 r20 r21 S2 F2 => ?_⟩) drawD_mono (by decide)) (by rfl) (by walk_at "mg") (by rfl) (by walk_at "nd") (by rfl) (by walk_at "loc") (by walk_at "locf") PassesOwn.never (by rfl) (fun _ => by rfl))
    · walk_at "any"
    refine ⟨r2.toNat, fun j δ' M' => Mid M st l ka cs n j (t + 2 + 20 * (j : Int)) M' ∧ ∃ u, δ' = [some (.m st), some (.d (.int 5)), some (.d (.int 6)), some (.d (.int (n : Int))), some (.m ka), u, none, none, none, none, none], by rw [Int.toNat_of_nonneg r20], by omega, ⟨⟨_, _, by omega, S2, ha3.trans F2, draws (b := 0) (top := 0) (t' := 0) ha4 F2, ha5⟩, none, rfl⟩, ?_, ?_⟩
    · rintro j δ' M' hj ⟨⟨t', es, h1, h2, h3, h4, h5⟩, u, rfl⟩
      refine ws_cons (w1_dputT (hu_of hr) (by rfl) (EE.ev (d := .bool true) ee_bl (ev_var (i := 4) (by rfl) (by walk_at "vis") (by rfl) (ev_call (ok__law_clause T) (hr.mono (by decide)) (by rfl) (by rfl) (by rfl) (EA_of (ea_consM (i := 0) (a := st) (by rfl) (by rfl) (by walk_at "vis") (by rfl) (ea_cons (d := nI n) (by rfl) ?_ ea_nil)) ⟨st, l, n, cs, t', rfl, hn1, by omega, h2, by omega, fun c t2 M3 hc ht2 S3 F3 => ⟨.bool true, ka, es, c, rfl, rfl, rfl, draws (b := 0) (top := 0) (t' := 0) h4 F3, ?_, ws_nil ⟨?_, _, rfl⟩⟩⟩) clauseD_mono (by decide)))))
      · walk_at "any"
      · obtain ⟨_, _, _, _, hl⟩ := h5; omega
      · exact putK (by omega) S3 (h3.trans F3) (draws (b := 0) (top := 0) (t' := 0) h4 F3) h5 hc
    rintro δ' M' ⟨mid1, u, rfl⟩
    have mid1 : Mid M st l ka cs n 10 (t + 200) M' := by
      obtain ⟨t', es, h1, h2, h3, h4, h5⟩ := mid1
      exact ⟨t', es, by omega, h2, h3, h4, h5.mono (by omega)⟩
    obtain ⟨tb, eb, hb1, hb2, hb3, hb4, hb5⟩ := mid1
    have rest : ∀ (u : Option S) (Mb : Mu), Mid M st l ka cs n 11 (t + 201) Mb → WS (Xj P w K mg base ["state", "most", "many", "names", "known", "k", "one", "other", "low", "high", "row"] "_law_bundle" 50 a cdv A outer s H E) ((defBody (top 50)).drop 3) [some (.m st), some (.d (.int 5)), some (.d (.int 6)), some (.d (.int (n : Int))), some (.m ka), u, none, none, none, none, none] Mb { nx := fun _ M' => Φ (.d .none) M', rt := Φ } := fun u Mb mid => by
      obtain ⟨tb, eb, hb1, hb2, hb3, hb4, hb5⟩ := mid
      refine ws_cons (w1_forRgV (i := 5) (ev_call (ok__law_draw T) (hr.mono (by decide)) (by rfl) (by rfl) (by rfl) (EA_of (ea_consM (i := 0) (a := st) (by rfl) (by rfl) (by walk_at "vis") (by rfl) (ea_cons (d := .int 3) (by rfl) ?_ ea_nil)) ⟨st, l, _, cs, tb, rfl, by decide, by decide, hb2, by omega, fun r2 M2 r20 r21 S2 F2 => ?_⟩) drawD_mono (by decide)) (by rfl) (by walk_at "mg") (by rfl) (by walk_at "nd") (by rfl) (by walk_at "loc") (by walk_at "locf") PassesOwn.never (by rfl) (fun _ => by rfl))
      · walk_at "any"
      refine ⟨r2.toNat, fun j δ' M' => Mid M st l ka cs n (11 + 4 * j) (t + 202 + 2 * (j : Int)) M' ∧ ∃ u1 u2 u3 u4 u5 u6, δ' = [some (.m st), some (.d (.int 5)), some (.d (.int 6)), some (.d (.int (n : Int))), some (.m ka), u1, u2, u3, u4, u5, u6], by rw [Int.toNat_of_nonneg r20], by omega, ⟨⟨_, _, by omega, S2, hb3.trans F2, draws (b := 0) (top := 0) (t' := 0) hb4 F2, hb5⟩, u, none, none, none, none, none, rfl⟩, ?_, ?_⟩
      · rintro j δ' M' hj ⟨⟨t', es, h1, h2, h3, h4, h5⟩, u1, u2, u3, u4, u5, u6, rfl⟩
        refine ws_cons (w1_par (i := 6) (j := 7) (by rfl) (by walk_at "nd") (by rfl) (by rfl) (by decide) (by rfl) (by rfl) (by rfl) (by rfl) (av_cons (by rfl) (ev_bin (EE.ev (d := .int 1) ee_int (ev_call (ok__law_draw T) (hr.mono (by decide)) (by rfl) (by rfl) (by rfl) (EA_of (ea_consM (i := 0) (a := st) (by rfl) (by rfl) (by walk_at "vis") (by rfl) (ea_cons (d := .int (n : Int)) (by rfl) ?_ ea_nil)) ⟨st, l, _, cs, t', rfl, by omega, by omega, h2, by omega, fun r3 M3 r30 r31 S3 F3 => ⟨_, _, .int (1 + r3), rfl, rfl, bv_add, av_cons (by rfl) (ev_bin (EE.ev (d := .int 1) ee_int (ev_call (ok__law_draw T) (hr.mono (by decide)) (by rfl) (by rfl) (by rfl) (EA_of (ea_consM (i := 0) (a := st) (by rfl) (by rfl) (by walk_at "vis") (by rfl) (ea_cons (d := .int (n : Int)) (by rfl) ?_ ea_nil)) ⟨st, l, _, cs, t' + 1, rfl, by omega, by omega, S3, by omega, fun r4 M4 r40 r41 S4 F4 => ⟨_, _, .int (1 + r4), rfl, rfl, bv_add, ea_nil _ _ ⟨rfl, ?_⟩⟩⟩) drawD_mono (by decide))))⟩⟩) drawD_mono (by decide))))))
        · walk_at "any"
        · walk_at "any"
        have k3 := draws (b := 0) (top := 0) (t' := 0) (draws (b := 0) (top := 0) (t' := 0) h4 F3) F4
        have f3 := (h3.trans F3).trans F4
        have l5 : es.length < 500 := by obtain ⟨_, _, _, _, hl⟩ := h5; omega
        refine ws_cons (w1_ifE (p := decide (1 + r3 = 1 + r4)) ?_ (fun he => ?_) (fun he => ?_))
        · walk_at "gb"
        · have c1 : IC.ClOk n [1 + r3] := cl1 (by omega) (by omega)
          have c2 : IC.ClOk n [0 - (1 + r3)] := cl1 (by omega) (by omega)
          refine ws_cons (w1_dputT (hu_of hr) (by rfl) (EE.ev (d := .bool true) ee_bl (ev_var (i := 4) (by rfl) (by walk_at "vis") (by rfl) (EE.ev (d := tI [1 + r3]) (ee_tup1 (d0 := .int (1 + r3)) ?_ (by rfl)) ⟨.bool true, ka, es, [1 + r3], rfl, rfl, rfl, k3, by omega, ?_⟩))))
          · walk_at "any"
          have m1 := putK (top := t' + 2) (by omega) S4 f3 k3 h5 c1
          obtain ⟨t5, e5, g1, g2, g3, g4, g5⟩ := m1
          have l6 : e5.length < 600 := by obtain ⟨_, _, _, _, hl⟩ := g5; omega
          refine ws_cons (w1_dputT (hu_of hr) (by rfl) (EE.ev (d := .bool true) ee_bl (ev_var (i := 4) (by rfl) (by walk_at "vis") (by rfl) (EE.ev (d := tI [0 - (1 + r3)]) (ee_tup1 (d0 := .int (0 - (1 + r3))) ?_ (by rfl)) ⟨.bool true, ka, e5, [0 - (1 + r3)], rfl, rfl, rfl, g4, by omega, ws_nil (ws_nil ⟨?_, _, _, _, _, _, _, rfl⟩)⟩))))
          · walk_at "any"
          · obtain ⟨t6, e6, q1, q2, q3, q4, q5⟩ := putK g1 g2 g3 g4 g5 c2
            exact ⟨t6, e6, by omega, q2, q3, q4, q5.mono (by omega)⟩
        · have he := of_decide_eq_false he
          refine ws_cons (w1_par (i := 8) (j := 9) (by rfl) (by walk_at "nd") (by rfl) (by rfl) (by decide) (by rfl) (by rfl) (by rfl) (by rfl) (EA_of (ea_cons (d := .int (if 1 + r4 < 1 + r3 then 1 + r4 else 1 + r3)) (by rfl) ?_ (ea_cons (d := .int (if 1 + r4 > 1 + r3 then 1 + r4 else 1 + r3)) (by rfl) ?_ ea_nil)) ⟨rfl, ?_⟩))
          · walk_at "any"
          · walk_at "any"
          have hlo : ∃ lo : Int, (if 1 + r4 < 1 + r3 then 1 + r4 else 1 + r3) = lo := ⟨_, rfl⟩
          have hhi : ∃ hi : Int, (if 1 + r4 > 1 + r3 then 1 + r4 else 1 + r3) = hi := ⟨_, rfl⟩
          obtain ⟨lo, elo⟩ := hlo
          obtain ⟨hi, ehi⟩ := hhi
          have hlh : 1 ≤ lo ∧ lo < hi ∧ hi ≤ n := by
            rw [← elo, ← ehi]
            split <;> split <;> omega
          rw [elo, ehi]
          refine ws_cons (w1_forN (i := 10) (fun i δ2 M2 => Mid M st l ka cs n (11 + 4 * j + i) (t' + 2) M2 ∧ ∃ w1, δ2 = [some (.m st), some (.d (.int 5)), some (.d (.int 6)), some (.d (.int (n : Int))), some (.m ka), some (.d (.int (0 + (j : Int)))), some (.d (.int (1 + r3))), some (.d (.int (1 + r4))), some (.d (.int lo)), some (.d (.int hi)), w1]) (ds := [tI [lo, hi], tI [lo, 0 - hi], tI [0 - lo, hi], tI [0 - lo, 0 - hi]]) (iv_tup (EE.to (d := .tuple [.tuple [.int lo, .int hi], .tuple [.int lo, .int (0 - hi)], .tuple [.int (0 - lo), .int hi], .tuple [.int (0 - lo), .int (0 - hi)]]) ?_ rfl)) ⟨⟨_, _, by omega, S4, f3, k3, h5⟩, u6, rfl⟩ ?_ ?_ (by walk_at "nd") (by rfl) (by walk_at "loc") (by walk_at "locf") PassesOwn.never (by rfl) (fun _ => by rfl))
          · walk_at "any"
          · rintro i d δ2 M5 hd ⟨⟨t5, e5, g1, g2, g3, g4, g5⟩, w1, rfl⟩
            obtain ⟨c, rfl, hc⟩ : ∃ c : List Int, d = tI c ∧ IC.ClOk n c := by
              have hm := List.mem_of_getElem? hd
              rcases List.mem_cons.mp hm with z | hm
              · exact ⟨_, z, cl2 (by omega) (by omega) (by omega)⟩
              rcases List.mem_cons.mp hm with z | hm
              · exact ⟨_, z, cl2 (by omega) (by omega) (by omega)⟩
              rcases List.mem_cons.mp hm with z | hm
              · exact ⟨_, z, cl2 (by omega) (by omega) (by omega)⟩
              · exact ⟨_, List.mem_singleton.mp hm, cl2 (by omega) (by omega) (by omega)⟩
            have hi4 : i < 4 := (List.getElem?_eq_some_iff.mp hd).1
            have l6 : e5.length < 600 := by obtain ⟨_, _, _, _, hl⟩ := g5; omega
            refine ws_cons (w1_dputT (hu_of hr) (by rfl) (EE.ev (d := .bool true) ee_bl (ev_var (i := 4) (by rfl) (by walk_at "vis") (by rfl) (EE.ev (d := tI c) ?_ ⟨.bool true, ka, e5, c, rfl, rfl, rfl, g4, by omega, ws_nil ⟨putK g1 g2 g3 g4 g5 hc, _, rfl⟩⟩))))
            walk_at "any"
          · rintro δ2 M5 ⟨⟨t5, e5, g1, g2, g3, g4, g5⟩, w1, rfl⟩
            exact ws_nil (ws_nil ⟨⟨t5, e5, by omega, g2, g3, g4, g5.mono (by show 11 + 4 * j + 4 ≤ _; omega)⟩, _, _, _, _, _, _, rfl⟩)
      · rintro δ' M' ⟨⟨t', es, h1, h2, h3, h4, ks, k1, k2, k3, k4⟩, u1, u2, u3, u4, u5, u6, rfl⟩
        refine ws_cons (w1_ret (ev_tup (av_cons (by rfl) (EE.ev (d := .int (n : Int)) ?_ (av_cons (by rfl) (ev_callT (T := "tuple") (by rfl) (by walk_at "mg") (by decide +kernel) (by rfl) (by rfl) (av_cons (by rfl) (ev_slL (ev_sortedDT (i := 4) k1 h4 (by rfl) (fun out p1 p2 => ?_) (by rfl) hr.units (by rfl) (by walk_at "mg") (by rfl) (by walk_at "vis") (by rfl) (by decide) (by decide))))))))))
        · walk_at "any"
        refine ⟨out.map tI, none, some 16, rfl, eo_none, eo_some ee_int, ea_nil _ _ ⟨[.list ((out.take 16).map tI)], .tuple ((out.take 16).map tI), ?_, cv_tupL, ea_nil _ _ ⟨[.int (n : Int), .tuple ((out.take 16).map tI)], rfl, (by decide : 2 ≤ 100000), q n (out.take 16) t' M' (bu_of ⟨hn1, by omega⟩ k2 k3 p1 p2) hn5 ?_ h2 h3⟩⟩⟩
        · have e := cut_to (ds := out.map tI) (k := 16)
          rw [show cutD (out.map tI) none (some 16) = (out.map tI).take 16 from e, List.map_take]; rfl
        · omega
    refine ws_cons (w1_if (tv_cmp (by rfl) (ev_call (ok__law_draw T) (hr.mono (by decide)) (by rfl) (by rfl) (by rfl) (EA_of (ea_consM (i := 0) (a := st) (by rfl) (by rfl) (by walk_at "vis") (by rfl) (ea_cons (d := .int 12) (by rfl) ?_ ea_nil)) ⟨st, l, _, cs, tb, rfl, by decide, by decide, hb2, by omega, fun r7 M7 r70 r71 S7 F7 => EE.ev (d := .int 0) ee_int ⟨_, _, decide (r7 = 0), rfl, rfl, bv_eqI, fun _ => ws_cons ?_, fun _ => ?_⟩⟩) drawD_mono (by decide))))
    · walk_at "any"
    · have hl : eb.length ≤ 10 := by
        obtain ⟨_, _, _, _, hl⟩ := hb5
        exact hl
      have kk := draws (b := 0) (top := 0) (t' := 0) hb4 F7
      refine w1_dputT (hu_of hr) (by rfl) (EE.ev (d := .bool true) ee_bl (ev_var (i := 4) (by rfl) (by walk_at "vis") (by rfl) (EE.ev (d := tI []) ee_tup0 ⟨.bool true, ka, eb, [], rfl, rfl, rfl, kk, by omega, ws_nil (rest _ _ ?_)⟩)))
      exact putK (by omega) S7 (hb3.trans F7) kk hb5 ⟨fun l hl => (nomatch hl), .nil⟩
    · exact ws_nil (rest _ _ ⟨_, _, by omega, S7, hb3.trans F7, draws (b := 0) (top := 0) (t' := 0) hb4 F7, hb5.mono (by decide)⟩)
end
end KP
namespace KP
open PySem PySem.Spec PyProof.Rows L2 DL
section
variable {P : Program} {w : World} {K : PySem.W.Frag} {mg : Str → Option Value} {base : Heap}
/-! steps -/
local macro_rules | `(tactic| walk_at "vis") => `(tactic| first | exact vis_l (by rfl) | exact vis_c (by rfl) | exact vis_f (by rfl))
local macro_rules | `(tactic| walk_at "vs") => `(tactic| first | rfl | (walk_at "vis") | decide)
local macro_rules | `(tactic| walk_at "mg") => `(tactic| exact z_of (by assumption) (by decide +kernel))
local macro_rules | `(tactic| walk_at "var") => `(tactic| fail)
local macro_rules | `(tactic| walk_at "glo") => `(tactic| first | exact ee_names (by assumption) (by rfl) (by rfl) | exact ee_clauses (by assumption) (by rfl) (by rfl) | exact ee_halvesS (by assumption) (by rfl) (by rfl) | exact ee_clashS (by assumption) (by rfl) (by rfl))
local macro_rules | `(tactic| walk_at "side") => `(tactic| first | assumption | ((with_reducible apply atI_litG); rfl) | ((fail_if_success (with_reducible apply atI_litG)); skip))
local macro_rules | `(tactic| walk_at "call") => `(tactic| fail)
local macro_rules | `(tactic| walk_at "bv") => `(tactic| first
  | (with_reducible apply bv_gB); first
    | (with_reducible exact bv_add) | (with_reducible exact bv_sub) | (with_reducible apply bv_mulS; walk_at "side") | (with_reducible apply bv_divS; walk_at "side") | (with_reducible apply bv_mod; walk_at "side") | (with_reducible apply bv_powS; walk_at "side")
    | (with_reducible apply bv_cat <;> walk_at "side") | (with_reducible apply bv_rep1 <;> walk_at "side") | (with_reducible apply bv_rep <;> walk_at "side") | (with_reducible apply bv_catT <;> walk_at "side")
  | (with_reducible apply bv_gC); first
    | (with_reducible exact bv_lt) | (with_reducible exact bv_le) | (with_reducible exact bv_gt) | (with_reducible exact bv_ge) | (with_reducible exact bv_eqI) | (with_reducible exact bv_neI) | (with_reducible exact bv_eqS) | (with_reducible exact bv_neS) | (with_reducible exact bv_isNone) | (with_reducible exact bv_inT) | (with_reducible exact bv_notin2)
    | (with_reducible apply bv_eqD <;> walk_at "side") | (with_reducible apply bv_neD <;> walk_at "side") | (with_reducible apply bv_inD <;> walk_at "side"))
local macro_rules | `(tactic| walk_at "any") => `(tactic| first
  | (with_reducible apply ee_id); walk_at "go"
  | (with_reducible apply ea_id); first | (with_reducible exact ea_nil) | ((with_reducible apply ea_cons) <;> walk_at "any")
  | (with_reducible apply eb_id); walk_at "gb"
  | (with_reducible apply ew_id); walk_at "gw"
  | (with_reducible apply eo_id); first | (with_reducible exact eo_none) | (apply eo_some; walk_at "go")
  | (with_reducible apply bv_id); walk_at "bv"
  | (fail_if_success (with_reducible apply ee_id)); (fail_if_success (with_reducible apply ea_id)); (fail_if_success (with_reducible apply eb_id)); (fail_if_success (with_reducible apply ew_id)); (fail_if_success (with_reducible apply bv_id)); first
    | (intro _; walk_at "any")
    | rfl | (walk_at "mg") | decide | (intro _; rfl) | (intro _ _; rfl) | (walk_at "side"))
local macro_rules | `(tactic| walk_at "gb") => `(tactic| first
  | (with_reducible apply eb_not); walk_at "gb"
  | (with_reducible apply eb_cmp) <;> walk_at "any"
  | (with_reducible apply EW.eb); walk_at "gw"
  | (apply eb_val) <;> walk_at "any")
local macro_rules | `(tactic| walk_at "gw") => `(tactic| first
  | (with_reducible apply ew_and) <;> walk_at "any"
  | (with_reducible apply ew_or) <;> walk_at "any"
  | (with_reducible apply ew_and1); walk_at "gb"
  | (with_reducible apply ew_or1); walk_at "gb")
local macro_rules | `(tactic| walk_at "go") => `(tactic| first
  | (with_reducible apply ee_nm); first | walk_at "var" | walk_at "glo"
  | (with_reducible apply g_const); first | (with_reducible exact ee_int) | (with_reducible exact ee_str) | (with_reducible exact ee_bl) | (with_reducible exact ee_non)
  | (with_reducible apply g_call); first
    | (with_reducible apply g_call1); first | ((with_reducible apply ee_lenL) <;> walk_at "any") | ((with_reducible apply ee_lenT) <;> walk_at "any") | ((with_reducible apply ee_intIN) <;> walk_at "any") | ((with_reducible apply ee_intBN) <;> walk_at "any") | ((with_reducible apply ee_tupN) <;> walk_at "any") | ((with_reducible apply ee_absN) <;> walk_at "any") | ((with_reducible apply ee_sumN) <;> walk_at "any") | ((with_reducible apply ee_sumTN) <;> walk_at "any") | ((with_reducible apply ee_allN) <;> walk_at "any") | ((with_reducible apply ee_lstN) <;> walk_at "any") | walk_at "call"
    | (with_reducible apply g_call2); first | ((with_reducible apply ee_isInt) <;> walk_at "any") | ((with_reducible apply ee_isBool) <;> walk_at "any") | ((with_reducible apply ee_isTup) <;> walk_at "any") | ((with_reducible apply ee_isStr) <;> walk_at "any") | ((with_reducible apply ee_minN) <;> walk_at "any") | ((with_reducible apply ee_maxN) <;> walk_at "any") | walk_at "call"
    | walk_at "call"
  | ((with_reducible apply ee_bin) <;> walk_at "any")
  | (with_reducible apply g_cmp); first | ((with_reducible apply ee_cmp) <;> walk_at "any") | ((with_reducible apply ee_chain) <;> walk_at "any")
  | (with_reducible apply g_sub); first | ((with_reducible apply ee_slL) <;> walk_at "any") | ((with_reducible apply ee_cell) <;> walk_at "any") | ((with_reducible apply ee_ixT) <;> walk_at "any") | ((with_reducible apply ee_ixL) <;> walk_at "any")
  | (with_reducible apply g_un); first | ((with_reducible apply ee_not); walk_at "go") | (with_reducible exact ee_neg)
  | (with_reducible apply g_bool); first | ((with_reducible apply ee_and) <;> walk_at "any") | ((with_reducible apply ee_or) <;> walk_at "any") | ((with_reducible apply ee_and1) <;> walk_at "any")
  | (with_reducible apply g_if); first | ((with_reducible apply ee_ifI) <;> walk_at "any") | ((with_reducible apply ee_if) <;> walk_at "any")
  | (with_reducible apply g_lst); first | ((with_reducible apply ee_lst0) <;> walk_at "any") | ((with_reducible apply ee_lst1) <;> walk_at "any") | ((with_reducible apply ee_lst2) <;> walk_at "any") | ((with_reducible apply ee_lst3) <;> walk_at "any") | ((with_reducible apply ee_lst4) <;> walk_at "any")
  | (with_reducible apply g_tup); first | ((with_reducible apply ee_tup0) <;> walk_at "any") | ((with_reducible apply ee_tup1) <;> walk_at "any") | ((with_reducible apply ee_tup2) <;> walk_at "any") | ((with_reducible apply ee_tup3) <;> walk_at "any") | ((with_reducible apply ee_tup4) <;> walk_at "any"))
local macro_rules | `(tactic| walk_at "loc") => `(tactic| first | exact .inl (by rfl) | exact .inr (by rfl))
local macro_rules | `(tactic| walk_at "locf") => `(tactic| first | exact .inr (by rfl) | exact .inl (by rfl))
local macro_rules | `(tactic| walk_at "iv") => `(tactic| first
  | ((with_reducible apply iv_tup); walk_at "go") | ((with_reducible apply iv_list); walk_at "go")
  | ((with_reducible apply iv_range) <;> walk_at "any") | ((with_reducible apply iv_range2) <;> walk_at "any")
  | ((with_reducible apply iv_enumL) <;> walk_at "any") | ((with_reducible apply iv_enumT) <;> walk_at "any") | ((with_reducible apply iv_enumT1) <;> walk_at "any")
  | ((with_reducible apply iv_zipL) <;> walk_at "any") | ((with_reducible apply iv_zipT) <;> walk_at "any"))
local macro_rules | `(tactic| walk_at "fm") => `(tactic| ((try rw [filter_tt]); first | rfl | (rw [List.map_map]; done) | (rw [List.map_map]; rfl) | (simp only [lI, tI, List.map_map]; done) | (simp only [lI, tI, List.map_map]; rfl)))



local macro_rules | `(tactic| walk_at "call") => `(tactic| (with_reducible apply ee__law_mixed) <;> walk_at "any")
local macro_rules | `(tactic| walk_at "call") => `(tactic| (with_reducible apply ee__law_rows) <;> walk_at "any")
local macro_rules | `(tactic| walk_at "call") => `(tactic| (with_reducible apply ee__law_do_clash) <;> walk_at "any")
local macro_rules | `(tactic| walk_at "call") => `(tactic| (with_reducible apply ee__law_due) <;> walk_at "any")
local macro_rules | `(tactic| walk_at "call") => `(tactic| (with_reducible apply ee__law_light) <;> walk_at "any")
local macro_rules | `(tactic| walk_at "call") => `(tactic| (with_reducible apply ee_all_halves) <;> walk_at "any")
local macro_rules | `(tactic| walk_at "call") => `(tactic| (with_reducible apply ee__law_is_int) <;> walk_at "any")
local macro_rules | `(tactic| walk_at "call") => `(tactic| (with_reducible apply ee__law_weight) <;> walk_at "any")
local macro_rules | `(tactic| walk_at "call") => `(tactic| (with_reducible apply ee__law_does_weigh) <;> walk_at "any")
local macro_rules | `(tactic| walk_at "call") => `(tactic| (with_reducible apply ee__law_are_halves) <;> walk_at "any")
local macro_rules | `(tactic| walk_at "call") => `(tactic| ((with_reducible apply ee_sortedP) <;> walk_at "any"))
local macro_rules | `(tactic| walk_at "call") => `(tactic| (with_reducible apply ee_by_names) <;> walk_at "any")
local macro_rules | `(tactic| walk_at "call") => `(tactic| (with_reducible apply ee_need_weighing) <;> walk_at "any")
local macro_rules | `(tactic| walk_at "call") => `(tactic| (with_reducible apply ee_rounded) <;> walk_at "any")
local macro_rules | `(tactic| walk_at "call") => `(tactic| (with_reducible apply ee_light_setting) <;> walk_at "any")
local macro_rules | `(tactic| walk_at "call") => `(tactic| (with_reducible apply ee_tidy_by) <;> walk_at "any")
local macro_rules | `(tactic| walk_at "call") => `(tactic| (with_reducible apply ee_halves_paper) <;> walk_at "any")
local macro_rules | `(tactic| walk_at "call") => `(tactic| (with_reducible apply ee_check_halves) <;> walk_at "any")
local macro_rules | `(tactic| walk_at "call") => `(tactic| (with_reducible apply ee_weighed_in) <;> walk_at "any")
local macro_rules | `(tactic| walk_at "call") => `(tactic| (with_reducible apply ee_need_bundle) <;> walk_at "any")
local macro_rules | `(tactic| walk_at "call") => `(tactic| (with_reducible apply ee_are_halves) <;> walk_at "any")
local macro_rules | `(tactic| walk_at "call") => `(tactic| (with_reducible apply ee_need_form) <;> walk_at "any")
local macro_rules | `(tactic| walk_at "call") => `(tactic| (with_reducible apply ee_greatest_of) <;> walk_at "any")
local macro_rules | `(tactic| walk_at "call") => `(tactic| (with_reducible apply ee_first_table) <;> walk_at "any")

local macro_rules | `(tactic| walk_at "call") => `(tactic| (with_reducible apply ee_turned_table) <;> walk_at "any")
local macro_rules | `(tactic| walk_at "call") => `(tactic| (with_reducible apply ee_do_clash) <;> walk_at "any")
local macro_rules | `(tactic| walk_at "call") => `(tactic| (with_reducible apply ee_is_row) <;> walk_at "any")
local macro_rules | `(tactic| walk_at "call") => `(tactic| (with_reducible apply ee_are_halves_of) <;> walk_at "any")
local macro_rules | `(tactic| walk_at "call") => `(tactic| (with_reducible apply ee_rounded_row) <;> walk_at "any")
local macro_rules | `(tactic| walk_at "call") => `(tactic| (with_reducible apply ee_rounded_rowL) <;> walk_at "any")
local macro_rules | `(tactic| walk_at "call") => `(tactic| (with_reducible apply ee_sign_in) <;> walk_at "any")
local macro_rules | `(tactic| walk_at "call") => `(tactic| (with_reducible apply ee_heft_at) <;> walk_at "any")
local macro_rules | `(tactic| walk_at "call") => `(tactic| (with_reducible apply ee_are_rising) <;> walk_at "any")
local macro_rules | `(tactic| walk_at "call") => `(tactic| (with_reducible apply ee_is_literal) <;> walk_at "any")
local macro_rules | `(tactic| walk_at "call") => `(tactic| (with_reducible apply ee_is_clause) <;> walk_at "any")
local macro_rules | `(tactic| walk_at "call") => `(tactic| (with_reducible apply ee_weight_of) <;> walk_at "any")
local macro_rules | `(tactic| walk_at "call") => `(tactic| (with_reducible apply ee_does_weigh) <;> walk_at "any")
local macro_rules | `(tactic| walk_at "call") => `(tactic| (with_reducible apply ee_is_integer) <;> walk_at "any")
local macro_rules | `(tactic| walk_at "call") => `(tactic| (with_reducible apply ee_is_between) <;> walk_at "any")
theorem mul_lt_iff {a b c : Int} (h : 1 ≤ c) : (a * c < b * c) ↔ a < b := ⟨fun z => Int.lt_of_mul_lt_mul_right z (by omega), fun z => Int.mul_lt_mul_of_pos_right z (by omega)⟩
theorem mul_le_iff {a b c : Int} (h : 1 ≤ c) : (a * c ≤ b * c) ↔ a ≤ b := ⟨fun z => Int.le_of_mul_le_mul_right z (by omega), fun z => Int.mul_le_mul_of_nonneg_right z (by omega)⟩
def byR (b : Int) (row : List Int) : List Int := row.map fun x => x * b
theorem rnd_by {v x b : Int} (h : 1 ≤ b) : IC.rnd (v * b) (x * b) = IC.rnd v x := by
  unfold IC.rnd
  rw [← Int.mul_assoc, decide_eq_decide.mpr (mul_lt_iff h), decide_eq_decide.mpr (mul_lt_iff h)]
theorem round_by {v b : Int} {row : List Int} (h : 1 ≤ b) : IC.roundRow (v * b) (byR b row) = IC.roundRow v row := by
  unfold IC.roundRow byR
  rw [List.map_map]
  exact List.map_congr_left fun x _ => rnd_by h
theorem getD_by {b : Int} {row : List Int} {i : Nat} : (byR b row).getD i 0 = row.getD i 0 * b := by
  unfold byR
  rw [List.getD_eq_getElem?_getD, List.getD_eq_getElem?_getD, List.getElem?_map]
  cases row[i]? with
  | none => show (0 : Int) = 0 * b; omega
  | some x => rfl
theorem weight_by {v b l : Int} {row : List Int} : IC.weight (v * b) (byR b row) l = IC.weight v row l * b := by
  unfold IC.weight
  by_cases h : 0 < l
  · rw [if_pos h, if_pos h, getD_by]
  · rw [if_neg h, if_neg h, getD_by, Int.sub_mul]
theorem heavy_by {v b : Int} {row : List Int} : ∀ {c : List Int}, IC.heavy (v * b) (byR b row) c = IC.heavy v row c * b
  | [] => by show (0 : Int) = 0 * b; omega
  | l :: c => by
    have ih := heavy_by (v := v) (b := b) (row := row) (c := c)
    unfold IC.heavy at ih ⊢
    rw [List.map_cons, List.map_cons, List.sum_cons, List.sum_cons, ih, weight_by, Int.add_mul]
theorem does_by {v b : Int} {row : List Int} {cs : List (List Int)} (h : 1 ≤ b) : IC.doesW (v * b) (byR b row) cs = IC.doesW v row cs := by
  unfold IC.doesW
  congr 1
  funext c
  rw [heavy_by, decide_eq_decide.mpr (mul_le_iff h)]
theorem row_by {n : Nat} {v b : Int} {row : List Int} (h : 1 ≤ b) (hr : IC.isRow n v row = true) : IC.isRow n (v * b) (byR b row) = true := by
  have h1 := Bool.and_eq_true_iff.mp hr
  refine Bool.and_eq_true_iff.mpr ⟨decide_eq_true (by unfold byR; rw [List.length_map]; exact of_decide_eq_true h1.1), List.all_eq_true.mpr fun x hx => ?_⟩
  obtain ⟨y, hy, rfl⟩ := List.mem_map.mp hx
  obtain ⟨g1, g2⟩ := IC.between_iff.mp (List.all_eq_true.mp h1.2 y hy)
  exact IC.between_iff.mpr ⟨Int.mul_nonneg g1 (by omega), (mul_le_iff h).mpr g2⟩
theorem rows_isRow {n m : Nat} {r : List Int} (h : r ∈ rowsN (m + 1) n) : IC.isRow n m r = true := by
  obtain ⟨a, b⟩ := rowsN_at h
  refine Bool.and_eq_true_iff.mpr ⟨decide_eq_true a, List.all_eq_true.mpr fun x hx => IC.between_iff.mpr ?_⟩
  have := b x hx
  omega
theorem round_small {v : Int} {row : List Int} : ∀ x ∈ IC.roundRow v row, -8 ≤ x ∧ x ≤ 8 := fun x hx => by
  obtain ⟨y, _, rfl⟩ := List.mem_map.mp hx
  have := IC.rnd_cases v y
  omega
theorem sm_row {r : List Int} {n : Nat} (h : ∀ x ∈ r, -8 ≤ x ∧ x ≤ 8) (hn : r.length ≤ n) : Sm 1 (n * 5) (tI r) := sm_tuple (k := 0) (v := 4) (fun d hd => by
  obtain ⟨i, hi, rfl⟩ := List.mem_map.mp hd
  exact sm_int (h i hi)) (by rw [List.length_map]; exact hn)
def BYS : List PyData := [.int 1, .int 1, .int 2, .int 3, .int ((10 : Int) ^ (20 : Int).toNat)]
theorem by_mem {d : PyData} (h : d ∈ BYS) : ∃ b : Int, 1 ≤ b ∧ b ≤ 100000000000000000000 ∧ d = .int b := by
  unfold BYS at h
  rcases List.mem_cons.mp h with z | h
  · exact ⟨1, by decide, by decide, z⟩
  rcases List.mem_cons.mp h with z | h
  · exact ⟨1, by decide, by decide, z⟩
  rcases List.mem_cons.mp h with z | h
  · exact ⟨2, by decide, by decide, z⟩
  rcases List.mem_cons.mp h with z | h
  · exact ⟨3, by decide, by decide, z⟩
  · exact ⟨_, by decide, by decide, List.mem_singleton.mp h⟩
def weighD : DS := fun xs M Φ => ∃ (st l : Addr) (cs : List Int) (t : Int) (n : Nat) (bs : List (List Int)), xs = [.m st, .d (bun n bs)] ∧ BuOk n bs ∧ n ≤ 5 ∧ Stt M st l cs t ∧ t ≤ 700000000 ∧ ∀ (t' : Int) (M' : Mu), t' ≤ t + 100 → Stt M' st l cs t' → Fr2 M M' st l → Φ (.d (.bool true)) M'
theorem weighD_mono : ∀ xs M1 (Φ Φ' : S → Mu → Prop), weighD xs M1 Φ → (∀ x M2, Φ x M2 → Φ' x M2) → weighD xs M1 Φ' := fun xs M1 Φ Φ' ⟨st, l, cs, t, n, bs, h1, h2, h3, h4, h5, h6⟩ mo => ⟨st, l, cs, t, n, bs, h1, h2, h3, h4, h5, fun t' M' a b c => mo _ _ (h6 t' M' a b c)⟩
theorem sc59 : FnScope ["state", "bundle", "whole", "rows", "some", "k", "row", "by", "due", "thing", "one"] ["state", "bundle"] (defScope (top 59)) := ⟨rfl, rfl, rfl, by decide +kernel, rfl, by decide +kernel, by decide +kernel⟩
local macro_rules | `(tactic| walk_at "var") => `(tactic| first | ((with_reducible apply ee_varQ (x := "state") (i := 0)) <;> walk_at "vs") | ((with_reducible apply ee_varQ (x := "bundle") (i := 1)) <;> walk_at "vs") | ((with_reducible apply ee_varQ (x := "whole") (i := 2)) <;> walk_at "vs") | ((with_reducible apply ee_varQ (x := "rows") (i := 3)) <;> walk_at "vs") | ((with_reducible apply ee_varQ (x := "some") (i := 4)) <;> walk_at "vs") | ((with_reducible apply ee_varQ (x := "k") (i := 5)) <;> walk_at "vs") | ((with_reducible apply ee_varQ (x := "row") (i := 6)) <;> walk_at "vs") | ((with_reducible apply ee_varQ (x := "by") (i := 7)) <;> walk_at "vs") | ((with_reducible apply ee_varQ (x := "due") (i := 8)) <;> walk_at "vs") | ((with_reducible apply ee_varQ (x := "thing") (i := 9)) <;> walk_at "vs") | ((with_reducible apply ee_varQ (x := "one") (i := 10)) <;> walk_at "vs"))
local macro_rules | `(tactic| walk_at "nd") => `(tactic| exact sc59.nd)
theorem ok__law_weighings_right (T : Txt K mg) : FnE P w K mg base 6 "_law_weighings_right" ["state", "bundle"] weighD := by
  refine fndG T 43 rfl rfl sc59 (fun _ _ _ _ _ _ us hl => match us, hl with | [_, _], _ => rfl) (fun xs M Φ h => ?_) (fun a cdv A outer s H E xs M Φ hgd hr h => ?_)
  · obtain ⟨_, _, _, _, _, _, rfl, _⟩ := h
    rfl
  · obtain ⟨st, l, cs, t, n, bs, rfl, hb, hn5, hS, ht, q⟩ := h
    have hb' := hb.toCsOk
    refine ws_cons (w1_setV (i := 2) (ev_bin (EE.ev (d := .int 1) ee_int (ev_call (ok__law_draw T) (hr.mono (by decide)) (by rfl) (by rfl) (by rfl) (EA_of (ea_consM (i := 0) (a := st) (by rfl) (by rfl) (by walk_at "vis") (by rfl) (ea_cons (d := .int 5) (by rfl) ee_int ea_nil)) ⟨st, l, _, cs, t, rfl, by decide, by decide, hS, by omega, fun r M1 r0 r1 S1 F1 => ⟨_, _, .int (1 + r), rfl, rfl, bv_add, ?_⟩⟩) drawD_mono (by decide)))) (by walk_at "nd") (by rfl) (by walk_at "loc") (by walk_at "locf") (by rfl))
    obtain ⟨v, hv⟩ : ∃ v : Nat, 1 + r = (v : Int) := ⟨(1 + r).toNat, by omega⟩
    rw [hv]
    have hv1 : 1 ≤ v ∧ v ≤ 5 := by omega
    obtain ⟨RS, eRS, hRS⟩ : ∃ RS : List (List Int), RS = (if n < 5 then rowsN (v + 1) n else []) ∧ (∀ r ∈ RS, r ∈ rowsN (v + 1) n) := ⟨_, rfl, fun r hr => by
      split at hr
      · exact hr
      · cases hr⟩
    have h4 : n < 5 → (rowsN (v + 1) n).length ≤ 2000 := fun h => by
      rw [rowsN_len]
      exact Nat.le_trans (Nat.pow_le_pow_left (by omega : v + 1 ≤ 6) n) (Nat.le_trans (Nat.pow_le_pow_right (by decide) (by omega : n ≤ 4)) (by decide))
    have hRl : RS.length ≤ 2000 := by
      rw [eRS]
      split
      · exact h4 (by assumption)
      · exact Nat.zero_le _
    refine ws_cons (w1_setE (i := 3) (d := .list (RS.map tI)) (EE.to (ee_if (p := decide ((n : Int) < 5)) (d1 := .list ((rowsN (v + 1) n).map tI)) (d2 := .list []) ?_ (fun hp => EE.to (LC1.ee (own := [("row", 6)]) (i := 6) (xs := rowsN (v + 1) n) (g := tI) (f := tI) (p := fun _ => true) ?_) ?_) (fun _ => ?_)) ?_) ?_ (by walk_at "nd") (by rfl) (by walk_at "loc") (by walk_at "locf") (by rfl))
    · walk_at "gb"
    · have hp := of_decide_eq_true hp
      refine ⟨?_, fun s0 H0 C0 cl0 fp0 z0 hz0 => ?_, fun s0 H0 C0 cl0 fp0 z0 hz0 hp0 => ?_, ?_, fun _ => by rfl, blkOk_by (by rfl), fun _ _ _ _ _ => by walk_at "loc", fun _ _ _ _ _ => by walk_at "locf", by rfl, by decide, by walk_at "nd", by rfl⟩
      · refine iv_list (ee__law_rows (n := n) (m := v) (EE.to (ee_minN (i := (n : Int)) (j := 4) ?_ ee_int (by rfl) (by rfl) (by walk_at "mg") (by rfl) (by rfl) (by rfl)) ?_) ?_ (by omega) (by omega) (Nat.le_trans (h4 (by omega)) (by decide)) (by assumption) (by assumption) (by decide) (by rfl) (by rfl) (by rfl) (by rfl))
        · walk_at "any"
        · rw [if_neg (by omega)]
        · walk_at "any"
      · exact eif_nil
      · walk_at "any"
      · exact Nat.le_trans (h4 (by omega)) (by decide)
    · rw [filter_tt]
    · exact ee_lst0
    · rw [eRS]
      by_cases h : n < 5
      · rw [decide_eq_true (by omega), if_pos rfl, if_pos h]
      · rw [decide_eq_false (by omega), if_neg Bool.false_ne_true, if_neg h]; rfl
    refine ws_cons (LC1.set (own := [("row", 6)]) (i := 6) (xs := RS) (g := tI) (f := tI) (p := fun r => IC.doesW v r bs) ?_ (j := 4) ?_ (by rfl) (by rfl) (by rfl))
    · refine ⟨?_, fun s1 H1 C1 cl1 fp1 z1 hz1 => ?_, fun s1 H1 C1 cl1 fp1 z1 hz1 hp1 => ?_, ?_, fun _ => by rfl, blkOk_by (by rfl), fun _ _ _ _ _ => by walk_at "loc", fun _ _ _ _ _ => by walk_at "locf", by rfl, by decide, by walk_at "nd", by rfl⟩
      · walk_at "iv"
      · have hl1 := (rowsN_at (hRS z1 hz1)).1
        refine eif_one (EB.to (EW.eb (ew_and (p := decide (((z1.map PyData.int).length : Int) = (n : Int))) (r := IC.doesW v z1 bs) ?_ (fun _ => ew_and1 (eb_val (fun _ => rfl) ?_)))) ?_)
        · walk_at "gb"
        · walk_at "any"
        · rw [List.length_map, hl1]; simp
      · walk_at "any"
      · omega
    obtain ⟨SO, eSO⟩ : ∃ SO, SO = RS.filter fun r => IC.doesW v r bs := ⟨_, rfl⟩
    rw [← eSO]
    have hSO : ∀ r ∈ SO, r ∈ rowsN (v + 1) n ∧ IC.doesW v r bs = true := fun r hr => by
      rw [eSO] at hr
      have := List.mem_filter.mp hr
      exact ⟨hRS r this.1, this.2⟩
    have hSl : SO.length ≤ 2000 := by
      rw [eSO]; exact Nat.le_trans (List.length_filter_le _ _) hRl
    obtain ⟨cnt, ecnt⟩ : ∃ cnt : Nat, cnt = (if 6 < SO.length then 6 else SO.length) := ⟨_, rfl⟩
    have hcnt : cnt ≤ 6 ∧ cnt ≤ SO.length := by rw [ecnt]; split <;> omega
    refine ws_cons (w1_forN (i := 5) (fun j δ' M' => ∃ (t' : Int), t' ≤ t + 1 + 2 * (j : Int) ∧ Stt M' st l cs t' ∧ Fr2 M M' st l ∧ ∃ u1 u2 u3 u4 u5, δ' = [some (.m st), some (.d (bun n bs)), some (.d (.int (v : Int))), some (.d (.list (RS.map tI))), some (.d (.list (SO.map tI))), u1, u2, u3, u4, u5, none]) (ds := rangeD 0 cnt) (iv_range (n := cnt) (by rfl) (by walk_at "mg") (by rfl) (EE.to (ee_minN (i := ((SO.map tI).length : Int)) (j := 6) ?_ ee_int (by rfl) (by rfl) (by walk_at "mg") (by rfl) (by rfl) (by rfl)) ?_) (by omega)) ⟨t + 1, by omega, S1, F1, none, none, none, none, none, rfl⟩ ?_ ?_ (by walk_at "nd") (by rfl) (by walk_at "loc") (by walk_at "locf") PassesOwn.never (by rfl) (fun _ => by rfl))
    · walk_at "any"
    · rw [List.length_map, ecnt]
      by_cases h : 6 < SO.length
      · rw [if_pos (by omega), if_pos h]; rfl
      · rw [if_neg (by omega), if_neg h]
    · rintro j d δ' M' hd ⟨t', ht', S2, F2, u1, u2, u3, u4, u5, rfl⟩
      obtain ⟨hj, rfl⟩ := range_at hd
      have hSpos : 1 ≤ (SO.map tI).length := by rw [List.length_map]; omega
      refine ws_cons (w1_asgTT (is := [6, 7]) (by rfl) (gn_cons (by walk_at "nd") (by rfl) (by walk_at "loc") (by walk_at "locf") (gn_cons (by walk_at "nd") (by rfl) (by walk_at "loc") (by walk_at "locf") gn_nil (by rfl)) (by rfl)) (by rfl) (by rfl) (by rfl) (by rfl) (by rfl) (by decide) (av_cons (by rfl) (ev_call (ok__law_of T) (hr.mono (by decide)) (by rfl) (by rfl) (by rfl) (EA_of (ea_consM (i := 0) (a := st) (by rfl) (by rfl) (by walk_at "vis") (by rfl) (ea_cons (d := .list (SO.map tI)) (by rfl) ?_ ea_nil)) ⟨st, l, SO.map tI, cs, t', rfl, hSpos, by rw [List.length_map]; omega, S2, by omega, fun d1 M3 hd1 S3 F3 => av_cons (by rfl) (ev_call (ok__law_of T) (hr.mono (by decide)) (by rfl) (by rfl) (by rfl) (EA_of (ea_consM (i := 0) (a := st) (by rfl) (by rfl) (by walk_at "vis") (by rfl) (ea_cons (d := .list BYS) (by rfl) (ee_lst (ds := BYS) (ea_cons (by rfl) ee_int (ea_cons (by rfl) ee_int (ea_cons (by rfl) ee_int (ea_cons (by rfl) ee_int (ea_cons (by rfl) (ee_bin ee_int ee_int (bv_powS (by decide))) ea_nil))))) (by decide)) ea_nil)) ⟨st, l, BYS, cs, t' + 1, rfl, by decide, by decide, S3, by omega, fun d2 M4 hd2 S4 F4 => ea_nil _ _ ⟨rfl, ?_⟩⟩) ofD_mono (by decide))⟩) ofD_mono (by decide))))
      · walk_at "any"
      obtain ⟨r1, hr1, rfl⟩ := List.mem_map.mp hd1
      obtain ⟨b, hb1, hb2, rfl⟩ := by_mem hd2
      obtain ⟨g1, g2⟩ := hSO r1 hr1
      have hrow : IC.isRow n v r1 = true := rows_isRow g1
      have hlen : r1.length = n := (rowsN_at g1).1
      have hx : ∀ x ∈ r1, x.natAbs < 2 ^ 60 := fun x hx => by
        have := (rowsN_at g1).2 x hx
        omega
      have hb80 : b.natAbs < 2 ^ 80 := by omega
      refine ws_cons (w1_setE (i := 8) (d := tI (IC.roundRow v r1)) (EE.to (ee_tupN (EE.to (LC1.ee (own := [("one", 10)]) (i := 10) (xs := r1) (g := PyData.int) (f := fun x => .int (IC.rnd v x)) (p := fun _ => true) ?_) (d' := lI (IC.roundRow v r1)) ?_) (by rfl) (by walk_at "mg") (by rfl)) rfl) ?_ (by walk_at "nd") (by rfl) (by walk_at "loc") (by walk_at "locf") (by rfl))
      · refine ⟨?_, fun s2 H2 C2 cl2 fp2 z2 hz2 => ?_, fun s2 H2 C2 cl2 fp2 z2 hz2 hp2 => ?_, ?_, fun _ => by rfl, blkOk_by (by rfl), fun _ _ _ _ _ => by walk_at "loc", fun _ _ _ _ _ => by walk_at "locf", by rfl, by decide, by walk_at "nd", by rfl⟩
        · walk_at "iv"
        · exact eif_nil
        · apply EE.to
          walk_at "any"
          · exact wide_mul (i := 2) (j := z2) (a := 60) (b := 60) (by decide) (hx _ hz2) (by decide) (by decide) (by decide)
          · exact wide_mul (i := 2) (j := z2) (a := 60) (b := 60) (by decide) (hx _ hz2) (by decide) (by decide) (by decide)
          · rfl
        · omega
      · show _ = lI (r1.map (IC.rnd v))
        walk_at "fm"
      refine ws_cons (w1_setE (i := 9) (d := .tuple [.int ((v : Int) * b), tI (byR b r1)]) (ee_tup2 ?_ (EE.to (ee_tupN (EE.to (LC1.ee (own := [("one", 10)]) (i := 10) (xs := r1) (g := PyData.int) (f := fun x => .int (x * b)) (p := fun _ => true) ?_) (d' := lI (byR b r1)) ?_) (by rfl) (by walk_at "mg") (by rfl)) rfl) (by rfl) (by rfl)) ?_ (by walk_at "nd") (by rfl) (by walk_at "loc") (by walk_at "locf") (by rfl))
      · walk_at "any"
        exact wide_mul (i := (v : Int)) (j := b) (a := 60) (b := 80) (by omega) hb80 (by decide) (by decide) (by decide)
      · refine ⟨?_, fun s3 H3 C3 cl3 fp3 z3 hz3 => ?_, fun s3 H3 C3 cl3 fp3 z3 hz3 hp3 => ?_, ?_, fun _ => by rfl, blkOk_by (by rfl), fun _ _ _ _ _ => by walk_at "loc", fun _ _ _ _ _ => by walk_at "locf", by rfl, by decide, by walk_at "nd", by rfl⟩
        · walk_at "iv"
        · exact eif_nil
        · walk_at "any"
          exact wide_mul (i := z3) (j := b) (a := 60) (b := 80) (hx _ hz3) hb80 (by decide) (by decide) (by decide)
        · omega
      · show _ = lI (r1.map fun x => x * b)
        walk_at "fm"
      have hh : IC.areHalves n bs (IC.roundRow v r1) = true := IC.round_halves hb'.ok (by omega) hrow g2
      have hrl : (IC.roundRow v r1).length = n := by unfold IC.roundRow; rw [List.length_map, hlen]
      have hsm : Sm 1 (7 * 5) (tI (IC.roundRow v r1)) := sm_row round_small (by omega)
      have hsml : ∀ x ∈ byR b r1, sml x := fun x hx1 => by
        obtain ⟨y, hy, rfl⟩ := List.mem_map.mp hx1
        have h1 : (y * b).natAbs < 2 ^ (60 + 80) := wide_lt (hx y hy) hb80
        exact Nat.lt_of_lt_of_le (PySem.Flt.log2_lt_of (k := 140) (by decide) h1) (by decide)
      refine ws_cons (w1_ifE (p := false) (EB.to (EW.eb (ew_or (p := false) (r := false) (EB.to (b := !decide ((tI (IC.roundRow v r1)).shown = (tI (IC.roundRow v r1)).shown)) (eb_cmp (by rfl) (ee_reprD (EE.to (ee_rounded (n := n) (cs := bs) (v := (v : Int) * b) (row := byR b r1) ?_ ?_ hb ?_ (row_by hb1 hrow) ((does_by hb1).trans g2) hsml (by assumption) (by assumption) (by decide) (by rfl) (by rfl) (by rfl) (by rfl)) (by rw [round_by hb1])) hsm (by rfl) (by decide) (by decide) hgd (by have := hr.un; omega) (by rfl) (by walk_at "mg") (by rfl)) (ee_reprD ?_ hsm (by rfl) (by decide) (by decide) hgd (by have := hr.un; omega) (by rfl) (by walk_at "mg") (by rfl)) bv_neS) (by rw [decide_eq_true rfl]; rfl)) (fun _ => ew_or1 (EB.to (b := !IC.areHalves n bs (IC.roundRow v r1)) (eb_not (eb_val (fun _ => rfl) (ee__law_are_halves (n := n) (cs := bs) (row := IC.roundRow v r1) ?_ ?_ hb' hrl (by assumption) (by assumption) (by decide) (by rfl) (by rfl) (by rfl) (by rfl)))) (by rw [hh]; rfl))))) rfl) (fun h => nomatch h) (fun _ => ws_nil (ws_nil ⟨t' + 1 + 1, by omega, S4, (F2.trans F3).trans F4, _, _, _, _, _, rfl⟩)))
      · walk_at "any"
      · walk_at "any"
      · have : (1 : Int) * 1 ≤ (v : Int) * b := Int.mul_le_mul (by omega) hb1 (by decide) (by omega)
        omega
      · walk_at "any"
      · walk_at "any"
      · walk_at "any"
    · rintro δ' M' ⟨t', ht', S2, F2, u1, u2, u3, u4, u5, rfl⟩
      rw [range_len] at ht'
      exact ws_cons (w1_retE ee_bl (q t' M' (by omega) S2 F2))
end
end KP
namespace KP
open PySem PySem.Spec PyProof.Rows L2 DL
section
variable {P : Program} {w : World} {K : PySem.W.Frag} {mg : Str → Option Value} {base : Heap}
/-! steps -/
local macro_rules | `(tactic| walk_at "vis") => `(tactic| first | exact vis_l (by rfl) | exact vis_c (by rfl) | exact vis_f (by rfl))
local macro_rules | `(tactic| walk_at "vs") => `(tactic| first | rfl | (walk_at "vis") | decide)
local macro_rules | `(tactic| walk_at "mg") => `(tactic| exact z_of (by assumption) (by decide +kernel))
local macro_rules | `(tactic| walk_at "var") => `(tactic| fail)
local macro_rules | `(tactic| walk_at "glo") => `(tactic| first | exact ee_names (by assumption) (by rfl) (by rfl) | exact ee_clauses (by assumption) (by rfl) (by rfl) | exact ee_halvesS (by assumption) (by rfl) (by rfl) | exact ee_clashS (by assumption) (by rfl) (by rfl))
local macro_rules | `(tactic| walk_at "side") => `(tactic| first | assumption | ((with_reducible apply atI_litG); rfl) | ((fail_if_success (with_reducible apply atI_litG)); skip))
local macro_rules | `(tactic| walk_at "call") => `(tactic| fail)
local macro_rules | `(tactic| walk_at "bv") => `(tactic| first
  | (with_reducible apply bv_gB); first
    | (with_reducible exact bv_add) | (with_reducible exact bv_sub) | (with_reducible apply bv_mulS; walk_at "side") | (with_reducible apply bv_divS; walk_at "side") | (with_reducible apply bv_mod; walk_at "side") | (with_reducible apply bv_powS; walk_at "side")
    | (with_reducible apply bv_cat <;> walk_at "side") | (with_reducible apply bv_rep1 <;> walk_at "side") | (with_reducible apply bv_rep <;> walk_at "side") | (with_reducible apply bv_catT <;> walk_at "side")
  | (with_reducible apply bv_gC); first
    | (with_reducible exact bv_lt) | (with_reducible exact bv_le) | (with_reducible exact bv_gt) | (with_reducible exact bv_ge) | (with_reducible exact bv_eqI) | (with_reducible exact bv_neI) | (with_reducible exact bv_eqS) | (with_reducible exact bv_neS) | (with_reducible exact bv_isNone) | (with_reducible exact bv_inT) | (with_reducible exact bv_notin2)
    | (with_reducible apply bv_eqD <;> walk_at "side") | (with_reducible apply bv_neD <;> walk_at "side") | (with_reducible apply bv_inD <;> walk_at "side"))
local macro_rules | `(tactic| walk_at "any") => `(tactic| first
  | (with_reducible apply ee_id); walk_at "go"
  | (with_reducible apply ea_id); first | (with_reducible exact ea_nil) | ((with_reducible apply ea_cons) <;> walk_at "any")
  | (with_reducible apply eb_id); walk_at "gb"
  | (with_reducible apply ew_id); walk_at "gw"
  | (with_reducible apply eo_id); first | (with_reducible exact eo_none) | (apply eo_some; walk_at "go")
  | (with_reducible apply bv_id); walk_at "bv"
  | (fail_if_success (with_reducible apply ee_id)); (fail_if_success (with_reducible apply ea_id)); (fail_if_success (with_reducible apply eb_id)); (fail_if_success (with_reducible apply ew_id)); (fail_if_success (with_reducible apply bv_id)); first
    | (intro _; walk_at "any")
    | rfl | (walk_at "mg") | decide | (intro _; rfl) | (intro _ _; rfl) | (walk_at "side"))
local macro_rules | `(tactic| walk_at "gb") => `(tactic| first
  | (with_reducible apply eb_not); walk_at "gb"
  | (with_reducible apply eb_cmp) <;> walk_at "any"
  | (with_reducible apply EW.eb); walk_at "gw"
  | (apply eb_val) <;> walk_at "any")
local macro_rules | `(tactic| walk_at "gw") => `(tactic| first
  | (with_reducible apply ew_and) <;> walk_at "any"
  | (with_reducible apply ew_or) <;> walk_at "any"
  | (with_reducible apply ew_and1); walk_at "gb"
  | (with_reducible apply ew_or1); walk_at "gb")
local macro_rules | `(tactic| walk_at "go") => `(tactic| first
  | (with_reducible apply ee_nm); first | walk_at "var" | walk_at "glo"
  | (with_reducible apply g_const); first | (with_reducible exact ee_int) | (with_reducible exact ee_str) | (with_reducible exact ee_bl) | (with_reducible exact ee_non)
  | (with_reducible apply g_call); first
    | (with_reducible apply g_call1); first | ((with_reducible apply ee_lenL) <;> walk_at "any") | ((with_reducible apply ee_lenT) <;> walk_at "any") | ((with_reducible apply ee_intIN) <;> walk_at "any") | ((with_reducible apply ee_intBN) <;> walk_at "any") | ((with_reducible apply ee_tupN) <;> walk_at "any") | ((with_reducible apply ee_absN) <;> walk_at "any") | ((with_reducible apply ee_sumN) <;> walk_at "any") | ((with_reducible apply ee_sumTN) <;> walk_at "any") | ((with_reducible apply ee_allN) <;> walk_at "any") | ((with_reducible apply ee_lstN) <;> walk_at "any") | walk_at "call"
    | (with_reducible apply g_call2); first | ((with_reducible apply ee_isInt) <;> walk_at "any") | ((with_reducible apply ee_isBool) <;> walk_at "any") | ((with_reducible apply ee_isTup) <;> walk_at "any") | ((with_reducible apply ee_isStr) <;> walk_at "any") | ((with_reducible apply ee_minN) <;> walk_at "any") | ((with_reducible apply ee_maxN) <;> walk_at "any") | walk_at "call"
    | walk_at "call"
  | ((with_reducible apply ee_bin) <;> walk_at "any")
  | (with_reducible apply g_cmp); first | ((with_reducible apply ee_cmp) <;> walk_at "any") | ((with_reducible apply ee_chain) <;> walk_at "any")
  | (with_reducible apply g_sub); first | ((with_reducible apply ee_slL) <;> walk_at "any") | ((with_reducible apply ee_cell) <;> walk_at "any") | ((with_reducible apply ee_ixT) <;> walk_at "any") | ((with_reducible apply ee_ixL) <;> walk_at "any")
  | (with_reducible apply g_un); first | ((with_reducible apply ee_not); walk_at "go") | (with_reducible exact ee_neg)
  | (with_reducible apply g_bool); first | ((with_reducible apply ee_and) <;> walk_at "any") | ((with_reducible apply ee_or) <;> walk_at "any") | ((with_reducible apply ee_and1) <;> walk_at "any")
  | (with_reducible apply g_if); first | ((with_reducible apply ee_ifI) <;> walk_at "any") | ((with_reducible apply ee_if) <;> walk_at "any")
  | (with_reducible apply g_lst); first | ((with_reducible apply ee_lst0) <;> walk_at "any") | ((with_reducible apply ee_lst1) <;> walk_at "any") | ((with_reducible apply ee_lst2) <;> walk_at "any") | ((with_reducible apply ee_lst3) <;> walk_at "any") | ((with_reducible apply ee_lst4) <;> walk_at "any")
  | (with_reducible apply g_tup); first | ((with_reducible apply ee_tup0) <;> walk_at "any") | ((with_reducible apply ee_tup1) <;> walk_at "any") | ((with_reducible apply ee_tup2) <;> walk_at "any") | ((with_reducible apply ee_tup3) <;> walk_at "any") | ((with_reducible apply ee_tup4) <;> walk_at "any"))
local macro_rules | `(tactic| walk_at "loc") => `(tactic| first | exact .inl (by rfl) | exact .inr (by rfl))
local macro_rules | `(tactic| walk_at "locf") => `(tactic| first | exact .inr (by rfl) | exact .inl (by rfl))
local macro_rules | `(tactic| walk_at "iv") => `(tactic| first
  | ((with_reducible apply iv_tup); walk_at "go") | ((with_reducible apply iv_list); walk_at "go")
  | ((with_reducible apply iv_range) <;> walk_at "any") | ((with_reducible apply iv_range2) <;> walk_at "any")
  | ((with_reducible apply iv_enumL) <;> walk_at "any") | ((with_reducible apply iv_enumT) <;> walk_at "any") | ((with_reducible apply iv_enumT1) <;> walk_at "any")
  | ((with_reducible apply iv_zipL) <;> walk_at "any") | ((with_reducible apply iv_zipT) <;> walk_at "any"))
local macro_rules | `(tactic| walk_at "fm") => `(tactic| ((try rw [filter_tt]); first | rfl | (rw [List.map_map]; done) | (rw [List.map_map]; rfl) | (simp only [lI, tI, List.map_map]; done) | (simp only [lI, tI, List.map_map]; rfl)))




local macro_rules | `(tactic| walk_at "call") => `(tactic| (with_reducible apply ee__law_mixed) <;> walk_at "any")
local macro_rules | `(tactic| walk_at "call") => `(tactic| (with_reducible apply ee__law_rows) <;> walk_at "any")
local macro_rules | `(tactic| walk_at "call") => `(tactic| (with_reducible apply ee__law_do_clash) <;> walk_at "any")
local macro_rules | `(tactic| walk_at "call") => `(tactic| (with_reducible apply ee__law_due) <;> walk_at "any")
local macro_rules | `(tactic| walk_at "call") => `(tactic| (with_reducible apply ee__law_light) <;> walk_at "any")
local macro_rules | `(tactic| walk_at "call") => `(tactic| (with_reducible apply ee_all_halves) <;> walk_at "any")
local macro_rules | `(tactic| walk_at "call") => `(tactic| (with_reducible apply ee__law_is_int) <;> walk_at "any")
local macro_rules | `(tactic| walk_at "call") => `(tactic| (with_reducible apply ee__law_weight) <;> walk_at "any")
local macro_rules | `(tactic| walk_at "call") => `(tactic| (with_reducible apply ee__law_does_weigh) <;> walk_at "any")
local macro_rules | `(tactic| walk_at "call") => `(tactic| (with_reducible apply ee__law_are_halves) <;> walk_at "any")
local macro_rules | `(tactic| walk_at "call") => `(tactic| ((with_reducible apply ee_sortedP) <;> walk_at "any"))
local macro_rules | `(tactic| walk_at "call") => `(tactic| (with_reducible apply ee_by_names) <;> walk_at "any")
local macro_rules | `(tactic| walk_at "call") => `(tactic| (with_reducible apply ee_need_weighing) <;> walk_at "any")
local macro_rules | `(tactic| walk_at "call") => `(tactic| (with_reducible apply ee_rounded) <;> walk_at "any")
local macro_rules | `(tactic| walk_at "call") => `(tactic| (with_reducible apply ee_light_setting) <;> walk_at "any")
local macro_rules | `(tactic| walk_at "call") => `(tactic| (with_reducible apply ee_tidy_by) <;> walk_at "any")
local macro_rules | `(tactic| walk_at "call") => `(tactic| (with_reducible apply ee_halves_paper) <;> walk_at "any")
local macro_rules | `(tactic| walk_at "call") => `(tactic| (with_reducible apply ee_check_halves) <;> walk_at "any")
local macro_rules | `(tactic| walk_at "call") => `(tactic| (with_reducible apply ee_weighed_in) <;> walk_at "any")
local macro_rules | `(tactic| walk_at "call") => `(tactic| (with_reducible apply ee_need_bundle) <;> walk_at "any")
local macro_rules | `(tactic| walk_at "call") => `(tactic| (with_reducible apply ee_are_halves) <;> walk_at "any")
local macro_rules | `(tactic| walk_at "call") => `(tactic| (with_reducible apply ee_need_form) <;> walk_at "any")
local macro_rules | `(tactic| walk_at "call") => `(tactic| (with_reducible apply ee_greatest_of) <;> walk_at "any")
local macro_rules | `(tactic| walk_at "call") => `(tactic| (with_reducible apply ee_first_table) <;> walk_at "any")

local macro_rules | `(tactic| walk_at "call") => `(tactic| (with_reducible apply ee_turned_table) <;> walk_at "any")
local macro_rules | `(tactic| walk_at "call") => `(tactic| (with_reducible apply ee_do_clash) <;> walk_at "any")
local macro_rules | `(tactic| walk_at "call") => `(tactic| (with_reducible apply ee_is_row) <;> walk_at "any")
local macro_rules | `(tactic| walk_at "call") => `(tactic| (with_reducible apply ee_are_halves_of) <;> walk_at "any")
local macro_rules | `(tactic| walk_at "call") => `(tactic| (with_reducible apply ee_rounded_row) <;> walk_at "any")
local macro_rules | `(tactic| walk_at "call") => `(tactic| (with_reducible apply ee_rounded_rowL) <;> walk_at "any")
local macro_rules | `(tactic| walk_at "call") => `(tactic| (with_reducible apply ee_sign_in) <;> walk_at "any")
local macro_rules | `(tactic| walk_at "call") => `(tactic| (with_reducible apply ee_heft_at) <;> walk_at "any")
local macro_rules | `(tactic| walk_at "call") => `(tactic| (with_reducible apply ee_are_rising) <;> walk_at "any")
local macro_rules | `(tactic| walk_at "call") => `(tactic| (with_reducible apply ee_is_literal) <;> walk_at "any")
local macro_rules | `(tactic| walk_at "call") => `(tactic| (with_reducible apply ee_is_clause) <;> walk_at "any")
local macro_rules | `(tactic| walk_at "call") => `(tactic| (with_reducible apply ee_weight_of) <;> walk_at "any")
local macro_rules | `(tactic| walk_at "call") => `(tactic| (with_reducible apply ee_does_weigh) <;> walk_at "any")
local macro_rules | `(tactic| walk_at "call") => `(tactic| (with_reducible apply ee_is_integer) <;> walk_at "any")
local macro_rules | `(tactic| walk_at "call") => `(tactic| (with_reducible apply ee_is_between) <;> walk_at "any")
theorem row_in {m : Nat} : ∀ {n : Nat} {r : List Int}, r.length = n → (∀ x ∈ r, 0 ≤ x ∧ x < (m : Int)) → r ∈ rowsN m n
  | 0, r, h, _ => by
    have e : r = [] := List.length_eq_zero_iff.mp h
    rw [e]; exact List.mem_singleton.mpr rfl
  | k + 1, r, h, hx => by
    have hne : r ≠ [] := fun e => by rw [e] at h; cases h
    have e := (List.dropLast_concat_getLast hne).symm
    have hl := hx _ (List.getLast_mem hne)
    refine List.mem_flatMap.mpr ⟨r.dropLast, row_in (by rw [List.length_dropLast, h]; rfl) (fun x hm => hx x (List.dropLast_subset r hm)), List.mem_map.mpr ⟨(r.getLast hne).toNat, List.mem_range.mpr (by omega), ?_⟩⟩
    rw [Int.toNat_of_nonneg hl.1]; exact e.symm
def halvsL (n : Nat) (bs : List (List Int)) : List (List Int) := (rowsN 3 n).filter fun r => IC.areHalves n bs r
theorem rows_half {n : Nat} {bs : List (List Int)} {r : List Int} (h : r ∈ rowsN 3 n) : IC.areHalves n bs r = IC.doesW 2 r bs := by
  have : IC.isRow n 2 r = true := rows_isRow (m := 2) h
  unfold IC.areHalves
  rw [this, Bool.true_and]
theorem halvs_eq {n : Nat} {bs : List (List Int)} : ((rowsN 3 n).filter fun r => IC.doesW 2 r bs) = halvsL n bs := List.filter_congr fun r hr => (rows_half hr).symm
theorem halvs_mem {n : Nat} {bs : List (List Int)} {r : List Int} (h : r ∈ rowsN 3 n) : decide (r ∈ halvsL n bs) = IC.areHalves n bs r := by
  cases e : IC.areHalves n bs r with
  | true => exact decide_eq_true (List.mem_filter.mpr ⟨h, e⟩)
  | false =>
    refine decide_eq_false fun z => ?_
    have := (List.mem_filter.mp z).2
    rw [e] at this; cases this
theorem halvs_good {n : Nat} {bs : List (List Int)} (hb : CsOk n bs) (hg : goodW n bs) : (halvsL n bs).isEmpty = false := by
  have hh := IC.halves_of hb.pos hb.ok hg
  have h1 := Bool.and_eq_true_iff.mp (Bool.and_eq_true_iff.mp hh).1
  have hm : IC.rowW n bs ∈ halvsL n bs := List.mem_filter.mpr ⟨row_in (of_decide_eq_true h1.1) fun x hx => by
    have := IC.between_iff.mp (List.all_eq_true.mp h1.2 x hx)
    omega, hh⟩
  cases e : halvsL n bs with
  | nil => rw [e] at hm; cases hm
  | cons x xs => rfl
theorem halvs_bad {n : Nat} {bs : List (List Int)} (hb : CsOk n bs) (hg : ¬ goodW n bs) : (halvsL n bs).isEmpty = true := by
  have hh := IC.clash_of hb.pos hb.le hb.len hb.ok hg
  obtain ⟨k1, k2⟩ := IC.hefts_ok hb.pos hb.le hb.len hb.ok
  cases e : halvsL n bs with
  | nil => rfl
  | cons x xs =>
    have hx : x ∈ halvsL n bs := by rw [e]; exact List.mem_cons_self
    exact (IC.clash_no hb.ok k1 (fun y hy => (k2 y hy).1) hh (List.mem_filter.mp hx).2).elim
theorem sm_bun {n : Nat} {bs : List (List Int)} (hb : CsOk n bs) : Sm 3 10000 (bun n bs) := by
  have h7 := hb.le
  have h1 : Sm 2 (16 * 36) (.tuple (bs.map tI)) := sm_tuple (k := 1) (v := 35) (fun d hd => by
    obtain ⟨c, hc, rfl⟩ := List.mem_map.mp hd
    exact sm_row (n := 7) (fun x hx => by have := (hb.ok c hc).lit x hx; omega) (Nat.le_trans (IC.clause_len (hb.ok c hc)) h7)) (by rw [List.length_map]; exact hb.len)
  refine (sm_tuple (k := 2) (v := 1000) (n := 2) (fun d hd => ?_) (Nat.le_refl _)).mono (by decide) (by decide)
  rcases List.mem_cons.mp hd with z | z
  · rw [z]; exact (sm_int (by omega)).mono (by decide) (by decide)
  · rw [List.mem_singleton.mp z]; exact h1.mono (by decide) (by decide)
theorem rows_sm {n : Nat} (hn : n ≤ 5) {r : List Int} (h : r ∈ rowsN 3 n) : Sm 1 35 (tI r) := by
  obtain ⟨a, b⟩ := rowsN_at h
  exact sm_row (n := 7) (fun x hx => by have := b x hx; omega) (by omega)
theorem halvs_sm {n : Nat} {bs : List (List Int)} (hn : n ≤ 5) : Sm 2 (3000 * 36) (.tuple ((halvsL n bs).map tI)) := sm_tuple (k := 1) (v := 35) (fun d hd => by
  obtain ⟨r, hr, rfl⟩ := List.mem_map.mp hd
  exact rows_sm hn (List.mem_filter.mp hr).1) (by
    rw [List.length_map]
    exact Nat.le_trans (List.length_filter_le _ _) (rows3 (by omega)))
theorem two_sm {k v : Nat} {d : PyData} (h : Sm k v d) : Sm (k + 1) (2 * (v + 1)) (.list [d, d]) := sm_list (fun x hx => by
  rcases List.mem_cons.mp hx with z | z
  · rw [z]; exact h
  · rw [List.mem_singleton.mp z]; exact h) (Nat.le_refl 2)
theorem light_sm {row : List Int} (h : row.length ≤ 7) : Sm 1 35 (tI (lightOf row)) := sm_row (n := 7) (fun x hx => by
  unfold lightOf at hx
  obtain ⟨q, hq, rfl⟩ := List.mem_map.mp hx
  have := List.snd_lt_of_mem_zipIdx (x := q) (List.mem_filter.mp hq).1
  have h2 : q.2 < 7 := by omega
  split <;> omega) (Nat.le_trans (lightOf_len row) h)
theorem sc60 : FnScope ["bundle", "rows", "kept", "halves", "row", "sheet", "word"] ["bundle"] (defScope (top 60)) := ⟨rfl, rfl, rfl, by decide +kernel, rfl, by decide +kernel, by decide +kernel⟩
local macro_rules | `(tactic| walk_at "var") => `(tactic| first | ((with_reducible apply ee_varQ (x := "bundle") (i := 0)) <;> walk_at "vs") | ((with_reducible apply ee_varQ (x := "rows") (i := 1)) <;> walk_at "vs") | ((with_reducible apply ee_varQ (x := "kept") (i := 2)) <;> walk_at "vs") | ((with_reducible apply ee_varQ (x := "halves") (i := 3)) <;> walk_at "vs") | ((with_reducible apply ee_varQ (x := "row") (i := 4)) <;> walk_at "vs") | ((with_reducible apply ee_varQ (x := "sheet") (i := 5)) <;> walk_at "vs") | ((with_reducible apply ee_varQ (x := "word") (i := 6)) <;> walk_at "vs"))
local macro_rules | `(tactic| walk_at "nd") => `(tactic| exact sc60.nd)
theorem ok__law_bundle_right (T : Txt K mg) : FnE P w K mg base 7 "_law_bundle_right" ["bundle"] (pureD fun xs r => ∃ (n : Nat) (bs : List (List Int)), xs = [.d (bun n bs)] ∧ BuOk n bs ∧ n ≤ 5 ∧ r = .bool true) := by
  refine fndG T 44 rfl rfl sc60 (fun _ _ _ _ _ _ us hl => match us, hl with | [_], _ => rfl) (fun xs M Φ h => ?_) (fun a cdv A outer s H E xs M Φ hgd hr h => ?_)
  · obtain ⟨_, ⟨_, _, rfl, _⟩, _⟩ := h
    rfl
  · obtain ⟨r, ⟨n, bs, rfl, hb, hn5, rfl⟩, q⟩ := h
    have hb' := hb.toCsOk
    have h7 := hb.le
    have hRl : (rowsN 3 n).length ≤ 3000 := rows3 h7
    refine ws_cons (w1_par (i := 1) (j := 2) (by rfl) (by walk_at "nd") (by rfl) (by rfl) (by decide) (by rfl) (by rfl) (by rfl) (by rfl) (EA_of (ea_cons (d := .list ((rowsN 3 n).map tI)) (by rfl) (ee__law_rows (n := n) (m := 2) (ee_ixT (ds := [.int (n : Int), .tuple (bs.map tI)]) (i := 0) ?_ ee_int rfl (by intro _ _; rfl)) ee_int (by omega) (by decide) (Nat.le_trans hRl (by decide)) (by assumption) (by assumption) (by decide) (by rfl) (by rfl) (by rfl) (by rfl)) (ea_cons (d := .str (bun n bs).shown) (by rfl) (ee_reprD ?_ (sm_bun hb') (by rfl) (by decide) (by decide) hgd (by have := hr.un; omega) (by rfl) (by walk_at "mg") (by rfl)) ea_nil)) ⟨rfl, ?_⟩))
    · walk_at "any"
    · walk_at "any"
    refine ws_cons (w1_setE (i := 3) (d := .tuple ((halvsL n bs).map tI)) (ee_tupN (LC1.ee (own := [("row", 4)]) (i := 4) (xs := rowsN 3 n) (g := tI) (f := tI) (p := fun r => IC.areHalves n bs r) ?_) (by rfl) (by walk_at "mg") (by rfl)) ?_ (by walk_at "nd") (by rfl) (by walk_at "loc") (by walk_at "locf") (by rfl))
    · refine ⟨?_, fun s0 H0 C0 cl0 fp0 z0 hz0 => ?_, fun s0 H0 C0 cl0 fp0 z0 hz0 hp0 => ?_, ?_, fun _ => by rfl, blkOk_by (by rfl), fun _ _ _ _ _ => by walk_at "loc", fun _ _ _ _ _ => by walk_at "locf", by rfl, by decide, by walk_at "nd", by rfl⟩
      · walk_at "iv"
      · have hl1 := (rowsN_at hz0).1
        refine eif_one (eb_val (fun _ => rfl) ?_)
        walk_at "any"
      · walk_at "any"
      · omega
    refine ws_cons (w1_ifE (p := false) (EB.to (b := !decide ((PyData.list [.tuple ((halvsL n bs).map tI), .tuple ((halvsL n bs).map tI)]).shown = (PyData.list [.tuple ((halvsL n bs).map tI), .tuple ((halvsL n bs).map tI)]).shown)) (eb_cmp (by rfl) (ee_reprD (ee_lst2 (EE.to (ee_all_halves ?_ hb (by assumption) (by assumption) (by decide) (by rfl) (by rfl) (by rfl)) (by rw [halvs_eq])) (EE.to (ee_all_halves ?_ hb (by assumption) (by assumption) (by decide) (by rfl) (by rfl) (by rfl)) (by rw [halvs_eq])) (by rfl) (by rfl)) (two_sm (halvs_sm hn5)) (by rfl) (by decide) (by decide) hgd (by have := hr.un; omega) (by rfl) (by walk_at "mg") (by rfl)) (ee_reprD (ee_lst2 ?_ ?_ (by rfl) (by rfl)) (two_sm (halvs_sm hn5)) (by rfl) (by decide) (by decide) hgd (by have := hr.un; omega) (by rfl) (by walk_at "mg") (by rfl)) bv_neS) (by rw [decide_eq_true rfl]; rfl)) (fun h => nomatch h) (fun _ => ws_nil ?_))
    · walk_at "any"
    · walk_at "any"
    · walk_at "any"
    · walk_at "any"
    refine ws_cons (w1_forN (i := 4) (fun j δ' M' => M' = M ∧ ∃ u, δ' = [some (.d (bun n bs)), some (.d (.list ((rowsN 3 n).map tI))), some (.d (.str (bun n bs).shown)), some (.d (.tuple ((halvsL n bs).map tI))), u, none, none]) (ds := (rowsN 3 n).map tI) ?_ ⟨rfl, none, rfl⟩ ?_ ?_ (by walk_at "nd") (by rfl) (by walk_at "loc") (by walk_at "locf") PassesOwn.never (by rfl) (fun _ => by rfl))
    · walk_at "iv"
    · rintro j d δ' M' hd ⟨rfl, u, rfl⟩
      obtain ⟨r1, hr1, rfl⟩ := List.mem_map.mp (List.mem_of_getElem? hd)
      have hl1 := (rowsN_at hr1).1
      have hl2 : (intsOf (tI r1)).length ≤ 100000 := len_tI (by omega)
      have hfl : flatD (tI r1) = true := flat_tI
      refine ws_cons (w1_ifE (p := false) (EB.to (b := !decide ((if IC.areHalves n bs r1 then ("True" : Str) else "False") = (if IC.areHalves n bs r1 then ("True" : Str) else "False"))) (eb_cmp (by rfl) (ee_reprB (b := IC.areHalves n bs r1) (EE.to (ee_are_halves (n := n) (cs := bs) (d := tI r1) ?_ ?_ hb hfl hl2 (by assumption) (by assumption) (by decide) (by rfl) (by rfl) (by rfl) (by rfl)) (by rw [halvD_tI])) (by rfl) (by walk_at "mg") (by rfl)) (ee_reprB (b := IC.areHalves n bs r1) (EE.to (ee_cmp (by rfl) (d1 := tI r1) (d2 := .tuple ((halvsL n bs).map tI)) ?_ ?_ (bv_inDT (by have := hr.un; omega) (dep_tI.shaped (by decide)) (dep_ltI.shaped (by decide)))) (by rw [any_tI, halvs_mem hr1])) (by rfl) (by walk_at "mg") (by rfl)) bv_neS) (by rw [decide_eq_true rfl]; rfl)) (fun h => nomatch h) (fun _ => ws_nil (ws_nil ⟨rfl, _, rfl⟩)))
      · walk_at "any"
      · walk_at "any"
      · walk_at "any"
      · walk_at "any"
    rintro δ' M' ⟨rfl, u, rfl⟩
    refine ws_cons (w1_forN (i := 4) (fun j δ' M2 => M2 = M' ∧ ∃ u, δ' = [some (.d (bun n bs)), some (.d (.list ((rowsN 3 n).map tI))), some (.d (.str (bun n bs).shown)), some (.d (.tuple ((halvsL n bs).map tI))), u, none, none]) (ds := (halvsL n bs).map tI) ?_ ⟨rfl, u, rfl⟩ ?_ ?_ (by walk_at "nd") (by rfl) (by walk_at "loc") (by walk_at "locf") PassesOwn.never (by rfl) (fun _ => by rfl))
    · walk_at "iv"
    · rintro j d δ' M2 hd ⟨rfl, u, rfl⟩
      obtain ⟨r1, hr1, rfl⟩ := List.mem_map.mp (List.mem_of_getElem? hd)
      obtain ⟨m1, m2⟩ := List.mem_filter.mp hr1
      have hl1 := (rowsN_at m1).1
      refine ws_cons (w1_ifE (p := false) (EB.to (b := !decide ((PyData.list [tI (lightOf r1), tI (lightOf r1)]).shown = (PyData.list [tI (lightOf r1), tI (lightOf r1)]).shown)) (eb_cmp (by rfl) (ee_reprD (ee_lst2 (ee_tidy_by ?_ ?_ hb m2 (by assumption) (by assumption) (by decide) (by rfl) (by rfl) (by rfl) (by rfl)) (ee_tidy_by ?_ ?_ hb m2 (by assumption) (by assumption) (by decide) (by rfl) (by rfl) (by rfl) (by rfl)) (by rfl) (by rfl)) (two_sm (light_sm (by omega))) (by rfl) (by decide) (by decide) hgd (by have := hr.un; omega) (by rfl) (by walk_at "mg") (by rfl)) (ee_reprD (EE.to (ee_bin (d1 := .list [tI (lightOf r1)]) (d2 := .int ((2 : Nat) : Int)) (ee_lst1 (ee__law_light ?_ (by omega) (by assumption) (by assumption) (by decide) (by rfl) (by rfl) (by rfl)) (by rfl)) ee_int (bv_rep1 (by decide))) rfl) (two_sm (light_sm (by omega))) (by rfl) (by decide) (by decide) hgd (by have := hr.un; omega) (by rfl) (by walk_at "mg") (by rfl)) bv_neS) (by rw [decide_eq_true rfl]; rfl)) (fun h => nomatch h) (fun _ => ws_nil (ws_nil ⟨rfl, _, rfl⟩)))
      · walk_at "any"
      · walk_at "any"
      · walk_at "any"
      · walk_at "any"
      · walk_at "any"
    rintro δ' M2 ⟨rfl, u2, rfl⟩
    have eqTup : ∀ (x : Str) (ns : List Int), PyData.eqv (.tuple [.str x, tI ns]) (.tuple [.str x, tI ns]) = true := fun x ns => by
      rw [PyData.eqv, PyData.eqvAll, PyData.eqvAll, PyData.eqvAll, PyData.eqv, eqv_tI]
      simp
    have eqLst : ∀ x : Str, PyData.eqv (.list [.str x]) (.list [.str x]) = true := fun x => by
      rw [PyData.eqv, PyData.eqvAll, PyData.eqvAll, PyData.eqv]
      simp
    have okH : PyData.strOk "halves" = true := by decide +kernel
    have okC : PyData.strOk "clash" = true := by decide +kernel
    have shp : ∀ (x : Str) (ns : List Int), PyData.strOk x = true → SeqAt.shaped (.tuple [.str x, tI ns]) = true := fun x ns hx => (dep_tuple (k := 1) (fun d hd => by
      rcases List.mem_cons.mp hd with z | z
      · rw [z]; exact (dep_str hx).mono (by decide)
      · rw [List.mem_singleton.mp z]; exact dep_tI)).shaped (by decide)
    have shl : ∀ x : Str, PyData.strOk x = true → SeqAt.shaped (.list [.str x]) = true := fun x hx => (dep_list (k := 0) (fun d hd => by
      rw [List.mem_singleton.mp hd]; exact dep_str hx)).shaped (by decide)
    have fin : ∀ (x : Str) (ns : List Int), PyData.strOk x = true → paperW n bs = .tuple [.str x, tI ns] → wordW n bs = .str x → WS (Xj P w K mg base ["bundle", "rows", "kept", "halves", "row", "sheet", "word"] "_law_bundle_right" 60 a cdv A outer s H E) ((defBody (top 60)).drop 6) [some (.d (bun n bs)), some (.d (.list ((rowsN 3 n).map tI))), some (.d (.str (bun n bs).shown)), some (.d (.tuple ((halvsL n bs).map tI))), u2, some (.d (paperW n bs)), some (.d (.str x))] M2 { nx := fun _ M' => Φ (.d .none) M', rt := Φ } := fun x ns hx e1 e2 => by
      refine ws_cons (w1_ifE (p := false) (EB.to (EW.eb (ew_or (p := false) (r := false) (EB.to (b := !PyData.eqv (.list [.str x]) (.list [.str x])) (eb_cmp (by rfl) (d1 := .list [.str x]) (d2 := .list [.str x]) (EE.to (ee__law_due ?_ ?_ hb' (by assumption) (by assumption) (by decide) (by rfl) (by rfl) (by rfl) (by rfl)) (by rw [e2])) (ee_lst1 ?_ (by rfl)) (bv_neD hr.units (shl x hx) (shl x hx))) (by rw [eqLst]; rfl)) (fun _ => ew_or (p := false) (r := false) (EB.to (b := !decide (x = x)) (eb_cmp (by rfl) (d1 := .str x) (d2 := .str x) (EE.to (ee_check_halves ?_ ?_ hb (by assumption) (by assumption) (by decide) (by rfl) (by rfl) (by rfl) (by rfl)) e2) ?_ bv_neS) (by rw [decide_eq_true rfl]; rfl)) (fun _ => ew_or1 (EB.to (b := !PyData.eqv (.tuple [.str x, tI ns]) (.tuple [.str x, tI ns])) (eb_cmp (by rfl) (d1 := .tuple [.str x, tI ns]) (d2 := .tuple [.str x, tI ns]) (EE.to (ee_halves_paper ?_ hb (by assumption) (by assumption) (by decide) (by rfl) (by rfl) (by rfl)) e1) (EE.to (d := paperW n bs) ?_ e1) (bv_neD hr.units (shp x ns hx) (shp x ns hx))) (by rw [eqTup]; rfl)))))) rfl) (fun h => nomatch h) (fun _ => ws_nil ?_))
      · walk_at "any"
      · walk_at "any"
      · walk_at "any"
      · walk_at "any"
      · walk_at "any"
      · walk_at "any"
      · walk_at "any"
      · walk_at "any"
      refine ws_cons (w1_retE (d := .bool true) (EE.to (ee_cmp (by rfl) (d1 := .str (bun n bs).shown) (d2 := .str (bun n bs).shown) (ee_reprD ?_ (sm_bun hb') (by rfl) (by decide) (by decide) hgd (by have := hr.un; omega) (by rfl) (by walk_at "mg") (by rfl)) ?_ bv_eqS) (by rw [decide_eq_true rfl])) q)
      · walk_at "any"
      · walk_at "any"
    have shT : SeqAt.shaped (.tuple ((halvsL n bs).map tI)) = true := dep_ttI.shaped (by decide)
    have shE : SeqAt.shaped (.tuple []) = true := (dep_tuple (k := 0) (ds := []) (fun _ h => (nomatch h))).shaped (by decide)
    by_cases hg : goodW n bs
    · refine ws_cons (w1_par (i := 5) (j := 6) (by rfl) (by walk_at "nd") (by rfl) (by rfl) (by decide) (by rfl) (by rfl) (by rfl) (by rfl) (EA_of (ea_cons (d := paperW n bs) (by rfl) (ee_halves_paper ?_ hb (by assumption) (by assumption) (by decide) (by rfl) (by rfl) (by rfl)) (ea_cons (d := .str "halves") (by rfl) (EE.to (ee_if (p := true) (d1 := .str "halves") (d2 := .none) (EB.to (b := !PyData.eqv (.tuple ((halvsL n bs).map tI)) (.tuple [])) (eb_cmp (by rfl) ?_ ee_tup0 (bv_neD hr.units shT shE)) (by rw [eqv_tupNil, halvs_good hb' hg]; rfl)) (fun _ => ?_) (fun h => nomatch h)) rfl) ea_nil)) ⟨rfl, fin "halves" _ okH (paperW_yes hg) (wordW_yes hg)⟩))
      · walk_at "any"
      · walk_at "any"
      · walk_at "any"
    · refine ws_cons (w1_par (i := 5) (j := 6) (by rfl) (by walk_at "nd") (by rfl) (by rfl) (by decide) (by rfl) (by rfl) (by rfl) (by rfl) (EA_of (ea_cons (d := paperW n bs) (by rfl) (ee_halves_paper ?_ hb (by assumption) (by assumption) (by decide) (by rfl) (by rfl) (by rfl)) (ea_cons (d := .str "clash") (by rfl) (EE.to (ee_if (p := false) (d1 := .none) (d2 := .str "clash") (EB.to (b := !PyData.eqv (.tuple ((halvsL n bs).map tI)) (.tuple [])) (eb_cmp (by rfl) ?_ ee_tup0 (bv_neD hr.units shT shE)) (by rw [eqv_tupNil, halvs_bad hb' hg]; rfl)) (fun h => nomatch h) (fun _ => ?_)) rfl) ea_nil)) ⟨rfl, fin "clash" _ okC (paperW_no hg) (wordW_no hg)⟩))
      · walk_at "any"
      · walk_at "any"
      · walk_at "any"
end
end KP
namespace KP
open PySem PySem.Spec PyProof.Rows L2 DL
section
variable {P : Program} {w : World} {K : PySem.W.Frag} {mg : Str → Option Value} {base : Heap}
/-! steps -/
local macro_rules | `(tactic| walk_at "vis") => `(tactic| first | exact vis_l (by rfl) | exact vis_c (by rfl) | exact vis_f (by rfl))
local macro_rules | `(tactic| walk_at "vs") => `(tactic| first | rfl | (walk_at "vis") | decide)
local macro_rules | `(tactic| walk_at "mg") => `(tactic| exact z_of (by assumption) (by decide +kernel))
local macro_rules | `(tactic| walk_at "var") => `(tactic| fail)
local macro_rules | `(tactic| walk_at "glo") => `(tactic| first | exact ee_names (by assumption) (by rfl) (by rfl) | exact ee_clauses (by assumption) (by rfl) (by rfl) | exact ee_halvesS (by assumption) (by rfl) (by rfl) | exact ee_clashS (by assumption) (by rfl) (by rfl))
local macro_rules | `(tactic| walk_at "side") => `(tactic| first | assumption | ((with_reducible apply atI_litG); rfl) | ((fail_if_success (with_reducible apply atI_litG)); skip))
local macro_rules | `(tactic| walk_at "call") => `(tactic| fail)
local macro_rules | `(tactic| walk_at "bv") => `(tactic| first
  | (with_reducible apply bv_gB); first
    | (with_reducible exact bv_add) | (with_reducible exact bv_sub) | (with_reducible apply bv_mulS; walk_at "side") | (with_reducible apply bv_divS; walk_at "side") | (with_reducible apply bv_mod; walk_at "side") | (with_reducible apply bv_powS; walk_at "side")
    | (with_reducible apply bv_cat <;> walk_at "side") | (with_reducible apply bv_rep1 <;> walk_at "side") | (with_reducible apply bv_rep <;> walk_at "side") | (with_reducible apply bv_catT <;> walk_at "side")
  | (with_reducible apply bv_gC); first
    | (with_reducible exact bv_lt) | (with_reducible exact bv_le) | (with_reducible exact bv_gt) | (with_reducible exact bv_ge) | (with_reducible exact bv_eqI) | (with_reducible exact bv_neI) | (with_reducible exact bv_eqS) | (with_reducible exact bv_neS) | (with_reducible exact bv_isNone) | (with_reducible exact bv_inT) | (with_reducible exact bv_notin2)
    | (with_reducible apply bv_eqD <;> walk_at "side") | (with_reducible apply bv_neD <;> walk_at "side") | (with_reducible apply bv_inD <;> walk_at "side"))
local macro_rules | `(tactic| walk_at "any") => `(tactic| first
  | (with_reducible apply ee_id); walk_at "go"
  | (with_reducible apply ea_id); first | (with_reducible exact ea_nil) | ((with_reducible apply ea_cons) <;> walk_at "any")
  | (with_reducible apply eb_id); walk_at "gb"
  | (with_reducible apply ew_id); walk_at "gw"
  | (with_reducible apply eo_id); first | (with_reducible exact eo_none) | (apply eo_some; walk_at "go")
  | (with_reducible apply bv_id); walk_at "bv"
  | (fail_if_success (with_reducible apply ee_id)); (fail_if_success (with_reducible apply ea_id)); (fail_if_success (with_reducible apply eb_id)); (fail_if_success (with_reducible apply ew_id)); (fail_if_success (with_reducible apply bv_id)); first
    | (intro _; walk_at "any")
    | rfl | (walk_at "mg") | decide | (intro _; rfl) | (intro _ _; rfl) | (walk_at "side"))
local macro_rules | `(tactic| walk_at "gb") => `(tactic| first
  | (with_reducible apply eb_not); walk_at "gb"
  | (with_reducible apply eb_cmp) <;> walk_at "any"
  | (with_reducible apply EW.eb); walk_at "gw"
  | (apply eb_val) <;> walk_at "any")
local macro_rules | `(tactic| walk_at "gw") => `(tactic| first
  | (with_reducible apply ew_and) <;> walk_at "any"
  | (with_reducible apply ew_or) <;> walk_at "any"
  | (with_reducible apply ew_and1); walk_at "gb"
  | (with_reducible apply ew_or1); walk_at "gb")
local macro_rules | `(tactic| walk_at "go") => `(tactic| first
  | (with_reducible apply ee_nm); first | walk_at "var" | walk_at "glo"
  | (with_reducible apply g_const); first | (with_reducible exact ee_int) | (with_reducible exact ee_str) | (with_reducible exact ee_bl) | (with_reducible exact ee_non)
  | (with_reducible apply g_call); first
    | (with_reducible apply g_call1); first | ((with_reducible apply ee_lenL) <;> walk_at "any") | ((with_reducible apply ee_lenT) <;> walk_at "any") | ((with_reducible apply ee_intIN) <;> walk_at "any") | ((with_reducible apply ee_intBN) <;> walk_at "any") | ((with_reducible apply ee_tupN) <;> walk_at "any") | ((with_reducible apply ee_absN) <;> walk_at "any") | ((with_reducible apply ee_sumN) <;> walk_at "any") | ((with_reducible apply ee_sumTN) <;> walk_at "any") | ((with_reducible apply ee_allN) <;> walk_at "any") | ((with_reducible apply ee_lstN) <;> walk_at "any") | walk_at "call"
    | (with_reducible apply g_call2); first | ((with_reducible apply ee_isInt) <;> walk_at "any") | ((with_reducible apply ee_isBool) <;> walk_at "any") | ((with_reducible apply ee_isTup) <;> walk_at "any") | ((with_reducible apply ee_isStr) <;> walk_at "any") | ((with_reducible apply ee_minN) <;> walk_at "any") | ((with_reducible apply ee_maxN) <;> walk_at "any") | walk_at "call"
    | walk_at "call"
  | ((with_reducible apply ee_bin) <;> walk_at "any")
  | (with_reducible apply g_cmp); first | ((with_reducible apply ee_cmp) <;> walk_at "any") | ((with_reducible apply ee_chain) <;> walk_at "any")
  | (with_reducible apply g_sub); first | ((with_reducible apply ee_slL) <;> walk_at "any") | ((with_reducible apply ee_cell) <;> walk_at "any") | ((with_reducible apply ee_ixT) <;> walk_at "any") | ((with_reducible apply ee_ixL) <;> walk_at "any")
  | (with_reducible apply g_un); first | ((with_reducible apply ee_not); walk_at "go") | (with_reducible exact ee_neg)
  | (with_reducible apply g_bool); first | ((with_reducible apply ee_and) <;> walk_at "any") | ((with_reducible apply ee_or) <;> walk_at "any") | ((with_reducible apply ee_and1) <;> walk_at "any")
  | (with_reducible apply g_if); first | ((with_reducible apply ee_ifI) <;> walk_at "any") | ((with_reducible apply ee_if) <;> walk_at "any")
  | (with_reducible apply g_lst); first | ((with_reducible apply ee_lst0) <;> walk_at "any") | ((with_reducible apply ee_lst1) <;> walk_at "any") | ((with_reducible apply ee_lst2) <;> walk_at "any") | ((with_reducible apply ee_lst3) <;> walk_at "any") | ((with_reducible apply ee_lst4) <;> walk_at "any")
  | (with_reducible apply g_tup); first | ((with_reducible apply ee_tup0) <;> walk_at "any") | ((with_reducible apply ee_tup1) <;> walk_at "any") | ((with_reducible apply ee_tup2) <;> walk_at "any") | ((with_reducible apply ee_tup3) <;> walk_at "any") | ((with_reducible apply ee_tup4) <;> walk_at "any"))
local macro_rules | `(tactic| walk_at "loc") => `(tactic| first | exact .inl (by rfl) | exact .inr (by rfl))
local macro_rules | `(tactic| walk_at "locf") => `(tactic| first | exact .inr (by rfl) | exact .inl (by rfl))
local macro_rules | `(tactic| walk_at "iv") => `(tactic| first
  | ((with_reducible apply iv_tup); walk_at "go") | ((with_reducible apply iv_list); walk_at "go")
  | ((with_reducible apply iv_range) <;> walk_at "any") | ((with_reducible apply iv_range2) <;> walk_at "any")
  | ((with_reducible apply iv_enumL) <;> walk_at "any") | ((with_reducible apply iv_enumT) <;> walk_at "any") | ((with_reducible apply iv_enumT1) <;> walk_at "any")
  | ((with_reducible apply iv_zipL) <;> walk_at "any") | ((with_reducible apply iv_zipT) <;> walk_at "any"))
local macro_rules | `(tactic| walk_at "fm") => `(tactic| ((try rw [filter_tt]); first | rfl | (rw [List.map_map]; done) | (rw [List.map_map]; rfl) | (simp only [lI, tI, List.map_map]; done) | (simp only [lI, tI, List.map_map]; rfl)))





local macro_rules | `(tactic| walk_at "call") => `(tactic| (with_reducible apply ee__law_mixed) <;> walk_at "any")
local macro_rules | `(tactic| walk_at "call") => `(tactic| (with_reducible apply ee__law_rows) <;> walk_at "any")
local macro_rules | `(tactic| walk_at "call") => `(tactic| (with_reducible apply ee__law_do_clash) <;> walk_at "any")
local macro_rules | `(tactic| walk_at "call") => `(tactic| (with_reducible apply ee__law_due) <;> walk_at "any")
local macro_rules | `(tactic| walk_at "call") => `(tactic| (with_reducible apply ee__law_light) <;> walk_at "any")
local macro_rules | `(tactic| walk_at "call") => `(tactic| (with_reducible apply ee_all_halves) <;> walk_at "any")
local macro_rules | `(tactic| walk_at "call") => `(tactic| (with_reducible apply ee__law_is_int) <;> walk_at "any")
local macro_rules | `(tactic| walk_at "call") => `(tactic| (with_reducible apply ee__law_weight) <;> walk_at "any")
local macro_rules | `(tactic| walk_at "call") => `(tactic| (with_reducible apply ee__law_does_weigh) <;> walk_at "any")
local macro_rules | `(tactic| walk_at "call") => `(tactic| (with_reducible apply ee__law_are_halves) <;> walk_at "any")
local macro_rules | `(tactic| walk_at "call") => `(tactic| ((with_reducible apply ee_sortedP) <;> walk_at "any"))
local macro_rules | `(tactic| walk_at "call") => `(tactic| (with_reducible apply ee_by_names) <;> walk_at "any")
local macro_rules | `(tactic| walk_at "call") => `(tactic| (with_reducible apply ee_need_weighing) <;> walk_at "any")
local macro_rules | `(tactic| walk_at "call") => `(tactic| (with_reducible apply ee_rounded) <;> walk_at "any")
local macro_rules | `(tactic| walk_at "call") => `(tactic| (with_reducible apply ee_light_setting) <;> walk_at "any")
local macro_rules | `(tactic| walk_at "call") => `(tactic| (with_reducible apply ee_tidy_by) <;> walk_at "any")
local macro_rules | `(tactic| walk_at "call") => `(tactic| (with_reducible apply ee_halves_paper) <;> walk_at "any")
local macro_rules | `(tactic| walk_at "call") => `(tactic| (with_reducible apply ee_check_halves) <;> walk_at "any")
local macro_rules | `(tactic| walk_at "call") => `(tactic| (with_reducible apply ee_weighed_in) <;> walk_at "any")
local macro_rules | `(tactic| walk_at "call") => `(tactic| (with_reducible apply ee_need_bundle) <;> walk_at "any")
local macro_rules | `(tactic| walk_at "call") => `(tactic| (with_reducible apply ee_are_halves) <;> walk_at "any")
local macro_rules | `(tactic| walk_at "call") => `(tactic| (with_reducible apply ee_need_form) <;> walk_at "any")
local macro_rules | `(tactic| walk_at "call") => `(tactic| (with_reducible apply ee_greatest_of) <;> walk_at "any")
local macro_rules | `(tactic| walk_at "call") => `(tactic| (with_reducible apply ee_first_table) <;> walk_at "any")

local macro_rules | `(tactic| walk_at "call") => `(tactic| (with_reducible apply ee_turned_table) <;> walk_at "any")
local macro_rules | `(tactic| walk_at "call") => `(tactic| (with_reducible apply ee_do_clash) <;> walk_at "any")
local macro_rules | `(tactic| walk_at "call") => `(tactic| (with_reducible apply ee_is_row) <;> walk_at "any")
local macro_rules | `(tactic| walk_at "call") => `(tactic| (with_reducible apply ee_are_halves_of) <;> walk_at "any")
local macro_rules | `(tactic| walk_at "call") => `(tactic| (with_reducible apply ee_rounded_row) <;> walk_at "any")
local macro_rules | `(tactic| walk_at "call") => `(tactic| (with_reducible apply ee_rounded_rowL) <;> walk_at "any")
local macro_rules | `(tactic| walk_at "call") => `(tactic| (with_reducible apply ee_sign_in) <;> walk_at "any")
local macro_rules | `(tactic| walk_at "call") => `(tactic| (with_reducible apply ee_heft_at) <;> walk_at "any")
local macro_rules | `(tactic| walk_at "call") => `(tactic| (with_reducible apply ee_are_rising) <;> walk_at "any")
local macro_rules | `(tactic| walk_at "call") => `(tactic| (with_reducible apply ee_is_literal) <;> walk_at "any")
local macro_rules | `(tactic| walk_at "call") => `(tactic| (with_reducible apply ee_is_clause) <;> walk_at "any")
local macro_rules | `(tactic| walk_at "call") => `(tactic| (with_reducible apply ee_weight_of) <;> walk_at "any")
local macro_rules | `(tactic| walk_at "call") => `(tactic| (with_reducible apply ee_does_weigh) <;> walk_at "any")
local macro_rules | `(tactic| walk_at "call") => `(tactic| (with_reducible apply ee_is_integer) <;> walk_at "any")
local macro_rules | `(tactic| walk_at "call") => `(tactic| (with_reducible apply ee_is_between) <;> walk_at "any")
def oddsD : List PyData := [.none, .int 5, tI [1], tI [1, 1, 1, 1], .list [.int 1, .int 1, .int 1], .tuple [.int 1, .int 1, .bool true], tI [1, 1, 3], .tuple [.int 1, .int 1, .int (-1)], .tuple [.int 1, .int 1, .none], .str "111"]
theorem odds_ok {d : PyData} (h : d ∈ oddsD) : flatD d = true ∧ (intsOf d).length ≤ 100000 ∧ halvD 3 [] d = false := by
  unfold oddsD at h
  rcases List.mem_cons.mp h with z | h
  · rw [z]; exact ⟨rfl, by decide, rfl⟩
  rcases List.mem_cons.mp h with z | h
  · rw [z]; exact ⟨rfl, by decide, rfl⟩
  rcases List.mem_cons.mp h with z | h
  · rw [z]; exact ⟨rfl, by decide, rfl⟩
  rcases List.mem_cons.mp h with z | h
  · rw [z]; exact ⟨rfl, by decide, rfl⟩
  rcases List.mem_cons.mp h with z | h
  · rw [z]; exact ⟨rfl, by decide, rfl⟩
  rcases List.mem_cons.mp h with z | h
  · rw [z]; exact ⟨rfl, by decide, rfl⟩
  rcases List.mem_cons.mp h with z | h
  · rw [z]; exact ⟨rfl, by decide, rfl⟩
  rcases List.mem_cons.mp h with z | h
  · rw [z]; exact ⟨rfl, by decide, rfl⟩
  rcases List.mem_cons.mp h with z | h
  · rw [z]; exact ⟨rfl, by decide, rfl⟩
  · rw [List.mem_singleton.mp h]; exact ⟨rfl, by decide, rfl⟩
theorem bu_nil {n : Nat} (h1 : 1 ≤ n) (h2 : n ≤ 7) : BuOk n [] := ⟨⟨fun c hc => (nomatch hc), by decide, h1, h2⟩, fun j hj => absurd hj (by simp)⟩
theorem bu_one {n : Nat} (h1 : 1 ≤ n) (h2 : n ≤ 7) {c : List Int} (hc : IC.ClOk n c) : BuOk n [c] := ⟨⟨fun x hx => by rw [List.mem_singleton.mp hx]; exact hc, (by show 1 ≤ 16; decide), h1, h2⟩, fun j hj => absurd hj (by simp)⟩
theorem bu_two {n : Nat} (h1 : 1 ≤ n) (h2 : n ≤ 7) {c d : List Int} (hc : IC.ClOk n c) (hd : IC.ClOk n d) (hl : c < d) : BuOk n [c, d] := ⟨⟨fun x hx => by
  rcases List.mem_cons.mp hx with z | z
  · rw [z]; exact hc
  · rw [List.mem_singleton.mp z]; exact hd, (by show 2 ≤ 16; decide), h1, h2⟩, fun j hj => by
  have hj : j + 1 < 2 := hj
  have : j = 0 := by omega
  subst this
  exact hl⟩
def told0 : List PyData := [.bool (PyData.eqv (.tuple (((rowsN 3 3).filter fun row => IC.doesW 2 row [[-1, -2, -3], [1, 2, 3]]).map tI)) (.tuple [])), .tuple (((rowsN 3 1).filter fun row => IC.doesW 2 row [[]]).map tI), .tuple (((rowsN 3 2).filter fun row => IC.doesW 2 row [[-1, -2], [1, 2]]).map tI)]
def toldY : List PyData := [.bool true, .tuple [tI [0], tI [1], tI [2]], .tuple [tI [0, 2], tI [1, 1], tI [2, 0]]]
def toldX : List PyData := toldY ++ List.replicate 10 (.bool false)
theorem told_ok : SeqAt.shaped (.list (told0 ++ List.replicate oddsD.length (.bool false))) = true ∧ SeqAt.shaped (.list toldX) = true ∧ PyData.eqv (.list (told0 ++ List.replicate oddsD.length (.bool false))) (.list toldX) = true := ⟨by decide +kernel, by decide +kernel, by decide +kernel⟩
def clB (n : Nat) (c : List Int) : Bool := (c.all fun l => decide (1 ≤ l.natAbs) && decide (l.natAbs ≤ n)) && decide ((c.map Int.natAbs).Pairwise (· < ·))
theorem cl_by {n : Nat} {c : List Int} (h : clB n c = true) : IC.ClOk n c := by
  have h := Bool.and_eq_true_iff.mp h
  refine ⟨fun l hl => ?_, of_decide_eq_true h.2⟩
  have := Bool.and_eq_true_iff.mp (List.all_eq_true.mp h.1 l hl)
  exact ⟨of_decide_eq_true this.1, of_decide_eq_true this.2⟩
def lawD (K : PySem.W.Frag) : DS := fun xs M Φ => ∃ (a : Addr) (ns : List Int), xs = [.m a] ∧ Scr K M a ns ∧ ns.length ≤ 100000 ∧ ∀ M', Φ (.d (.bool true)) M'
theorem begD_mono (K : PySem.W.Frag) : ∀ xs M1 (Φ Φ' : S → Mu → Prop), begD K xs M1 Φ → (∀ x M2, Φ x M2 → Φ' x M2) → begD K xs M1 Φ' := fun xs M1 Φ Φ' ⟨a, ns, h1, h2, h3, h4⟩ mo => ⟨a, ns, h1, h2, h3, fun st l cs M' a b => mo _ _ (h4 st l cs M' a b)⟩
theorem sc61 : FnScope ["script", "state", "turn", "bundle", "some", "told", "odd"] ["script"] (defScope (top 61)) := ⟨rfl, rfl, rfl, by decide +kernel, rfl, by decide +kernel, by decide +kernel⟩
local macro_rules | `(tactic| walk_at "var") => `(tactic| first | ((with_reducible apply ee_varQ (x := "script") (i := 0)) <;> walk_at "vs") | ((with_reducible apply ee_varQ (x := "state") (i := 1)) <;> walk_at "vs") | ((with_reducible apply ee_varQ (x := "turn") (i := 2)) <;> walk_at "vs") | ((with_reducible apply ee_varQ (x := "bundle") (i := 3)) <;> walk_at "vs") | ((with_reducible apply ee_varQ (x := "some") (i := 4)) <;> walk_at "vs") | ((with_reducible apply ee_varQ (x := "told") (i := 5)) <;> walk_at "vs") | ((with_reducible apply ee_varQ (x := "odd") (i := 6)) <;> walk_at "vs"))
local macro_rules | `(tactic| walk_at "nd") => `(tactic| exact sc61.nd)
abbrev XL (P : Program) (w : World) (K : PySem.W.Frag) (mg : Str → Option Value) (base : Heap) (a : Addr) (cdv : Value) (A : Around) (outer : List Env) (s : Shared) (H : Hp) (E : XK) : Cx := Xj P w K mg base ["script", "state", "turn", "bundle", "some", "told", "odd"] "law" 61 a cdv A outer s H E
theorem law_6 (T : Txt K mg) {a : Addr} {cdv : Value} {A : Around} {outer : List Env} {s : Shared} {H : Hp} {E : XK} {M : Mu} {Φ : S → Mu → Prop} (hgd : (XL P w K mg base a cdv A outer s H E).A.guards = some []) (hr : Room 7 (XL P w K mg base a cdv A outer s H E).A) (q : ∀ M', Φ (.d (.bool true)) M') {δ : En} : WS (XL P w K mg base a cdv A outer s H E) ((defBody (top 61)).drop 6) δ M { nx := fun _ M' => Φ (.d .none) M', rt := Φ } := by
  have b5 : BuOk 1 [] := bu_nil (by decide) (by decide)
  have b6 : BuOk 5 [[1, 2, 3, 4, 5]] := bu_one (by decide) (by decide) (cl_by rfl)
  have hsr : ∀ x ∈ [(1 : Int)], sml x := fun x hx => by
    rw [List.mem_singleton.mp hx]
    show (1 : Nat).log2 < 9000
    decide +kernel
  refine ws_cons ?_
  with_reducible refine w1_ret ?_
  with_reducible refine ev_and (p := true) ?_ ?_ ?_
  · with_reducible refine EE.to (d := .bool (PyData.eqv (tI (IC.roundRow ((10 : Int) ^ (50 : Int).toNat) [1])) (tI [0]))) ?_ ?_
    · with_reducible refine ee_cmp (d1 := tI (IC.roundRow ((10 : Int) ^ (50 : Int).toNat) [1])) (d2 := tI [0]) ?_ ?_ ?_ ?_
      · rfl
      · with_reducible refine ee_rounded (n := 1) (cs := []) (v := (10 : Int) ^ (50 : Int).toNat) (row := [1]) (k' := 7) ?_ ?_ b5 ?_ ?_ ?_ hsr ?_ ?_ ?_ ?_ ?_ ?_ ?_
        · with_reducible refine EE.to (d := .tuple [.int 1, .tuple []]) ?_ ?_
          · walk_at "any"
          · rfl
        · with_reducible refine ee_tup2 (d0 := .int ((10 : Int) ^ (50 : Int).toNat)) (d1 := tI [1]) ?_ ?_ ?_ ?_
          · with_reducible refine ee_bin (d1 := .int 10) (d2 := .int 50) ?_ ?_ ?_
            · walk_at "any"
            · walk_at "any"
            · exact bv_powS (by decide)
          · with_reducible refine EE.to (d := .tuple [.int 1]) ?_ ?_
            · walk_at "any"
            · rfl
          · rfl
          · rfl
        · decide +kernel
        · decide +kernel
        · rfl
        · exact T
        · exact hr
        · decide
        · rfl
        · rfl
        · rfl
        · rfl
      · with_reducible refine EE.to (d := .tuple [.int 0]) ?_ ?_
        · walk_at "any"
        · rfl
      · exact bv_eqD hr.units (dep_tI.shaped (by decide)) (dep_tI.shaped (by decide))
    · rw [eqv_tI]; exact congrArg PyData.bool (decide_eq_true (by decide +kernel))
  · intro _
    with_reducible refine ev_and1 ?_
    have FB : FnE (XL P w K mg base a cdv A outer s H E).prog (XL P w K mg base a cdv A outer s H E).w (XL P w K mg base a cdv A outer s H E).K (XL P w K mg base a cdv A outer s H E).mg (XL P w K mg base a cdv A outer s H E).base _ "_law_bundle_right" _ _ := ok__law_bundle_right T
    with_reducible refine ev_callG (k' := 7) FB hgd hr ?_ ?_ ?_ ?_ ?_ ?_ ?_
    · decide
    · rfl
    · rfl
    · rfl
    · refine EA_of ?_ (xs := [.d (bun 5 [[1, 2, 3, 4, 5]])]) ⟨.bool true, ⟨5, [[1, 2, 3, 4, 5]], rfl, b6, by decide, rfl⟩, q _⟩
      with_reducible refine ea_cons ?_ ?_ ea_nil
      · rfl
      · with_reducible refine EE.to (d := .tuple [.int 5, .tuple [.tuple [.int 1, .int 2, .int 3, .int 4, .int 5]]]) ?_ ?_
        · with_reducible refine ee_tup2 ?_ ?_ ?_ ?_
          · walk_at "any"
          · with_reducible refine ee_tup1 ?_ ?_
            · with_reducible refine ee_tup (ds := [.int 1, .int 2, .int 3, .int 4, .int 5]) ?_ ?_
              · show EA _ _ _ [S.d (.int 1), S.d (.int 2), S.d (.int 3), S.d (.int 4), S.d (.int 5)]
                walk_at "any"
              · decide
            · rfl
          · rfl
          · rfl
        · rfl
    · exact pureD_mono _
    · decide
  · exact fun h => nomatch h
end
end KP
namespace KP
open PySem PySem.Spec PyProof.Rows L2 DL
section
variable {P : Program} {w : World} {K : PySem.W.Frag} {mg : Str → Option Value} {base : Heap}
/-! steps -/
local macro_rules | `(tactic| walk_at "vis") => `(tactic| first | exact vis_l (by rfl) | exact vis_c (by rfl) | exact vis_f (by rfl))
local macro_rules | `(tactic| walk_at "vs") => `(tactic| first | rfl | (walk_at "vis") | decide)
local macro_rules | `(tactic| walk_at "mg") => `(tactic| exact z_of (by assumption) (by decide +kernel))
local macro_rules | `(tactic| walk_at "var") => `(tactic| fail)
local macro_rules | `(tactic| walk_at "glo") => `(tactic| first | exact ee_names (by assumption) (by rfl) (by rfl) | exact ee_clauses (by assumption) (by rfl) (by rfl) | exact ee_halvesS (by assumption) (by rfl) (by rfl) | exact ee_clashS (by assumption) (by rfl) (by rfl))
local macro_rules | `(tactic| walk_at "side") => `(tactic| first | assumption | ((with_reducible apply atI_litG); rfl) | ((fail_if_success (with_reducible apply atI_litG)); skip))
local macro_rules | `(tactic| walk_at "call") => `(tactic| fail)
local macro_rules | `(tactic| walk_at "bv") => `(tactic| first
  | (with_reducible apply bv_gB); first
    | (with_reducible exact bv_add) | (with_reducible exact bv_sub) | (with_reducible apply bv_mulS; walk_at "side") | (with_reducible apply bv_divS; walk_at "side") | (with_reducible apply bv_mod; walk_at "side") | (with_reducible apply bv_powS; walk_at "side")
    | (with_reducible apply bv_cat <;> walk_at "side") | (with_reducible apply bv_rep1 <;> walk_at "side") | (with_reducible apply bv_rep <;> walk_at "side") | (with_reducible apply bv_catT <;> walk_at "side")
  | (with_reducible apply bv_gC); first
    | (with_reducible exact bv_lt) | (with_reducible exact bv_le) | (with_reducible exact bv_gt) | (with_reducible exact bv_ge) | (with_reducible exact bv_eqI) | (with_reducible exact bv_neI) | (with_reducible exact bv_eqS) | (with_reducible exact bv_neS) | (with_reducible exact bv_isNone) | (with_reducible exact bv_inT) | (with_reducible exact bv_notin2)
    | (with_reducible apply bv_eqD <;> walk_at "side") | (with_reducible apply bv_neD <;> walk_at "side") | (with_reducible apply bv_inD <;> walk_at "side"))
local macro_rules | `(tactic| walk_at "any") => `(tactic| first
  | (with_reducible apply ee_id); walk_at "go"
  | (with_reducible apply ea_id); first | (with_reducible exact ea_nil) | ((with_reducible apply ea_cons) <;> walk_at "any")
  | (with_reducible apply eb_id); walk_at "gb"
  | (with_reducible apply ew_id); walk_at "gw"
  | (with_reducible apply eo_id); first | (with_reducible exact eo_none) | (apply eo_some; walk_at "go")
  | (with_reducible apply bv_id); walk_at "bv"
  | (fail_if_success (with_reducible apply ee_id)); (fail_if_success (with_reducible apply ea_id)); (fail_if_success (with_reducible apply eb_id)); (fail_if_success (with_reducible apply ew_id)); (fail_if_success (with_reducible apply bv_id)); first
    | (intro _; walk_at "any")
    | rfl | (walk_at "mg") | decide | (intro _; rfl) | (intro _ _; rfl) | (walk_at "side"))
local macro_rules | `(tactic| walk_at "gb") => `(tactic| first
  | (with_reducible apply eb_not); walk_at "gb"
  | (with_reducible apply eb_cmp) <;> walk_at "any"
  | (with_reducible apply EW.eb); walk_at "gw"
  | (apply eb_val) <;> walk_at "any")
local macro_rules | `(tactic| walk_at "gw") => `(tactic| first
  | (with_reducible apply ew_and) <;> walk_at "any"
  | (with_reducible apply ew_or) <;> walk_at "any"
  | (with_reducible apply ew_and1); walk_at "gb"
  | (with_reducible apply ew_or1); walk_at "gb")
local macro_rules | `(tactic| walk_at "go") => `(tactic| first
  | (with_reducible apply ee_nm); first | walk_at "var" | walk_at "glo"
  | (with_reducible apply g_const); first | (with_reducible exact ee_int) | (with_reducible exact ee_str) | (with_reducible exact ee_bl) | (with_reducible exact ee_non)
  | (with_reducible apply g_call); first
    | (with_reducible apply g_call1); first | ((with_reducible apply ee_lenL) <;> walk_at "any") | ((with_reducible apply ee_lenT) <;> walk_at "any") | ((with_reducible apply ee_intIN) <;> walk_at "any") | ((with_reducible apply ee_intBN) <;> walk_at "any") | ((with_reducible apply ee_tupN) <;> walk_at "any") | ((with_reducible apply ee_absN) <;> walk_at "any") | ((with_reducible apply ee_sumN) <;> walk_at "any") | ((with_reducible apply ee_sumTN) <;> walk_at "any") | ((with_reducible apply ee_allN) <;> walk_at "any") | ((with_reducible apply ee_lstN) <;> walk_at "any") | walk_at "call"
    | (with_reducible apply g_call2); first | ((with_reducible apply ee_isInt) <;> walk_at "any") | ((with_reducible apply ee_isBool) <;> walk_at "any") | ((with_reducible apply ee_isTup) <;> walk_at "any") | ((with_reducible apply ee_isStr) <;> walk_at "any") | ((with_reducible apply ee_minN) <;> walk_at "any") | ((with_reducible apply ee_maxN) <;> walk_at "any") | walk_at "call"
    | walk_at "call"
  | ((with_reducible apply ee_bin) <;> walk_at "any")
  | (with_reducible apply g_cmp); first | ((with_reducible apply ee_cmp) <;> walk_at "any") | ((with_reducible apply ee_chain) <;> walk_at "any")
  | (with_reducible apply g_sub); first | ((with_reducible apply ee_slL) <;> walk_at "any") | ((with_reducible apply ee_cell) <;> walk_at "any") | ((with_reducible apply ee_ixT) <;> walk_at "any") | ((with_reducible apply ee_ixL) <;> walk_at "any")
  | (with_reducible apply g_un); first | ((with_reducible apply ee_not); walk_at "go") | (with_reducible exact ee_neg)
  | (with_reducible apply g_bool); first | ((with_reducible apply ee_and) <;> walk_at "any") | ((with_reducible apply ee_or) <;> walk_at "any") | ((with_reducible apply ee_and1) <;> walk_at "any")
  | (with_reducible apply g_if); first | ((with_reducible apply ee_ifI) <;> walk_at "any") | ((with_reducible apply ee_if) <;> walk_at "any")
  | (with_reducible apply g_lst); first | ((with_reducible apply ee_lst0) <;> walk_at "any") | ((with_reducible apply ee_lst1) <;> walk_at "any") | ((with_reducible apply ee_lst2) <;> walk_at "any") | ((with_reducible apply ee_lst3) <;> walk_at "any") | ((with_reducible apply ee_lst4) <;> walk_at "any")
  | (with_reducible apply g_tup); first | ((with_reducible apply ee_tup0) <;> walk_at "any") | ((with_reducible apply ee_tup1) <;> walk_at "any") | ((with_reducible apply ee_tup2) <;> walk_at "any") | ((with_reducible apply ee_tup3) <;> walk_at "any") | ((with_reducible apply ee_tup4) <;> walk_at "any"))
local macro_rules | `(tactic| walk_at "loc") => `(tactic| first | exact .inl (by rfl) | exact .inr (by rfl))
local macro_rules | `(tactic| walk_at "locf") => `(tactic| first | exact .inr (by rfl) | exact .inl (by rfl))
local macro_rules | `(tactic| walk_at "iv") => `(tactic| first
  | ((with_reducible apply iv_tup); walk_at "go") | ((with_reducible apply iv_list); walk_at "go")
  | ((with_reducible apply iv_range) <;> walk_at "any") | ((with_reducible apply iv_range2) <;> walk_at "any")
  | ((with_reducible apply iv_enumL) <;> walk_at "any") | ((with_reducible apply iv_enumT) <;> walk_at "any") | ((with_reducible apply iv_enumT1) <;> walk_at "any")
  | ((with_reducible apply iv_zipL) <;> walk_at "any") | ((with_reducible apply iv_zipT) <;> walk_at "any"))
local macro_rules | `(tactic| walk_at "fm") => `(tactic| ((try rw [filter_tt]); first | rfl | (rw [List.map_map]; done) | (rw [List.map_map]; rfl) | (simp only [lI, tI, List.map_map]; done) | (simp only [lI, tI, List.map_map]; rfl)))






local macro_rules | `(tactic| walk_at "call") => `(tactic| (with_reducible apply ee__law_mixed) <;> walk_at "any")
local macro_rules | `(tactic| walk_at "call") => `(tactic| (with_reducible apply ee__law_rows) <;> walk_at "any")
local macro_rules | `(tactic| walk_at "call") => `(tactic| (with_reducible apply ee__law_do_clash) <;> walk_at "any")
local macro_rules | `(tactic| walk_at "call") => `(tactic| (with_reducible apply ee__law_due) <;> walk_at "any")
local macro_rules | `(tactic| walk_at "call") => `(tactic| (with_reducible apply ee__law_light) <;> walk_at "any")
local macro_rules | `(tactic| walk_at "call") => `(tactic| (with_reducible apply ee_all_halves) <;> walk_at "any")
local macro_rules | `(tactic| walk_at "call") => `(tactic| (with_reducible apply ee__law_is_int) <;> walk_at "any")
local macro_rules | `(tactic| walk_at "call") => `(tactic| (with_reducible apply ee__law_weight) <;> walk_at "any")
local macro_rules | `(tactic| walk_at "call") => `(tactic| (with_reducible apply ee__law_does_weigh) <;> walk_at "any")
local macro_rules | `(tactic| walk_at "call") => `(tactic| (with_reducible apply ee__law_are_halves) <;> walk_at "any")
local macro_rules | `(tactic| walk_at "call") => `(tactic| ((with_reducible apply ee_sortedP) <;> walk_at "any"))
local macro_rules | `(tactic| walk_at "call") => `(tactic| (with_reducible apply ee_by_names) <;> walk_at "any")
local macro_rules | `(tactic| walk_at "call") => `(tactic| (with_reducible apply ee_need_weighing) <;> walk_at "any")
local macro_rules | `(tactic| walk_at "call") => `(tactic| (with_reducible apply ee_rounded) <;> walk_at "any")
local macro_rules | `(tactic| walk_at "call") => `(tactic| (with_reducible apply ee_light_setting) <;> walk_at "any")
local macro_rules | `(tactic| walk_at "call") => `(tactic| (with_reducible apply ee_tidy_by) <;> walk_at "any")
local macro_rules | `(tactic| walk_at "call") => `(tactic| (with_reducible apply ee_halves_paper) <;> walk_at "any")
local macro_rules | `(tactic| walk_at "call") => `(tactic| (with_reducible apply ee_check_halves) <;> walk_at "any")
local macro_rules | `(tactic| walk_at "call") => `(tactic| (with_reducible apply ee_weighed_in) <;> walk_at "any")
local macro_rules | `(tactic| walk_at "call") => `(tactic| (with_reducible apply ee_need_bundle) <;> walk_at "any")
local macro_rules | `(tactic| walk_at "call") => `(tactic| (with_reducible apply ee_are_halves) <;> walk_at "any")
local macro_rules | `(tactic| walk_at "call") => `(tactic| (with_reducible apply ee_need_form) <;> walk_at "any")
local macro_rules | `(tactic| walk_at "call") => `(tactic| (with_reducible apply ee_greatest_of) <;> walk_at "any")
local macro_rules | `(tactic| walk_at "call") => `(tactic| (with_reducible apply ee_first_table) <;> walk_at "any")

local macro_rules | `(tactic| walk_at "call") => `(tactic| (with_reducible apply ee_turned_table) <;> walk_at "any")
local macro_rules | `(tactic| walk_at "call") => `(tactic| (with_reducible apply ee_do_clash) <;> walk_at "any")
local macro_rules | `(tactic| walk_at "call") => `(tactic| (with_reducible apply ee_is_row) <;> walk_at "any")
local macro_rules | `(tactic| walk_at "call") => `(tactic| (with_reducible apply ee_are_halves_of) <;> walk_at "any")
local macro_rules | `(tactic| walk_at "call") => `(tactic| (with_reducible apply ee_rounded_row) <;> walk_at "any")
local macro_rules | `(tactic| walk_at "call") => `(tactic| (with_reducible apply ee_rounded_rowL) <;> walk_at "any")
local macro_rules | `(tactic| walk_at "call") => `(tactic| (with_reducible apply ee_sign_in) <;> walk_at "any")
local macro_rules | `(tactic| walk_at "call") => `(tactic| (with_reducible apply ee_heft_at) <;> walk_at "any")
local macro_rules | `(tactic| walk_at "call") => `(tactic| (with_reducible apply ee_are_rising) <;> walk_at "any")
local macro_rules | `(tactic| walk_at "call") => `(tactic| (with_reducible apply ee_is_literal) <;> walk_at "any")
local macro_rules | `(tactic| walk_at "call") => `(tactic| (with_reducible apply ee_is_clause) <;> walk_at "any")
local macro_rules | `(tactic| walk_at "call") => `(tactic| (with_reducible apply ee_weight_of) <;> walk_at "any")
local macro_rules | `(tactic| walk_at "call") => `(tactic| (with_reducible apply ee_does_weigh) <;> walk_at "any")
local macro_rules | `(tactic| walk_at "call") => `(tactic| (with_reducible apply ee_is_integer) <;> walk_at "any")
local macro_rules | `(tactic| walk_at "call") => `(tactic| (with_reducible apply ee_is_between) <;> walk_at "any")
local macro_rules | `(tactic| walk_at "var") => `(tactic| first | ((with_reducible apply ee_varQ (x := "script") (i := 0)) <;> walk_at "vs") | ((with_reducible apply ee_varQ (x := "state") (i := 1)) <;> walk_at "vs") | ((with_reducible apply ee_varQ (x := "turn") (i := 2)) <;> walk_at "vs") | ((with_reducible apply ee_varQ (x := "bundle") (i := 3)) <;> walk_at "vs") | ((with_reducible apply ee_varQ (x := "some") (i := 4)) <;> walk_at "vs") | ((with_reducible apply ee_varQ (x := "told") (i := 5)) <;> walk_at "vs") | ((with_reducible apply ee_varQ (x := "odd") (i := 6)) <;> walk_at "vs"))
local macro_rules | `(tactic| walk_at "nd") => `(tactic| exact sc61.nd)
theorem law_5 (T : Txt K mg) {a : Addr} {cdv : Value} {A : Around} {outer : List Env} {s : Shared} {H : Hp} {E : XK} {M : Mu} {Φ : S → Mu → Prop} (hgd : (XL P w K mg base a cdv A outer s H E).A.guards = some []) (hr : Room 7 (XL P w K mg base a cdv A outer s H E).A) (q : ∀ M', Φ (.d (.bool true)) M') {a0 st : Addr} {u1 u2 u : Option S} {TL : List PyData} (t1 : SeqAt.shaped (.list TL) = true) (t3 : PyData.eqv (.list TL) (.list toldX) = true) : WS (XL P w K mg base a cdv A outer s H E) ((defBody (top 61)).drop 5) [some (.m a0), some (.m st), u1, u2, some (.d (.tuple [tI [-1, -2, -3], tI [1, 2, 3]])), some (.d (.list TL)), u] M { nx := fun _ M' => Φ (.d .none) M', rt := Φ } := by
  have t2 := told_ok.2.1
  refine ws_cons ?_
  with_reducible refine w1_ifE (p := false) ?_ ?_ ?_
  · with_reducible refine EB.to (b := !PyData.eqv (.list TL) (.list toldX)) ?_ ?_
    · with_reducible refine eb_cmp (d1 := .list TL) (d2 := .list toldX) ?_ ?_ ?_ ?_
      · rfl
      · walk_at "any"
      · with_reducible refine EE.to (d := .list (toldY ++ List.replicate 10 (.bool false))) ?_ ?_
        · with_reducible refine ee_bin (d1 := .list toldY) (d2 := .list (List.replicate 10 (.bool false))) ?_ ?_ ?_
          · with_reducible refine EE.to (d := .list [.bool true, .tuple [.tuple [.int 0], .tuple [.int 1], .tuple [.int 2]], .tuple [.tuple [.int 0, .int 2], .tuple [.int 1, .int 1], .tuple [.int 2, .int 0]]]) ?_ ?_
            · with_reducible refine ee_lst3 ?_ ?_ ?_ ?_ ?_ ?_
              · walk_at "any"
              · with_reducible refine ee_tup3 ?_ ?_ ?_ ?_ ?_ ?_
                · walk_at "any"
                · walk_at "any"
                · walk_at "any"
                · rfl
                · rfl
                · rfl
              · with_reducible refine ee_tup3 ?_ ?_ ?_ ?_ ?_ ?_
                · walk_at "any"
                · walk_at "any"
                · walk_at "any"
                · rfl
                · rfl
                · rfl
              · rfl
              · rfl
              · rfl
            · rfl
          · with_reducible refine ee_bin (d1 := .list [.bool false]) (d2 := .int ((10 : Nat) : Int)) ?_ ?_ ?_
            · walk_at "any"
            · exact ee_int
            · exact bv_rep1 (by decide)
          · exact bv_cat (by decide)
        · rfl
      · exact bv_neD hr.units t1 t2
    · rw [t3]; rfl
  · exact fun h => nomatch h
  · exact fun _ => ws_nil (law_6 T hgd hr q)
end
end KP
namespace KP
open PySem PySem.Spec PyProof.Rows L2 DL
section
variable {P : Program} {w : World} {K : PySem.W.Frag} {mg : Str → Option Value} {base : Heap}
/-! steps -/
local macro_rules | `(tactic| walk_at "vis") => `(tactic| first | exact vis_l (by rfl) | exact vis_c (by rfl) | exact vis_f (by rfl))
local macro_rules | `(tactic| walk_at "vs") => `(tactic| first | rfl | (walk_at "vis") | decide)
local macro_rules | `(tactic| walk_at "mg") => `(tactic| exact z_of (by assumption) (by decide +kernel))
local macro_rules | `(tactic| walk_at "var") => `(tactic| fail)
local macro_rules | `(tactic| walk_at "glo") => `(tactic| first | exact ee_names (by assumption) (by rfl) (by rfl) | exact ee_clauses (by assumption) (by rfl) (by rfl) | exact ee_halvesS (by assumption) (by rfl) (by rfl) | exact ee_clashS (by assumption) (by rfl) (by rfl))
local macro_rules | `(tactic| walk_at "side") => `(tactic| first | assumption | ((with_reducible apply atI_litG); rfl) | ((fail_if_success (with_reducible apply atI_litG)); skip))
local macro_rules | `(tactic| walk_at "call") => `(tactic| fail)
local macro_rules | `(tactic| walk_at "bv") => `(tactic| first
  | (with_reducible apply bv_gB); first
    | (with_reducible exact bv_add) | (with_reducible exact bv_sub) | (with_reducible apply bv_mulS; walk_at "side") | (with_reducible apply bv_divS; walk_at "side") | (with_reducible apply bv_mod; walk_at "side") | (with_reducible apply bv_powS; walk_at "side")
    | (with_reducible apply bv_cat <;> walk_at "side") | (with_reducible apply bv_rep1 <;> walk_at "side") | (with_reducible apply bv_rep <;> walk_at "side") | (with_reducible apply bv_catT <;> walk_at "side")
  | (with_reducible apply bv_gC); first
    | (with_reducible exact bv_lt) | (with_reducible exact bv_le) | (with_reducible exact bv_gt) | (with_reducible exact bv_ge) | (with_reducible exact bv_eqI) | (with_reducible exact bv_neI) | (with_reducible exact bv_eqS) | (with_reducible exact bv_neS) | (with_reducible exact bv_isNone) | (with_reducible exact bv_inT) | (with_reducible exact bv_notin2)
    | (with_reducible apply bv_eqD <;> walk_at "side") | (with_reducible apply bv_neD <;> walk_at "side") | (with_reducible apply bv_inD <;> walk_at "side"))
local macro_rules | `(tactic| walk_at "any") => `(tactic| first
  | (with_reducible apply ee_id); walk_at "go"
  | (with_reducible apply ea_id); first | (with_reducible exact ea_nil) | ((with_reducible apply ea_cons) <;> walk_at "any")
  | (with_reducible apply eb_id); walk_at "gb"
  | (with_reducible apply ew_id); walk_at "gw"
  | (with_reducible apply eo_id); first | (with_reducible exact eo_none) | (apply eo_some; walk_at "go")
  | (with_reducible apply bv_id); walk_at "bv"
  | (fail_if_success (with_reducible apply ee_id)); (fail_if_success (with_reducible apply ea_id)); (fail_if_success (with_reducible apply eb_id)); (fail_if_success (with_reducible apply ew_id)); (fail_if_success (with_reducible apply bv_id)); first
    | (intro _; walk_at "any")
    | rfl | (walk_at "mg") | decide | (intro _; rfl) | (intro _ _; rfl) | (walk_at "side"))
local macro_rules | `(tactic| walk_at "gb") => `(tactic| first
  | (with_reducible apply eb_not); walk_at "gb"
  | (with_reducible apply eb_cmp) <;> walk_at "any"
  | (with_reducible apply EW.eb); walk_at "gw"
  | (apply eb_val) <;> walk_at "any")
local macro_rules | `(tactic| walk_at "gw") => `(tactic| first
  | (with_reducible apply ew_and) <;> walk_at "any"
  | (with_reducible apply ew_or) <;> walk_at "any"
  | (with_reducible apply ew_and1); walk_at "gb"
  | (with_reducible apply ew_or1); walk_at "gb")
local macro_rules | `(tactic| walk_at "go") => `(tactic| first
  | (with_reducible apply ee_nm); first | walk_at "var" | walk_at "glo"
  | (with_reducible apply g_const); first | (with_reducible exact ee_int) | (with_reducible exact ee_str) | (with_reducible exact ee_bl) | (with_reducible exact ee_non)
  | (with_reducible apply g_call); first
    | (with_reducible apply g_call1); first | ((with_reducible apply ee_lenL) <;> walk_at "any") | ((with_reducible apply ee_lenT) <;> walk_at "any") | ((with_reducible apply ee_intIN) <;> walk_at "any") | ((with_reducible apply ee_intBN) <;> walk_at "any") | ((with_reducible apply ee_tupN) <;> walk_at "any") | ((with_reducible apply ee_absN) <;> walk_at "any") | ((with_reducible apply ee_sumN) <;> walk_at "any") | ((with_reducible apply ee_sumTN) <;> walk_at "any") | ((with_reducible apply ee_allN) <;> walk_at "any") | ((with_reducible apply ee_lstN) <;> walk_at "any") | walk_at "call"
    | (with_reducible apply g_call2); first | ((with_reducible apply ee_isInt) <;> walk_at "any") | ((with_reducible apply ee_isBool) <;> walk_at "any") | ((with_reducible apply ee_isTup) <;> walk_at "any") | ((with_reducible apply ee_isStr) <;> walk_at "any") | ((with_reducible apply ee_minN) <;> walk_at "any") | ((with_reducible apply ee_maxN) <;> walk_at "any") | walk_at "call"
    | walk_at "call"
  | ((with_reducible apply ee_bin) <;> walk_at "any")
  | (with_reducible apply g_cmp); first | ((with_reducible apply ee_cmp) <;> walk_at "any") | ((with_reducible apply ee_chain) <;> walk_at "any")
  | (with_reducible apply g_sub); first | ((with_reducible apply ee_slL) <;> walk_at "any") | ((with_reducible apply ee_cell) <;> walk_at "any") | ((with_reducible apply ee_ixT) <;> walk_at "any") | ((with_reducible apply ee_ixL) <;> walk_at "any")
  | (with_reducible apply g_un); first | ((with_reducible apply ee_not); walk_at "go") | (with_reducible exact ee_neg)
  | (with_reducible apply g_bool); first | ((with_reducible apply ee_and) <;> walk_at "any") | ((with_reducible apply ee_or) <;> walk_at "any") | ((with_reducible apply ee_and1) <;> walk_at "any")
  | (with_reducible apply g_if); first | ((with_reducible apply ee_ifI) <;> walk_at "any") | ((with_reducible apply ee_if) <;> walk_at "any")
  | (with_reducible apply g_lst); first | ((with_reducible apply ee_lst0) <;> walk_at "any") | ((with_reducible apply ee_lst1) <;> walk_at "any") | ((with_reducible apply ee_lst2) <;> walk_at "any") | ((with_reducible apply ee_lst3) <;> walk_at "any") | ((with_reducible apply ee_lst4) <;> walk_at "any")
  | (with_reducible apply g_tup); first | ((with_reducible apply ee_tup0) <;> walk_at "any") | ((with_reducible apply ee_tup1) <;> walk_at "any") | ((with_reducible apply ee_tup2) <;> walk_at "any") | ((with_reducible apply ee_tup3) <;> walk_at "any") | ((with_reducible apply ee_tup4) <;> walk_at "any"))
local macro_rules | `(tactic| walk_at "loc") => `(tactic| first | exact .inl (by rfl) | exact .inr (by rfl))
local macro_rules | `(tactic| walk_at "locf") => `(tactic| first | exact .inr (by rfl) | exact .inl (by rfl))
local macro_rules | `(tactic| walk_at "iv") => `(tactic| first
  | ((with_reducible apply iv_tup); walk_at "go") | ((with_reducible apply iv_list); walk_at "go")
  | ((with_reducible apply iv_range) <;> walk_at "any") | ((with_reducible apply iv_range2) <;> walk_at "any")
  | ((with_reducible apply iv_enumL) <;> walk_at "any") | ((with_reducible apply iv_enumT) <;> walk_at "any") | ((with_reducible apply iv_enumT1) <;> walk_at "any")
  | ((with_reducible apply iv_zipL) <;> walk_at "any") | ((with_reducible apply iv_zipT) <;> walk_at "any"))
local macro_rules | `(tactic| walk_at "fm") => `(tactic| ((try rw [filter_tt]); first | rfl | (rw [List.map_map]; done) | (rw [List.map_map]; rfl) | (simp only [lI, tI, List.map_map]; done) | (simp only [lI, tI, List.map_map]; rfl)))







local macro_rules | `(tactic| walk_at "call") => `(tactic| (with_reducible apply ee__law_mixed) <;> walk_at "any")
local macro_rules | `(tactic| walk_at "call") => `(tactic| (with_reducible apply ee__law_rows) <;> walk_at "any")
local macro_rules | `(tactic| walk_at "call") => `(tactic| (with_reducible apply ee__law_do_clash) <;> walk_at "any")
local macro_rules | `(tactic| walk_at "call") => `(tactic| (with_reducible apply ee__law_due) <;> walk_at "any")
local macro_rules | `(tactic| walk_at "call") => `(tactic| (with_reducible apply ee__law_light) <;> walk_at "any")
local macro_rules | `(tactic| walk_at "call") => `(tactic| (with_reducible apply ee_all_halves) <;> walk_at "any")
local macro_rules | `(tactic| walk_at "call") => `(tactic| (with_reducible apply ee__law_is_int) <;> walk_at "any")
local macro_rules | `(tactic| walk_at "call") => `(tactic| (with_reducible apply ee__law_weight) <;> walk_at "any")
local macro_rules | `(tactic| walk_at "call") => `(tactic| (with_reducible apply ee__law_does_weigh) <;> walk_at "any")
local macro_rules | `(tactic| walk_at "call") => `(tactic| (with_reducible apply ee__law_are_halves) <;> walk_at "any")
local macro_rules | `(tactic| walk_at "call") => `(tactic| ((with_reducible apply ee_sortedP) <;> walk_at "any"))
local macro_rules | `(tactic| walk_at "call") => `(tactic| (with_reducible apply ee_by_names) <;> walk_at "any")
local macro_rules | `(tactic| walk_at "call") => `(tactic| (with_reducible apply ee_need_weighing) <;> walk_at "any")
local macro_rules | `(tactic| walk_at "call") => `(tactic| (with_reducible apply ee_rounded) <;> walk_at "any")
local macro_rules | `(tactic| walk_at "call") => `(tactic| (with_reducible apply ee_light_setting) <;> walk_at "any")
local macro_rules | `(tactic| walk_at "call") => `(tactic| (with_reducible apply ee_tidy_by) <;> walk_at "any")
local macro_rules | `(tactic| walk_at "call") => `(tactic| (with_reducible apply ee_halves_paper) <;> walk_at "any")
local macro_rules | `(tactic| walk_at "call") => `(tactic| (with_reducible apply ee_check_halves) <;> walk_at "any")
local macro_rules | `(tactic| walk_at "call") => `(tactic| (with_reducible apply ee_weighed_in) <;> walk_at "any")
local macro_rules | `(tactic| walk_at "call") => `(tactic| (with_reducible apply ee_need_bundle) <;> walk_at "any")
local macro_rules | `(tactic| walk_at "call") => `(tactic| (with_reducible apply ee_are_halves) <;> walk_at "any")
local macro_rules | `(tactic| walk_at "call") => `(tactic| (with_reducible apply ee_need_form) <;> walk_at "any")
local macro_rules | `(tactic| walk_at "call") => `(tactic| (with_reducible apply ee_greatest_of) <;> walk_at "any")
local macro_rules | `(tactic| walk_at "call") => `(tactic| (with_reducible apply ee_first_table) <;> walk_at "any")

local macro_rules | `(tactic| walk_at "call") => `(tactic| (with_reducible apply ee_turned_table) <;> walk_at "any")
local macro_rules | `(tactic| walk_at "call") => `(tactic| (with_reducible apply ee_do_clash) <;> walk_at "any")
local macro_rules | `(tactic| walk_at "call") => `(tactic| (with_reducible apply ee_is_row) <;> walk_at "any")
local macro_rules | `(tactic| walk_at "call") => `(tactic| (with_reducible apply ee_are_halves_of) <;> walk_at "any")
local macro_rules | `(tactic| walk_at "call") => `(tactic| (with_reducible apply ee_rounded_row) <;> walk_at "any")
local macro_rules | `(tactic| walk_at "call") => `(tactic| (with_reducible apply ee_rounded_rowL) <;> walk_at "any")
local macro_rules | `(tactic| walk_at "call") => `(tactic| (with_reducible apply ee_sign_in) <;> walk_at "any")
local macro_rules | `(tactic| walk_at "call") => `(tactic| (with_reducible apply ee_heft_at) <;> walk_at "any")
local macro_rules | `(tactic| walk_at "call") => `(tactic| (with_reducible apply ee_are_rising) <;> walk_at "any")
local macro_rules | `(tactic| walk_at "call") => `(tactic| (with_reducible apply ee_is_literal) <;> walk_at "any")
local macro_rules | `(tactic| walk_at "call") => `(tactic| (with_reducible apply ee_is_clause) <;> walk_at "any")
local macro_rules | `(tactic| walk_at "call") => `(tactic| (with_reducible apply ee_weight_of) <;> walk_at "any")
local macro_rules | `(tactic| walk_at "call") => `(tactic| (with_reducible apply ee_does_weigh) <;> walk_at "any")
local macro_rules | `(tactic| walk_at "call") => `(tactic| (with_reducible apply ee_is_integer) <;> walk_at "any")
local macro_rules | `(tactic| walk_at "call") => `(tactic| (with_reducible apply ee_is_between) <;> walk_at "any")
local macro_rules | `(tactic| walk_at "var") => `(tactic| first | ((with_reducible apply ee_varQ (x := "script") (i := 0)) <;> walk_at "vs") | ((with_reducible apply ee_varQ (x := "state") (i := 1)) <;> walk_at "vs") | ((with_reducible apply ee_varQ (x := "turn") (i := 2)) <;> walk_at "vs") | ((with_reducible apply ee_varQ (x := "bundle") (i := 3)) <;> walk_at "vs") | ((with_reducible apply ee_varQ (x := "some") (i := 4)) <;> walk_at "vs") | ((with_reducible apply ee_varQ (x := "told") (i := 5)) <;> walk_at "vs") | ((with_reducible apply ee_varQ (x := "odd") (i := 6)) <;> walk_at "vs"))
local macro_rules | `(tactic| walk_at "nd") => `(tactic| exact sc61.nd)
theorem law_4 (T : Txt K mg) {a : Addr} {cdv : Value} {A : Around} {outer : List Env} {s : Shared} {H : Hp} {E : XK} {M : Mu} {Φ : S → Mu → Prop} (hgd : (XL P w K mg base a cdv A outer s H E).A.guards = some []) (hr : Room 7 (XL P w K mg base a cdv A outer s H E).A) (q : ∀ M', Φ (.d (.bool true)) M') {a0 st : Addr} {u1 u2 : Option S} {ta : Addr} (hta : M ta = none) : WS (XL P w K mg base a cdv A outer s H E) ((defBody (top 61)).drop 4) [some (.m a0), some (.m st), u1, u2, some (.d (.tuple [tI [-1, -2, -3], tI [1, 2, 3]])), some (.m ta), none] (mup M ta (.lst told0)) { nx := fun _ M' => Φ (.d .none) M', rt := Φ } := by
  have b4 : BuOk 3 [] := bu_nil (by decide) (by decide)
  have hta' : ta ≠ ta ∨ True := .inr trivial
  refine ws_cons ?_
  with_reducible refine w1_forN (i := 6) (fun j δ2 M2 => M2 = mup M ta (.lst (told0 ++ List.replicate j (.bool false))) ∧ ∃ u, δ2 = [some (.m a0), some (.m st), u1, u2, some (.d (.tuple [tI [-1, -2, -3], tI [1, 2, 3]])), some (.m ta), u]) (ds := oddsD) ?_ ?_ ?_ ?_ ?_ ?_ ?_ ?_ ?_ ?_ ?_
  · with_reducible refine iv_tup ?_
    with_reducible refine ee_tup (ds := oddsD) ?_ ?_
    · show EA _ _ _ [S.d .none, S.d (.int 5), S.d (tI [1]), S.d (tI [1, 1, 1, 1]), S.d (.list [.int 1, .int 1, .int 1]), S.d (.tuple [.int 1, .int 1, .bool true]), S.d (tI [1, 1, 3]), S.d (.tuple [.int 1, .int 1, .int (-1)]), S.d (.tuple [.int 1, .int 1, .none]), S.d (.str "111")]
      with_reducible refine ea_cons ?_ ?_ (ea_cons ?_ ?_ (ea_cons ?_ ?_ (ea_cons ?_ ?_ (ea_cons ?_ ?_ (ea_cons ?_ ?_ (ea_cons ?_ ?_ (ea_cons ?_ ?_ (ea_cons ?_ ?_ (ea_cons ?_ ?_ ea_nil)))))))))
      · rfl
      · walk_at "any"
      · rfl
      · walk_at "any"
      · rfl
      · with_reducible refine EE.to (d := .tuple [.int 1]) ?_ ?_
        · walk_at "any"
        · rfl
      · rfl
      · with_reducible refine EE.to (d := .tuple [.int 1, .int 1, .int 1, .int 1]) ?_ ?_
        · walk_at "any"
        · rfl
      · rfl
      · walk_at "any"
      · rfl
      · walk_at "any"
      · rfl
      · with_reducible refine EE.to (d := .tuple [.int 1, .int 1, .int 3]) ?_ ?_
        · walk_at "any"
        · rfl
      · rfl
      · walk_at "any"
      · rfl
      · walk_at "any"
      · rfl
      · walk_at "any"
    · decide
  · exact ⟨by rw [List.replicate_zero, List.append_nil], none, rfl⟩
  · rintro j d δ2 M2 hd ⟨rfl, u, rfl⟩
    obtain ⟨f1, f2, f3⟩ := odds_ok (List.mem_of_getElem? hd)
    have hj : j < 10 := (List.getElem?_eq_some_iff.mp hd).1
    refine ws_cons ?_
    with_reducible refine w1_app (i := 5) (a := ta) (ds0 := told0 ++ List.replicate j (.bool false)) ?_ ?_ ?_ ?_ ?_ ?_ ?_ ?_ ?_ ?_ ?_
    · rfl
    · walk_at "vis"
    · rfl
    · exact mup_same
    · rfl
    · rfl
    · rfl
    · rfl
    · rfl
    · rfl
    · with_reducible refine EE.ev (d := .bool false) ?_ ?_
      · with_reducible refine EE.to (d := .bool (halvD 3 [] d)) ?_ ?_
        · with_reducible refine ee_are_halves (n := 3) (cs := []) (d := d) (k' := 7) ?_ ?_ b4 f1 f2 ?_ ?_ ?_ ?_ ?_ ?_ ?_
          · with_reducible refine EE.to (d := .tuple [.int 3, .tuple []]) ?_ ?_
            · walk_at "any"
            · rfl
          · walk_at "any"
          · exact T
          · exact hr
          · decide
          · rfl
          · rfl
          · rfl
          · rfl
        · rw [f3]
      · refine ⟨_, _, rfl, mup_same, ?_, ws_nil ⟨?_, _, rfl⟩⟩
        · rw [List.length_append, List.length_replicate]; show 3 + j < 100000; omega
        · rw [mup_mup, List.replicate_succ', List.append_assoc]
  · rintro δ2 M2 ⟨rfl, u, rfl⟩
    refine ws_freeze 5 rfl mup_same ?_
    rw [mdel_mup hta]
    exact law_5 T hgd hr q told_ok.1 told_ok.2.2
  · walk_at "nd"
  · rfl
  · walk_at "loc"
  · walk_at "locf"
  · exact PassesOwn.never
  · rfl
  · exact fun _ => by rfl
end
end KP
namespace KP
open PySem PySem.Spec PyProof.Rows L2 DL
section
variable {P : Program} {w : World} {K : PySem.W.Frag} {mg : Str → Option Value} {base : Heap}
/-! steps -/
local macro_rules | `(tactic| walk_at "vis") => `(tactic| first | exact vis_l (by rfl) | exact vis_c (by rfl) | exact vis_f (by rfl))
local macro_rules | `(tactic| walk_at "vs") => `(tactic| first | rfl | (walk_at "vis") | decide)
local macro_rules | `(tactic| walk_at "mg") => `(tactic| exact z_of (by assumption) (by decide +kernel))
local macro_rules | `(tactic| walk_at "var") => `(tactic| fail)
local macro_rules | `(tactic| walk_at "glo") => `(tactic| first | exact ee_names (by assumption) (by rfl) (by rfl) | exact ee_clauses (by assumption) (by rfl) (by rfl) | exact ee_halvesS (by assumption) (by rfl) (by rfl) | exact ee_clashS (by assumption) (by rfl) (by rfl))
local macro_rules | `(tactic| walk_at "side") => `(tactic| first | assumption | ((with_reducible apply atI_litG); rfl) | ((fail_if_success (with_reducible apply atI_litG)); skip))
local macro_rules | `(tactic| walk_at "call") => `(tactic| fail)
local macro_rules | `(tactic| walk_at "bv") => `(tactic| first
  | (with_reducible apply bv_gB); first
    | (with_reducible exact bv_add) | (with_reducible exact bv_sub) | (with_reducible apply bv_mulS; walk_at "side") | (with_reducible apply bv_divS; walk_at "side") | (with_reducible apply bv_mod; walk_at "side") | (with_reducible apply bv_powS; walk_at "side")
    | (with_reducible apply bv_cat <;> walk_at "side") | (with_reducible apply bv_rep1 <;> walk_at "side") | (with_reducible apply bv_rep <;> walk_at "side") | (with_reducible apply bv_catT <;> walk_at "side")
  | (with_reducible apply bv_gC); first
    | (with_reducible exact bv_lt) | (with_reducible exact bv_le) | (with_reducible exact bv_gt) | (with_reducible exact bv_ge) | (with_reducible exact bv_eqI) | (with_reducible exact bv_neI) | (with_reducible exact bv_eqS) | (with_reducible exact bv_neS) | (with_reducible exact bv_isNone) | (with_reducible exact bv_inT) | (with_reducible exact bv_notin2)
    | (with_reducible apply bv_eqD <;> walk_at "side") | (with_reducible apply bv_neD <;> walk_at "side") | (with_reducible apply bv_inD <;> walk_at "side"))
local macro_rules | `(tactic| walk_at "any") => `(tactic| first
  | (with_reducible apply ee_id); walk_at "go"
  | (with_reducible apply ea_id); first | (with_reducible exact ea_nil) | ((with_reducible apply ea_cons) <;> walk_at "any")
  | (with_reducible apply eb_id); walk_at "gb"
  | (with_reducible apply ew_id); walk_at "gw"
  | (with_reducible apply eo_id); first | (with_reducible exact eo_none) | (apply eo_some; walk_at "go")
  | (with_reducible apply bv_id); walk_at "bv"
  | (fail_if_success (with_reducible apply ee_id)); (fail_if_success (with_reducible apply ea_id)); (fail_if_success (with_reducible apply eb_id)); (fail_if_success (with_reducible apply ew_id)); (fail_if_success (with_reducible apply bv_id)); first
    | (intro _; walk_at "any")
    | rfl | (walk_at "mg") | decide | (intro _; rfl) | (intro _ _; rfl) | (walk_at "side"))
local macro_rules | `(tactic| walk_at "gb") => `(tactic| first
  | (with_reducible apply eb_not); walk_at "gb"
  | (with_reducible apply eb_cmp) <;> walk_at "any"
  | (with_reducible apply EW.eb); walk_at "gw"
  | (apply eb_val) <;> walk_at "any")
local macro_rules | `(tactic| walk_at "gw") => `(tactic| first
  | (with_reducible apply ew_and) <;> walk_at "any"
  | (with_reducible apply ew_or) <;> walk_at "any"
  | (with_reducible apply ew_and1); walk_at "gb"
  | (with_reducible apply ew_or1); walk_at "gb")
local macro_rules | `(tactic| walk_at "go") => `(tactic| first
  | (with_reducible apply ee_nm); first | walk_at "var" | walk_at "glo"
  | (with_reducible apply g_const); first | (with_reducible exact ee_int) | (with_reducible exact ee_str) | (with_reducible exact ee_bl) | (with_reducible exact ee_non)
  | (with_reducible apply g_call); first
    | (with_reducible apply g_call1); first | ((with_reducible apply ee_lenL) <;> walk_at "any") | ((with_reducible apply ee_lenT) <;> walk_at "any") | ((with_reducible apply ee_intIN) <;> walk_at "any") | ((with_reducible apply ee_intBN) <;> walk_at "any") | ((with_reducible apply ee_tupN) <;> walk_at "any") | ((with_reducible apply ee_absN) <;> walk_at "any") | ((with_reducible apply ee_sumN) <;> walk_at "any") | ((with_reducible apply ee_sumTN) <;> walk_at "any") | ((with_reducible apply ee_allN) <;> walk_at "any") | ((with_reducible apply ee_lstN) <;> walk_at "any") | walk_at "call"
    | (with_reducible apply g_call2); first | ((with_reducible apply ee_isInt) <;> walk_at "any") | ((with_reducible apply ee_isBool) <;> walk_at "any") | ((with_reducible apply ee_isTup) <;> walk_at "any") | ((with_reducible apply ee_isStr) <;> walk_at "any") | ((with_reducible apply ee_minN) <;> walk_at "any") | ((with_reducible apply ee_maxN) <;> walk_at "any") | walk_at "call"
    | walk_at "call"
  | ((with_reducible apply ee_bin) <;> walk_at "any")
  | (with_reducible apply g_cmp); first | ((with_reducible apply ee_cmp) <;> walk_at "any") | ((with_reducible apply ee_chain) <;> walk_at "any")
  | (with_reducible apply g_sub); first | ((with_reducible apply ee_slL) <;> walk_at "any") | ((with_reducible apply ee_cell) <;> walk_at "any") | ((with_reducible apply ee_ixT) <;> walk_at "any") | ((with_reducible apply ee_ixL) <;> walk_at "any")
  | (with_reducible apply g_un); first | ((with_reducible apply ee_not); walk_at "go") | (with_reducible exact ee_neg)
  | (with_reducible apply g_bool); first | ((with_reducible apply ee_and) <;> walk_at "any") | ((with_reducible apply ee_or) <;> walk_at "any") | ((with_reducible apply ee_and1) <;> walk_at "any")
  | (with_reducible apply g_if); first | ((with_reducible apply ee_ifI) <;> walk_at "any") | ((with_reducible apply ee_if) <;> walk_at "any")
  | (with_reducible apply g_lst); first | ((with_reducible apply ee_lst0) <;> walk_at "any") | ((with_reducible apply ee_lst1) <;> walk_at "any") | ((with_reducible apply ee_lst2) <;> walk_at "any") | ((with_reducible apply ee_lst3) <;> walk_at "any") | ((with_reducible apply ee_lst4) <;> walk_at "any")
  | (with_reducible apply g_tup); first | ((with_reducible apply ee_tup0) <;> walk_at "any") | ((with_reducible apply ee_tup1) <;> walk_at "any") | ((with_reducible apply ee_tup2) <;> walk_at "any") | ((with_reducible apply ee_tup3) <;> walk_at "any") | ((with_reducible apply ee_tup4) <;> walk_at "any"))
local macro_rules | `(tactic| walk_at "loc") => `(tactic| first | exact .inl (by rfl) | exact .inr (by rfl))
local macro_rules | `(tactic| walk_at "locf") => `(tactic| first | exact .inr (by rfl) | exact .inl (by rfl))
local macro_rules | `(tactic| walk_at "iv") => `(tactic| first
  | ((with_reducible apply iv_tup); walk_at "go") | ((with_reducible apply iv_list); walk_at "go")
  | ((with_reducible apply iv_range) <;> walk_at "any") | ((with_reducible apply iv_range2) <;> walk_at "any")
  | ((with_reducible apply iv_enumL) <;> walk_at "any") | ((with_reducible apply iv_enumT) <;> walk_at "any") | ((with_reducible apply iv_enumT1) <;> walk_at "any")
  | ((with_reducible apply iv_zipL) <;> walk_at "any") | ((with_reducible apply iv_zipT) <;> walk_at "any"))
local macro_rules | `(tactic| walk_at "fm") => `(tactic| ((try rw [filter_tt]); first | rfl | (rw [List.map_map]; done) | (rw [List.map_map]; rfl) | (simp only [lI, tI, List.map_map]; done) | (simp only [lI, tI, List.map_map]; rfl)))








local macro_rules | `(tactic| walk_at "call") => `(tactic| (with_reducible apply ee__law_mixed) <;> walk_at "any")
local macro_rules | `(tactic| walk_at "call") => `(tactic| (with_reducible apply ee__law_rows) <;> walk_at "any")
local macro_rules | `(tactic| walk_at "call") => `(tactic| (with_reducible apply ee__law_do_clash) <;> walk_at "any")
local macro_rules | `(tactic| walk_at "call") => `(tactic| (with_reducible apply ee__law_due) <;> walk_at "any")
local macro_rules | `(tactic| walk_at "call") => `(tactic| (with_reducible apply ee__law_light) <;> walk_at "any")
local macro_rules | `(tactic| walk_at "call") => `(tactic| (with_reducible apply ee_all_halves) <;> walk_at "any")
local macro_rules | `(tactic| walk_at "call") => `(tactic| (with_reducible apply ee__law_is_int) <;> walk_at "any")
local macro_rules | `(tactic| walk_at "call") => `(tactic| (with_reducible apply ee__law_weight) <;> walk_at "any")
local macro_rules | `(tactic| walk_at "call") => `(tactic| (with_reducible apply ee__law_does_weigh) <;> walk_at "any")
local macro_rules | `(tactic| walk_at "call") => `(tactic| (with_reducible apply ee__law_are_halves) <;> walk_at "any")
local macro_rules | `(tactic| walk_at "call") => `(tactic| ((with_reducible apply ee_sortedP) <;> walk_at "any"))
local macro_rules | `(tactic| walk_at "call") => `(tactic| (with_reducible apply ee_by_names) <;> walk_at "any")
local macro_rules | `(tactic| walk_at "call") => `(tactic| (with_reducible apply ee_need_weighing) <;> walk_at "any")
local macro_rules | `(tactic| walk_at "call") => `(tactic| (with_reducible apply ee_rounded) <;> walk_at "any")
local macro_rules | `(tactic| walk_at "call") => `(tactic| (with_reducible apply ee_light_setting) <;> walk_at "any")
local macro_rules | `(tactic| walk_at "call") => `(tactic| (with_reducible apply ee_tidy_by) <;> walk_at "any")
local macro_rules | `(tactic| walk_at "call") => `(tactic| (with_reducible apply ee_halves_paper) <;> walk_at "any")
local macro_rules | `(tactic| walk_at "call") => `(tactic| (with_reducible apply ee_check_halves) <;> walk_at "any")
local macro_rules | `(tactic| walk_at "call") => `(tactic| (with_reducible apply ee_weighed_in) <;> walk_at "any")
local macro_rules | `(tactic| walk_at "call") => `(tactic| (with_reducible apply ee_need_bundle) <;> walk_at "any")
local macro_rules | `(tactic| walk_at "call") => `(tactic| (with_reducible apply ee_are_halves) <;> walk_at "any")
local macro_rules | `(tactic| walk_at "call") => `(tactic| (with_reducible apply ee_need_form) <;> walk_at "any")
local macro_rules | `(tactic| walk_at "call") => `(tactic| (with_reducible apply ee_greatest_of) <;> walk_at "any")
local macro_rules | `(tactic| walk_at "call") => `(tactic| (with_reducible apply ee_first_table) <;> walk_at "any")

local macro_rules | `(tactic| walk_at "call") => `(tactic| (with_reducible apply ee_turned_table) <;> walk_at "any")
local macro_rules | `(tactic| walk_at "call") => `(tactic| (with_reducible apply ee_do_clash) <;> walk_at "any")
local macro_rules | `(tactic| walk_at "call") => `(tactic| (with_reducible apply ee_is_row) <;> walk_at "any")
local macro_rules | `(tactic| walk_at "call") => `(tactic| (with_reducible apply ee_are_halves_of) <;> walk_at "any")
local macro_rules | `(tactic| walk_at "call") => `(tactic| (with_reducible apply ee_rounded_row) <;> walk_at "any")
local macro_rules | `(tactic| walk_at "call") => `(tactic| (with_reducible apply ee_rounded_rowL) <;> walk_at "any")
local macro_rules | `(tactic| walk_at "call") => `(tactic| (with_reducible apply ee_sign_in) <;> walk_at "any")
local macro_rules | `(tactic| walk_at "call") => `(tactic| (with_reducible apply ee_heft_at) <;> walk_at "any")
local macro_rules | `(tactic| walk_at "call") => `(tactic| (with_reducible apply ee_are_rising) <;> walk_at "any")
local macro_rules | `(tactic| walk_at "call") => `(tactic| (with_reducible apply ee_is_literal) <;> walk_at "any")
local macro_rules | `(tactic| walk_at "call") => `(tactic| (with_reducible apply ee_is_clause) <;> walk_at "any")
local macro_rules | `(tactic| walk_at "call") => `(tactic| (with_reducible apply ee_weight_of) <;> walk_at "any")
local macro_rules | `(tactic| walk_at "call") => `(tactic| (with_reducible apply ee_does_weigh) <;> walk_at "any")
local macro_rules | `(tactic| walk_at "call") => `(tactic| (with_reducible apply ee_is_integer) <;> walk_at "any")
local macro_rules | `(tactic| walk_at "call") => `(tactic| (with_reducible apply ee_is_between) <;> walk_at "any")
local macro_rules | `(tactic| walk_at "var") => `(tactic| first | ((with_reducible apply ee_varQ (x := "script") (i := 0)) <;> walk_at "vs") | ((with_reducible apply ee_varQ (x := "state") (i := 1)) <;> walk_at "vs") | ((with_reducible apply ee_varQ (x := "turn") (i := 2)) <;> walk_at "vs") | ((with_reducible apply ee_varQ (x := "bundle") (i := 3)) <;> walk_at "vs") | ((with_reducible apply ee_varQ (x := "some") (i := 4)) <;> walk_at "vs") | ((with_reducible apply ee_varQ (x := "told") (i := 5)) <;> walk_at "vs") | ((with_reducible apply ee_varQ (x := "odd") (i := 6)) <;> walk_at "vs"))
local macro_rules | `(tactic| walk_at "nd") => `(tactic| exact sc61.nd)
theorem law_3 (T : Txt K mg) {a : Addr} {cdv : Value} {A : Around} {outer : List Env} {s : Shared} {H : Hp} {E : XK} {M : Mu} {Φ : S → Mu → Prop} (hgd : (XL P w K mg base a cdv A outer s H E).A.guards = some []) (hr : Room 7 (XL P w K mg base a cdv A outer s H E).A) (q : ∀ M', Φ (.d (.bool true)) M') {a0 st : Addr} {u1 u2 : Option S} : WS (XL P w K mg base a cdv A outer s H E) ((defBody (top 61)).drop 3) [some (.m a0), some (.m st), u1, u2, some (.d (.tuple [tI [-1, -2, -3], tI [1, 2, 3]])), none, none] M { nx := fun _ M' => Φ (.d .none) M', rt := Φ } := by
  have b1 : BuOk 3 [[-1, -2, -3], [1, 2, 3]] := bu_two (by decide) (by decide) (cl_by rfl) (cl_by rfl) (by decide)
  have b2 : BuOk 1 [[]] := bu_one (by decide) (by decide) (cl_by rfl)
  have b3 : BuOk 2 [[-1, -2], [1, 2]] := bu_two (by decide) (by decide) (cl_by rfl) (cl_by rfl) (by decide)
  refine ws_cons ?_
  with_reducible refine w1_setV (i := 5) ?_ ?_ ?_ ?_ ?_ ?_
  · with_reducible refine ev_lstM (ds := told0) ?_ ?_ ?_
    · show EA _ _ _ [S.d (.bool (PyData.eqv (.tuple (((rowsN 3 3).filter fun row => IC.doesW 2 row [[-1, -2, -3], [1, 2, 3]]).map tI)) (.tuple []))), S.d (.tuple (((rowsN 3 1).filter fun row => IC.doesW 2 row [[]]).map tI)), S.d (.tuple (((rowsN 3 2).filter fun row => IC.doesW 2 row [[-1, -2], [1, 2]]).map tI))]
      with_reducible refine ea_cons ?_ ?_ (ea_cons ?_ ?_ (ea_cons ?_ ?_ ea_nil))
      · rfl
      · with_reducible refine ee_cmp (d1 := .tuple (((rowsN 3 3).filter fun row => IC.doesW 2 row [[-1, -2, -3], [1, 2, 3]]).map tI)) (d2 := .tuple []) ?_ ?_ ?_ ?_
        · rfl
        · with_reducible refine ee_all_halves (n := 3) (cs := [[-1, -2, -3], [1, 2, 3]]) (k' := 7) ?_ b1 ?_ ?_ ?_ ?_ ?_ ?_
          · with_reducible refine EE.to (d := .tuple [.int 3, .tuple [tI [-1, -2, -3], tI [1, 2, 3]]]) ?_ ?_
            · walk_at "any"
            · rfl
          · exact T
          · exact hr
          · decide
          · rfl
          · rfl
          · rfl
        · with_reducible exact ee_tup0
        · exact bv_eqD hr.units (dep_ttI.shaped (by decide)) ((dep_tuple (k := 0) (ds := []) (fun _ h => (nomatch h))).shaped (by decide))
      · rfl
      · with_reducible refine ee_all_halves (n := 1) (cs := [[]]) (k' := 7) ?_ b2 ?_ ?_ ?_ ?_ ?_ ?_
        · with_reducible refine EE.to (d := .tuple [.int 1, .tuple [.tuple []]]) ?_ ?_
          · walk_at "any"
          · rfl
        · exact T
        · exact hr
        · decide
        · rfl
        · rfl
        · rfl
      · rfl
      · with_reducible refine ee_all_halves (n := 2) (cs := [[-1, -2], [1, 2]]) (k' := 7) ?_ b3 ?_ ?_ ?_ ?_ ?_ ?_
        · with_reducible refine EE.to (d := .tuple [.int 2, .tuple [.tuple [.int (-1), .int (-2)], .tuple [.int 1, .int 2]]]) ?_ ?_
          · with_reducible refine ee_tup2 ?_ ?_ ?_ ?_
            · walk_at "any"
            · with_reducible refine ee_tup2 ?_ ?_ ?_ ?_
              · walk_at "any"
              · walk_at "any"
              · rfl
              · rfl
            · rfl
            · rfl
          · rfl
        · exact T
        · exact hr
        · decide
        · rfl
        · rfl
        · rfl
    · decide
    · exact fun ta hta => @law_4 P w K mg base T a cdv A outer s H E M Φ hgd hr q a0 st u1 u2 ta hta
  · walk_at "nd"
  · rfl
  · walk_at "loc"
  · walk_at "locf"
  · rfl
end
end KP
namespace KP
open PySem PySem.Spec PyProof.Rows L2 DL
section
variable {P : Program} {w : World} {K : PySem.W.Frag} {mg : Str → Option Value} {base : Heap}
/-! steps -/
local macro_rules | `(tactic| walk_at "vis") => `(tactic| first | exact vis_l (by rfl) | exact vis_c (by rfl) | exact vis_f (by rfl))
local macro_rules | `(tactic| walk_at "vs") => `(tactic| first | rfl | (walk_at "vis") | decide)
local macro_rules | `(tactic| walk_at "mg") => `(tactic| exact z_of (by assumption) (by decide +kernel))
local macro_rules | `(tactic| walk_at "var") => `(tactic| fail)
local macro_rules | `(tactic| walk_at "glo") => `(tactic| first | exact ee_names (by assumption) (by rfl) (by rfl) | exact ee_clauses (by assumption) (by rfl) (by rfl) | exact ee_halvesS (by assumption) (by rfl) (by rfl) | exact ee_clashS (by assumption) (by rfl) (by rfl))
local macro_rules | `(tactic| walk_at "side") => `(tactic| first | assumption | ((with_reducible apply atI_litG); rfl) | ((fail_if_success (with_reducible apply atI_litG)); skip))
local macro_rules | `(tactic| walk_at "call") => `(tactic| fail)
local macro_rules | `(tactic| walk_at "bv") => `(tactic| first
  | (with_reducible apply bv_gB); first
    | (with_reducible exact bv_add) | (with_reducible exact bv_sub) | (with_reducible apply bv_mulS; walk_at "side") | (with_reducible apply bv_divS; walk_at "side") | (with_reducible apply bv_mod; walk_at "side") | (with_reducible apply bv_powS; walk_at "side")
    | (with_reducible apply bv_cat <;> walk_at "side") | (with_reducible apply bv_rep1 <;> walk_at "side") | (with_reducible apply bv_rep <;> walk_at "side") | (with_reducible apply bv_catT <;> walk_at "side")
  | (with_reducible apply bv_gC); first
    | (with_reducible exact bv_lt) | (with_reducible exact bv_le) | (with_reducible exact bv_gt) | (with_reducible exact bv_ge) | (with_reducible exact bv_eqI) | (with_reducible exact bv_neI) | (with_reducible exact bv_eqS) | (with_reducible exact bv_neS) | (with_reducible exact bv_isNone) | (with_reducible exact bv_inT) | (with_reducible exact bv_notin2)
    | (with_reducible apply bv_eqD <;> walk_at "side") | (with_reducible apply bv_neD <;> walk_at "side") | (with_reducible apply bv_inD <;> walk_at "side"))
local macro_rules | `(tactic| walk_at "any") => `(tactic| first
  | (with_reducible apply ee_id); walk_at "go"
  | (with_reducible apply ea_id); first | (with_reducible exact ea_nil) | ((with_reducible apply ea_cons) <;> walk_at "any")
  | (with_reducible apply eb_id); walk_at "gb"
  | (with_reducible apply ew_id); walk_at "gw"
  | (with_reducible apply eo_id); first | (with_reducible exact eo_none) | (apply eo_some; walk_at "go")
  | (with_reducible apply bv_id); walk_at "bv"
  | (fail_if_success (with_reducible apply ee_id)); (fail_if_success (with_reducible apply ea_id)); (fail_if_success (with_reducible apply eb_id)); (fail_if_success (with_reducible apply ew_id)); (fail_if_success (with_reducible apply bv_id)); first
    | (intro _; walk_at "any")
    | rfl | (walk_at "mg") | decide | (intro _; rfl) | (intro _ _; rfl) | (walk_at "side"))
local macro_rules | `(tactic| walk_at "gb") => `(tactic| first
  | (with_reducible apply eb_not); walk_at "gb"
  | (with_reducible apply eb_cmp) <;> walk_at "any"
  | (with_reducible apply EW.eb); walk_at "gw"
  | (apply eb_val) <;> walk_at "any")
local macro_rules | `(tactic| walk_at "gw") => `(tactic| first
  | (with_reducible apply ew_and) <;> walk_at "any"
  | (with_reducible apply ew_or) <;> walk_at "any"
  | (with_reducible apply ew_and1); walk_at "gb"
  | (with_reducible apply ew_or1); walk_at "gb")
local macro_rules | `(tactic| walk_at "go") => `(tactic| first
  | (with_reducible apply ee_nm); first | walk_at "var" | walk_at "glo"
  | (with_reducible apply g_const); first | (with_reducible exact ee_int) | (with_reducible exact ee_str) | (with_reducible exact ee_bl) | (with_reducible exact ee_non)
  | (with_reducible apply g_call); first
    | (with_reducible apply g_call1); first | ((with_reducible apply ee_lenL) <;> walk_at "any") | ((with_reducible apply ee_lenT) <;> walk_at "any") | ((with_reducible apply ee_intIN) <;> walk_at "any") | ((with_reducible apply ee_intBN) <;> walk_at "any") | ((with_reducible apply ee_tupN) <;> walk_at "any") | ((with_reducible apply ee_absN) <;> walk_at "any") | ((with_reducible apply ee_sumN) <;> walk_at "any") | ((with_reducible apply ee_sumTN) <;> walk_at "any") | ((with_reducible apply ee_allN) <;> walk_at "any") | ((with_reducible apply ee_lstN) <;> walk_at "any") | walk_at "call"
    | (with_reducible apply g_call2); first | ((with_reducible apply ee_isInt) <;> walk_at "any") | ((with_reducible apply ee_isBool) <;> walk_at "any") | ((with_reducible apply ee_isTup) <;> walk_at "any") | ((with_reducible apply ee_isStr) <;> walk_at "any") | ((with_reducible apply ee_minN) <;> walk_at "any") | ((with_reducible apply ee_maxN) <;> walk_at "any") | walk_at "call"
    | walk_at "call"
  | ((with_reducible apply ee_bin) <;> walk_at "any")
  | (with_reducible apply g_cmp); first | ((with_reducible apply ee_cmp) <;> walk_at "any") | ((with_reducible apply ee_chain) <;> walk_at "any")
  | (with_reducible apply g_sub); first | ((with_reducible apply ee_slL) <;> walk_at "any") | ((with_reducible apply ee_cell) <;> walk_at "any") | ((with_reducible apply ee_ixT) <;> walk_at "any") | ((with_reducible apply ee_ixL) <;> walk_at "any")
  | (with_reducible apply g_un); first | ((with_reducible apply ee_not); walk_at "go") | (with_reducible exact ee_neg)
  | (with_reducible apply g_bool); first | ((with_reducible apply ee_and) <;> walk_at "any") | ((with_reducible apply ee_or) <;> walk_at "any") | ((with_reducible apply ee_and1) <;> walk_at "any")
  | (with_reducible apply g_if); first | ((with_reducible apply ee_ifI) <;> walk_at "any") | ((with_reducible apply ee_if) <;> walk_at "any")
  | (with_reducible apply g_lst); first | ((with_reducible apply ee_lst0) <;> walk_at "any") | ((with_reducible apply ee_lst1) <;> walk_at "any") | ((with_reducible apply ee_lst2) <;> walk_at "any") | ((with_reducible apply ee_lst3) <;> walk_at "any") | ((with_reducible apply ee_lst4) <;> walk_at "any")
  | (with_reducible apply g_tup); first | ((with_reducible apply ee_tup0) <;> walk_at "any") | ((with_reducible apply ee_tup1) <;> walk_at "any") | ((with_reducible apply ee_tup2) <;> walk_at "any") | ((with_reducible apply ee_tup3) <;> walk_at "any") | ((with_reducible apply ee_tup4) <;> walk_at "any"))
local macro_rules | `(tactic| walk_at "loc") => `(tactic| first | exact .inl (by rfl) | exact .inr (by rfl))
local macro_rules | `(tactic| walk_at "locf") => `(tactic| first | exact .inr (by rfl) | exact .inl (by rfl))
local macro_rules | `(tactic| walk_at "iv") => `(tactic| first
  | ((with_reducible apply iv_tup); walk_at "go") | ((with_reducible apply iv_list); walk_at "go")
  | ((with_reducible apply iv_range) <;> walk_at "any") | ((with_reducible apply iv_range2) <;> walk_at "any")
  | ((with_reducible apply iv_enumL) <;> walk_at "any") | ((with_reducible apply iv_enumT) <;> walk_at "any") | ((with_reducible apply iv_enumT1) <;> walk_at "any")
  | ((with_reducible apply iv_zipL) <;> walk_at "any") | ((with_reducible apply iv_zipT) <;> walk_at "any"))
local macro_rules | `(tactic| walk_at "fm") => `(tactic| ((try rw [filter_tt]); first | rfl | (rw [List.map_map]; done) | (rw [List.map_map]; rfl) | (simp only [lI, tI, List.map_map]; done) | (simp only [lI, tI, List.map_map]; rfl)))









local macro_rules | `(tactic| walk_at "call") => `(tactic| (with_reducible apply ee__law_mixed) <;> walk_at "any")
local macro_rules | `(tactic| walk_at "call") => `(tactic| (with_reducible apply ee__law_rows) <;> walk_at "any")
local macro_rules | `(tactic| walk_at "call") => `(tactic| (with_reducible apply ee__law_do_clash) <;> walk_at "any")
local macro_rules | `(tactic| walk_at "call") => `(tactic| (with_reducible apply ee__law_due) <;> walk_at "any")
local macro_rules | `(tactic| walk_at "call") => `(tactic| (with_reducible apply ee__law_light) <;> walk_at "any")
local macro_rules | `(tactic| walk_at "call") => `(tactic| (with_reducible apply ee_all_halves) <;> walk_at "any")
local macro_rules | `(tactic| walk_at "call") => `(tactic| (with_reducible apply ee__law_is_int) <;> walk_at "any")
local macro_rules | `(tactic| walk_at "call") => `(tactic| (with_reducible apply ee__law_weight) <;> walk_at "any")
local macro_rules | `(tactic| walk_at "call") => `(tactic| (with_reducible apply ee__law_does_weigh) <;> walk_at "any")
local macro_rules | `(tactic| walk_at "call") => `(tactic| (with_reducible apply ee__law_are_halves) <;> walk_at "any")
local macro_rules | `(tactic| walk_at "call") => `(tactic| ((with_reducible apply ee_sortedP) <;> walk_at "any"))
local macro_rules | `(tactic| walk_at "call") => `(tactic| (with_reducible apply ee_by_names) <;> walk_at "any")
local macro_rules | `(tactic| walk_at "call") => `(tactic| (with_reducible apply ee_need_weighing) <;> walk_at "any")
local macro_rules | `(tactic| walk_at "call") => `(tactic| (with_reducible apply ee_rounded) <;> walk_at "any")
local macro_rules | `(tactic| walk_at "call") => `(tactic| (with_reducible apply ee_light_setting) <;> walk_at "any")
local macro_rules | `(tactic| walk_at "call") => `(tactic| (with_reducible apply ee_tidy_by) <;> walk_at "any")
local macro_rules | `(tactic| walk_at "call") => `(tactic| (with_reducible apply ee_halves_paper) <;> walk_at "any")
local macro_rules | `(tactic| walk_at "call") => `(tactic| (with_reducible apply ee_check_halves) <;> walk_at "any")
local macro_rules | `(tactic| walk_at "call") => `(tactic| (with_reducible apply ee_weighed_in) <;> walk_at "any")
local macro_rules | `(tactic| walk_at "call") => `(tactic| (with_reducible apply ee_need_bundle) <;> walk_at "any")
local macro_rules | `(tactic| walk_at "call") => `(tactic| (with_reducible apply ee_are_halves) <;> walk_at "any")
local macro_rules | `(tactic| walk_at "call") => `(tactic| (with_reducible apply ee_need_form) <;> walk_at "any")
local macro_rules | `(tactic| walk_at "call") => `(tactic| (with_reducible apply ee_greatest_of) <;> walk_at "any")
local macro_rules | `(tactic| walk_at "call") => `(tactic| (with_reducible apply ee_first_table) <;> walk_at "any")

local macro_rules | `(tactic| walk_at "call") => `(tactic| (with_reducible apply ee_turned_table) <;> walk_at "any")
local macro_rules | `(tactic| walk_at "call") => `(tactic| (with_reducible apply ee_do_clash) <;> walk_at "any")
local macro_rules | `(tactic| walk_at "call") => `(tactic| (with_reducible apply ee_is_row) <;> walk_at "any")
local macro_rules | `(tactic| walk_at "call") => `(tactic| (with_reducible apply ee_are_halves_of) <;> walk_at "any")
local macro_rules | `(tactic| walk_at "call") => `(tactic| (with_reducible apply ee_rounded_row) <;> walk_at "any")
local macro_rules | `(tactic| walk_at "call") => `(tactic| (with_reducible apply ee_rounded_rowL) <;> walk_at "any")
local macro_rules | `(tactic| walk_at "call") => `(tactic| (with_reducible apply ee_sign_in) <;> walk_at "any")
local macro_rules | `(tactic| walk_at "call") => `(tactic| (with_reducible apply ee_heft_at) <;> walk_at "any")
local macro_rules | `(tactic| walk_at "call") => `(tactic| (with_reducible apply ee_are_rising) <;> walk_at "any")
local macro_rules | `(tactic| walk_at "call") => `(tactic| (with_reducible apply ee_is_literal) <;> walk_at "any")
local macro_rules | `(tactic| walk_at "call") => `(tactic| (with_reducible apply ee_is_clause) <;> walk_at "any")
local macro_rules | `(tactic| walk_at "call") => `(tactic| (with_reducible apply ee_weight_of) <;> walk_at "any")
local macro_rules | `(tactic| walk_at "call") => `(tactic| (with_reducible apply ee_does_weigh) <;> walk_at "any")
local macro_rules | `(tactic| walk_at "call") => `(tactic| (with_reducible apply ee_is_integer) <;> walk_at "any")
local macro_rules | `(tactic| walk_at "call") => `(tactic| (with_reducible apply ee_is_between) <;> walk_at "any")
local macro_rules | `(tactic| walk_at "var") => `(tactic| first | ((with_reducible apply ee_varQ (x := "script") (i := 0)) <;> walk_at "vs") | ((with_reducible apply ee_varQ (x := "state") (i := 1)) <;> walk_at "vs") | ((with_reducible apply ee_varQ (x := "turn") (i := 2)) <;> walk_at "vs") | ((with_reducible apply ee_varQ (x := "bundle") (i := 3)) <;> walk_at "vs") | ((with_reducible apply ee_varQ (x := "some") (i := 4)) <;> walk_at "vs") | ((with_reducible apply ee_varQ (x := "told") (i := 5)) <;> walk_at "vs") | ((with_reducible apply ee_varQ (x := "odd") (i := 6)) <;> walk_at "vs"))
local macro_rules | `(tactic| walk_at "nd") => `(tactic| exact sc61.nd)
theorem law_2 (T : Txt K mg) {a : Addr} {cdv : Value} {A : Around} {outer : List Env} {s : Shared} {H : Hp} {E : XK} {M : Mu} {Φ : S → Mu → Prop} (hgd : (XL P w K mg base a cdv A outer s H E).A.guards = some []) (hr : Room 7 (XL P w K mg base a cdv A outer s H E).A) (q : ∀ M', Φ (.d (.bool true)) M') {a0 st : Addr} {u1 u2 : Option S} : WS (XL P w K mg base a cdv A outer s H E) ((defBody (top 61)).drop 2) [some (.m a0), some (.m st), u1, u2, none, none, none] M { nx := fun _ M' => Φ (.d .none) M', rt := Φ } := by
  refine ws_cons ?_
  with_reducible refine w1_setE (i := 4) (d := .tuple [tI [-1, -2, -3], tI [1, 2, 3]]) ?_ ?_ ?_ ?_ ?_ ?_ ?_
  · with_reducible refine EE.to (d := .tuple [.tuple [.int (-1), .int (-2), .int (-3)], .tuple [.int 1, .int 2, .int 3]]) ?_ ?_
    · with_reducible refine ee_tup2 ?_ ?_ ?_ ?_
      · walk_at "any"
      · walk_at "any"
      · rfl
      · rfl
    · rfl
  · exact @law_3 P w K mg base T a cdv A outer s H E M Φ hgd hr q a0 st u1 u2
  · walk_at "nd"
  · rfl
  · walk_at "loc"
  · walk_at "locf"
  · rfl
theorem ok_law (T : Txt K mg) {fd : FuncData} (F : FunD K "law" "law" (defArgs (top 61)) (defBody (top 61)) (defScope (top 61)) [] [] (He.ga K "law") fd) : FnG P w K mg base 8 (He.ga K "law") fd ["script"] (spD (lawD K)) := by
  refine fndG0 F sc61 (fun xs M Φ h => ?_) (fun a cdv A outer s H E xs M Φ hgd hr h => ?_)
  · obtain ⟨_, _, rfl, _⟩ := h
    rfl
  · obtain ⟨a0, ns, rfl, hS, hl, q⟩ := h
    refine ws_cons (w1_setV (i := 1) (ev_call (ok__law_begin T) (hr.mono (by decide)) (by rfl) (by rfl) (by rfl) (EA_of (ea_consM (i := 0) (a := a0) (by rfl) (by rfl) (by walk_at "vis") (by rfl) ea_nil) ⟨a0, ns, rfl, hS, hl, fun st l cs M1 S1 F1 => ?_⟩) (begD_mono _) (by decide)) (by walk_at "nd") (by rfl) (by walk_at "loc") (by walk_at "locf") (by rfl))
    have hS1 : Scr K M1 a0 ns := by
      rcases hS with z | z
      · exact .inl (by rw [F1 a0 (by rw [z]; exact fun e => (nomatch e))]; exact z)
      · exact .inr z
    refine ws_cons (w1_forRgV (i := 2) (ev_bin (EE.ev (d := .int 4) ee_int (ev_callB (id := "min") (by rfl) (by walk_at "mg") (by decide +kernel) (by rfl) (by rfl) (av_cons (by rfl) (ev_lenScr (i := 0) hS1 (by rfl) (EA_of (ea_cons (d := .int 7) (by rfl) ee_int ea_nil) ⟨[.int (ns.length : Int), .int 7], .int (if (7 : Int) < (ns.length : Int) then 7 else (ns.length : Int)), rfl, cv_min2 (by rfl), ?_⟩) (by rfl) (by walk_at "mg") (by rfl) (by walk_at "vis") (by rfl) (by decide) (by decide)))))) (by rfl) (by walk_at "mg") (by rfl) (by walk_at "nd") (by rfl) (by walk_at "loc") (by walk_at "locf") PassesOwn.never (by rfl) (fun _ => by rfl))
    obtain ⟨cnt, ecnt⟩ : ∃ cnt : Nat, (4 : Int) + (if (7 : Int) < (ns.length : Int) then 7 else (ns.length : Int)) = (cnt : Int) := ⟨((4 : Int) + (if (7 : Int) < (ns.length : Int) then 7 else (ns.length : Int))).toNat, by split <;> omega⟩
    refine ⟨_, _, .int (cnt : Int), rfl, rfl, by rw [← ecnt]; exact bv_add, cnt, fun j δ' M' => ∃ t' : Int, t' ≤ 1200 * (j : Int) ∧ Stt M' st l cs t' ∧ ∃ u1 u2, δ' = [some (.m a0), some (.m st), u1, u2, none, none, none], rfl, by split at ecnt <;> omega, ⟨0, by decide, S1, none, none, rfl⟩, ?_, ?_⟩
    · rintro j δ' M' hj ⟨t', ht', S2, u1, u2, rfl⟩
      have hj11 : j < 11 := by split at ecnt <;> omega
      refine ws_cons (w1_setV (i := 3) (ev_call (ok__law_bundle T) (hr.mono (by decide)) (by rfl) (by rfl) (by rfl) (EA_of (ea_consM (i := 1) (a := st) (by rfl) (by rfl) (by walk_at "vis") (by rfl) (ea_cons (d := .int 5) (by rfl) ee_int (ea_cons (d := .int 6) (by rfl) ee_int ea_nil))) ⟨st, l, cs, t', rfl, S2, by omega, fun n bs t2 M3 hb hn5 ht2 S3 F3 => ?_⟩) bundleD_mono (by decide)) (by walk_at "nd") (by rfl) (by walk_at "loc") (by walk_at "locf") (by rfl))
      refine ws_cons (w1_if (WV.tv (wv_or (tv_not (tv_val (fun _ => rfl) (ev_callG (ok__law_bundle_right T) hgd hr (by decide) (by rfl) (by rfl) (by rfl) (EA_of (ea_cons (d := bun n bs) (by rfl) ?_ ea_nil) ⟨.bool true, ⟨n, bs, rfl, hb, hn5, rfl⟩, true, rfl, fun _ => wv_or1 (tv_not (tv_val (fun _ => rfl) (ev_callG (ok__law_weighings_right T) hgd hr (by decide) (by rfl) (by rfl) (by rfl) (EA_of (ea_consM (i := 1) (a := st) (by rfl) (by rfl) (by walk_at "vis") (by rfl) (ea_cons (d := bun n bs) (by rfl) ?_ ea_nil)) ⟨st, l, cs, t2, n, bs, rfl, hb, hn5, S3, by omega, fun t3 M4 ht3 S4 F4 => ⟨true, rfl, fun h => (nomatch h), fun _ => ws_nil (ws_nil ⟨t3, by omega, S4, _, _, rfl⟩)⟩⟩) weighD_mono (by decide)))), fun h => (nomatch h)⟩) (pureD_mono _) (by decide)))))))
      · walk_at "any"
      · walk_at "any"
    · rintro δ' M' ⟨t', ht', S2, u1, u2, rfl⟩
      exact @law_2 P w K mg base T a cdv A outer s H E _ Φ hgd hr q a0 st u1 u2
end
end KP
namespace KP
open PySem PySem.Spec PyProof.Rows L2 DL
abbrev R : PySem.W.OpenRow := PySem.W.OpenLaw.row PySem.Challenge.rw_idleclauses_k11_whole_halves
abbrev hk : PySem.W.Hook := He.hookD 4 fa fn
def ob (s : PySem.W.SharedT) : He.AlD := He.obsDG 4 fa fn (HandSHeadRun.getT s)
theorem ob_eq (s : PySem.W.SharedT) : ob s = hk.obs s.abs := He.obsDG_eq (HandSHeadRun.getT_eq s)
def names1 : List Str := ["is_integer", "is_between", "are_rising", "is_literal", "is_clause", "by_names", "ClauseError", "BadBundle", "BadPaper", "BadHalves", "BadWeighing", "MOST_NAMES", "MOST_CLAUSES", "need_bundle", "turned_table", "first_bound", "first_table", "greatest_of", "need_form", "HALVES", "CLASH", "weight_of", "does_weigh", "is_row", "are_halves_of", "are_halves", "all_halves", "rounded_row", "need_weighing", "rounded"]
def names2 : List Str := ["sign_in", "weighed_in", "halves_paper", "heft_at", "do_clash", "check_halves", "light_setting", "tidy_by", "_law_mixed", "_law_begin", "_law_draw", "_law_of", "_law_clause", "_law_bundle", "_law_is_int", "_law_weight", "_law_does_weigh", "_law_are_halves", "_law_rows", "_law_do_clash", "_law_due", "_law_light", "_law_weighings_right", "_law_bundle_right"]
def names : List Str := names1 ++ names2
theorem run (w : World) : HandSHeadRun.RunEq R (PySem.W.view R.prog [61]) hk ob 4000 names w := by
  intro os
  kernel_rfl
end KP
namespace KP
open PySem PySem.Spec PyProof.Rows L2 DL
theorem facts {P : Program} {w : World} {K : PySem.W.Frag} {h : Heap} {mg : Str → Option Value} {f : Addr} (X : K.In h) (G : h.Ns mainGlobals mg) (hfa : mg ("law" : Str) = some (.ref f)) (c : He.SaysD fa fn K) :
    ∃ fd : FuncData, (∀ (s : Shared) (v : Value), BindsTo s fd ⟨[v], []⟩ [("script", v)]) ∧ ∀ base : Heap, K.In base → base.Ns mainGlobals mg → FnG P w K mg base 8 f fd ["script"] (spD (lawD K)) := by
  have T : Txt K mg := ⟨⟨h, X, G⟩, c⟩
  obtain ⟨fd, F⟩ := c.def_ 45 (d := dOf "law" 61) rfl
  have F : FunD K "law" "law" (defArgs (top 61)) (defBody (top 61)) (defScope (top 61)) [] [] (He.ga K "law") fd := F
  have e := hfa.symm.trans (T.glo 45 (x := "law") rfl)
  cases e
  have b := FunD.bindsA (ps := ["script"]) F fun _ _ _ _ _ _ us hl => match us, hl with | [_], _ => rfl
  exact ⟨fd, fun s v => b s [v] rfl, fun base _ _ => ok_law T F⟩
theorem law_sp {K : PySem.W.Frag} {H : Hp} {a : Addr} {ns : List Int} (hl : ns.length ≤ 63) (hO : Only H) (hS : SqL K H a (ns.map V.int)) : spD (lawD K) [.ref a] H (fun v _ => v = .bl true) fun _ _ _ => False := by
  have q : ∀ (M : Mu), Scr K M a ns → lawD K [.m a] M fun x _ => ∀ (v : V) (G' H' : Hp), Ex (fun _ => none) G' → True → RepS G' v x → v = .bl true := fun M h =>
    ⟨a, ns, rfl, h, by omega, fun M' v G' H' _ _ r => by cases (show Rp G' v (.bool true) from r); rfl⟩
  rcases hS with (h | ⟨ob, h⟩) | h
  · rcases hO a with z | ⟨o, xs, z⟩
    · rw [z] at h; cases h
    · rw [z] at h; cases h
  · obtain ⟨a', ns', e1, e2, e3, e4⟩ := q (fun b => if b = a then some (.scr (ns.map PyData.int)) else none) (.inl (if_pos rfl))
    refine ⟨fun _ => none, fun b => if b = a then some (.scr (ns.map PyData.int)) else none, [.m a], .cons rfl .nil, ⟨fun _ _ e => (nomatch e), fun b o e => ?_⟩, a', ns', e1, e2, e3, fun M' v G' H' x1 _ x3 => e4 M' v G' H' x1 trivial x3⟩
    by_cases hb : b = a
    · have e := (if_pos hb).symm.trans e
      cases e
      exact ⟨rfl, _, by rw [hb]; exact h, ob, _, rfl, rpa_ints⟩
    · have e := (if_neg hb).symm.trans e
      cases e
  · obtain ⟨a', ns', e1, e2, e3, e4⟩ := q (fun _ => none) (.inr fun _ => .inr h)
    exact ⟨fun _ => none, fun _ => none, [.m a], .cons rfl .nil, ⟨fun _ _ e => (nomatch e), fun b o e => (nomatch e)⟩, a', ns', e1, e2, e3, fun M' v G' H' x1 _ x3 => e4 M' v G' H' x1 trivial x3⟩
end KP
open PySem PySem.W PySem.Calls PyProof.Rows
theorem PySem.Challenge.cw_idleclauses_k11_whole_halves_holds : PySem.Challenge.rw_idleclauses_k11_whole_halves.Holds := by
  w_on; o_law
  refine HandSHeadRun.head_any (r := KP.R) (q := view KP.R.prog [61]) (H := KP.hk) (ob := KP.ob) (M := 4000) (loose := KP.names) (d := HandSHeadRun.topDef KP.R.prog 61) (kwd := []) KP.ob_eq
    (by kernel_rfl) (fun s => by kernel_rfl) KP.run (by kernel_rfl) (by kernel_rfl) (by kernel_rfl) (by rfl) (by first | assumption | decide +kernel) (by decide +kernel) ⟨rfl, rfl, rfl, rfl, rfl, by decide +kernel⟩ ?hw ?hc
  case hw => w_witness2
  case hc =>
    refine DL.walk_goes (l := PySem.Challenge.rw_idleclauses_k11_whole_halves) (n := 63) (k := 8) (x := "script") rfl (by decide) (by kernel_rfl) ⟨rfl, by decide, by decide⟩ ?F
    intro w mg fa h Y G hmg0
    obtain ⟨K, KX, c⟩ := Y
    have hmg : mg ("law" : PySem.Str) = some (.ref fa) := by
      have e : (HandSHeadRun.topDef KP.R.prog 61).name = ("law" : PySem.Str) := by kernel_rfl
      rw [← e]
      exact hmg0
    obtain ⟨fd, hb, hF⟩ := KP.facts (P := (PySem.Challenge.rw_idleclauses_k11_whole_halves).prog) (w := w) KX G hmg c
    exact ⟨K, fd, DL.spD (KP.lawD K), KX, hb, fun H a ns hl hO hS => KP.law_sp hl hO hS, hF⟩
