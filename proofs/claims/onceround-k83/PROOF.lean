import PyProof.Rows.All
import Wide.All
import OpenK.AllK
import Wide.FinOn
import HandS.ForMost
import HandS.More
import HandS.SetKeys
import HandS.Zip
import HandS.WideBits
import HandS.Style
import HandS.Steps
import PySem.Challenge.RW_onceround_k83_whole_three_roads
set_option Elab.async false
set_option linter.all false
set_option maxRecDepth 100000
set_option maxHeartbeats 4000000
/-! Determinants of whole numbers, by the first column. Plain Lean. -/
namespace MD

def sk (i x : Nat) : Nat := if x < i then x else x + 1
theorem sk_lt {i x : Nat} (h : x < i) : sk i x = x := by unfold sk; rw [if_pos h]
theorem sk_ge {i x : Nat} (h : i ≤ x) : sk i x = x + 1 := by unfold sk; rw [if_neg (by omega)]
theorem sk_ne (i x : Nat) : sk i x ≠ i := by unfold sk; split <;> omega
theorem sk_le (i x n : Nat) (h : x < n) : sk i x < n + 1 := by unfold sk; split <;> omega

theorem sk_comm1 {i r : Nat} (h : i < r) (x : Nat) : sk i (sk (r - 1) x) = sk r (sk i x) := by
  by_cases a : x < i
  · rw [sk_lt (show x < r - 1 by omega), sk_lt a, sk_lt (by omega)]
  · by_cases b : x < r - 1
    · rw [sk_lt b, sk_ge (show i ≤ x by omega), sk_lt (by omega)]
    · rw [sk_ge (show r - 1 ≤ x by omega), sk_ge (show i ≤ x by omega), sk_ge (show i ≤ x + 1 by omega), sk_ge (by omega)]
theorem sk_comm2 {i r : Nat} (h : r ≤ i) (x : Nat) : sk (i + 1) (sk r x) = sk r (sk i x) := by
  by_cases a : x < r
  · rw [sk_lt a, sk_lt (show x < i by omega), sk_lt (by omega), sk_lt a]
  · by_cases b : x < i
    · rw [sk_ge (show r ≤ x by omega), sk_lt b, sk_lt (by omega), sk_ge (by omega)]
    · rw [sk_ge (show r ≤ x by omega), sk_ge (show i ≤ x by omega), sk_ge (show i + 1 ≤ x + 1 by omega), sk_ge (by omega)]

def sgn (i : Nat) : Int := if i % 2 = 0 then 1 else -1
theorem sgn_succ (i : Nat) : sgn (i + 1) = - sgn i := by
  unfold sgn
  rcases Nat.mod_two_eq_zero_or_one i with h | h
  · rw [if_neg (by omega), if_pos h]
  · rw [if_pos (by omega), if_neg (by omega)]; rfl
theorem sgn_zero : sgn 0 = 1 := rfl
theorem sgn_sq (i : Nat) : sgn i * sgn i = 1 := by
  unfold sgn; split <;> rfl
theorem sgn_add (i j : Nat) : sgn (i + j) = sgn i * sgn j := by
  induction j with
  | zero => rw [sgn_zero]; simp
  | succ j ih => rw [← Nat.add_assoc, sgn_succ, sgn_succ, ih, Int.mul_neg]

def sumN : Nat → (Nat → Int) → Int
  | 0, _ => 0
  | n + 1, f => sumN n f + f n
theorem sumN_congr {n : Nat} {f g : Nat → Int} (h : ∀ i, i < n → f i = g i) : sumN n f = sumN n g := by
  induction n with
  | zero => rfl
  | succ n ih => show sumN n f + f n = sumN n g + g n; rw [ih fun i hi => h i (by omega), h n (by omega)]
theorem sumN_zero {n : Nat} {f : Nat → Int} (h : ∀ i, i < n → f i = 0) : sumN n f = 0 := by
  induction n with
  | zero => rfl
  | succ n ih => show sumN n f + f n = 0; rw [ih fun i hi => h i (by omega), h n (by omega)]; rfl
theorem sumN_add (n : Nat) (f g : Nat → Int) : sumN n (fun i => f i + g i) = sumN n f + sumN n g := by
  induction n with
  | zero => rfl
  | succ n ih => show sumN n _ + (f n + g n) = (sumN n f + f n) + (sumN n g + g n); rw [ih]; omega
theorem sumN_mul (n : Nat) (x : Int) (f : Nat → Int) : sumN n (fun i => x * f i) = x * sumN n f := by
  induction n with
  | zero => show (0 : Int) = x * 0; simp
  | succ n ih => show sumN n _ + x * f n = x * (sumN n f + f n); rw [ih, Int.mul_add]
theorem sumN_lin (n : Nat) (x y : Int) (f g : Nat → Int) : sumN n (fun i => x * f i + y * g i) = x * sumN n f + y * sumN n g := by
  rw [sumN_add, sumN_mul, sumN_mul]
/-- one term apart -/
theorem sumN_split (n r : Nat) (hr : r < n + 1) (f : Nat → Int) : sumN (n + 1) f = f r + sumN n (fun i => f (sk r i)) := by
  induction n with
  | zero =>
    have : r = 0 := by omega
    subst this
    show (0 : Int) + f 0 = f 0 + 0; omega
  | succ n ih =>
    show sumN (n + 1) f + f (n + 1) = f r + (sumN n (fun i => f (sk r i)) + f (sk r n))
    by_cases h : r = n + 1
    · subst h
      rw [sk_lt (by omega)]
      have e : sumN n (fun i => f (sk (n + 1) i)) = sumN n f := sumN_congr fun i hi => by rw [sk_lt (by omega)]
      rw [e]
      show (sumN n f + f n) + f (n + 1) = f (n + 1) + (sumN n f + f n); omega
    · rw [ih (by omega), sk_ge (by omega : r ≤ n)]; omega
theorem sumN_one {n r : Nat} (hr : r < n) {f : Nat → Int} (h : ∀ i, i < n → i ≠ r → f i = 0) : sumN n f = f r := by
  cases n with
  | zero => omega
  | succ n =>
    rw [sumN_split n r hr, sumN_zero fun i hi => h _ (sk_le r i n hi) (sk_ne r i)]; omega
theorem sumN_two {n p : Nat} (hp : p + 1 < n) {f : Nat → Int} (h : ∀ i, i < n → i ≠ p → i ≠ p + 1 → f i = 0) : sumN n f = f p + f (p + 1) := by
  cases n with
  | zero => omega
  | succ n =>
    rw [sumN_split n p (by omega)]
    have := sumN_one (n := n) (r := p) (by omega) (f := fun i => f (sk p i)) fun i hi hne => h _ (sk_le p i n hi) (sk_ne p i) (by unfold sk; split <;> omega)
    rw [this, sk_ge (Nat.le_refl p)]

def det : Nat → (Nat → Nat → Int) → Int
  | 0, _ => 1
  | n + 1, A => sumN (n + 1) fun i => sgn i * A i 0 * det n (fun r c => A (sk i r) (c + 1))
theorem det_succ (n : Nat) (A : Nat → Nat → Int) : det (n + 1) A = sumN (n + 1) fun i => sgn i * A i 0 * det n (fun r c => A (sk i r) (c + 1)) := rfl
theorem det_one (A : Nat → Nat → Int) : det 1 A = A 0 0 := by
  show (0 : Int) + 1 * A 0 0 * 1 = A 0 0; omega

theorem det_congr {n : Nat} {A B : Nat → Nat → Int} (h : ∀ r c, r < n → c < n → A r c = B r c) : det n A = det n B := by
  induction n generalizing A B with
  | zero => rfl
  | succ n ih =>
    rw [det_succ, det_succ]
    refine sumN_congr fun i hi => ?_
    rw [h i 0 hi (by omega), ih fun r c hr hc => h _ _ (sk_le i r n hr) (by omega)]

/-- row u is a sum of multiples -/
theorem det_lin {n u : Nat} (hu : u < n) {A B C : Nat → Nat → Int} {x y : Int} (hrow : ∀ c, c < n → A u c = x * B u c + y * C u c)
    (hB : ∀ r c, r < n → r ≠ u → c < n → A r c = B r c) (hC : ∀ r c, r < n → r ≠ u → c < n → A r c = C r c) : det n A = x * det n B + y * det n C := by
  induction n generalizing u A B C with
  | zero => omega
  | succ n ih =>
    rw [det_succ, det_succ, det_succ, ← sumN_lin]
    refine sumN_congr fun i hi => ?_
    by_cases e : i = u
    · subst e
      have e1 : det n (fun r c => A (sk i r) (c + 1)) = det n (fun r c => B (sk i r) (c + 1)) := det_congr fun r c hr hc => hB _ _ (sk_le i r n hr) (sk_ne i r) (by omega)
      have e2 : det n (fun r c => A (sk i r) (c + 1)) = det n (fun r c => C (sk i r) (c + 1)) := det_congr fun r c hr hc => hC _ _ (sk_le i r n hr) (sk_ne i r) (by omega)
      rw [← e1, ← e2, hrow 0 (by omega)]
      generalize det n (fun r c => A (sk i r) (c + 1)) = d
      rw [Int.mul_add, Int.add_mul]
      congr 1
      · rw [Int.mul_left_comm (sgn i), Int.mul_assoc]
      · rw [Int.mul_left_comm (sgn i), Int.mul_assoc]
    · rw [← hB i 0 hi e (by omega), ← hC i 0 hi e (by omega)]
      have key : ∀ u', sk i u' = u → u' < n → (∀ r, r ≠ u' → sk i r ≠ u) → det n (fun r c => A (sk i r) (c + 1)) = x * det n (fun r c => B (sk i r) (c + 1)) + y * det n (fun r c => C (sk i r) (c + 1)) := by
        intro u' h1 h2 h3
        refine ih h2 (fun c hc => ?_) (fun r c hr hne hc => ?_) (fun r c hr hne hc => ?_)
        · show A (sk i u') (c + 1) = x * B (sk i u') (c + 1) + y * C (sk i u') (c + 1)
          rw [h1]; exact hrow _ (by omega)
        · exact hB _ _ (sk_le i r n hr) (h3 r hne) (by omega)
        · exact hC _ _ (sk_le i r n hr) (h3 r hne) (by omega)
      have : det n (fun r c => A (sk i r) (c + 1)) = x * det n (fun r c => B (sk i r) (c + 1)) + y * det n (fun r c => C (sk i r) (c + 1)) := by
        by_cases g : u < i
        · exact key u (sk_lt g) (by omega) fun r hr => by unfold sk; split <;> omega
        · exact key (u - 1) (by rw [sk_ge (by omega)]; omega) (by omega) fun r hr => by unfold sk; split <;> omega
      rw [this, Int.mul_add]
      generalize sgn i * A i 0 = k
      rw [Int.mul_left_comm k x, Int.mul_left_comm k y]

theorem det_adj {n k : Nat} (hk : k + 1 < n) {A : Nat → Nat → Int} (h : ∀ c, c < n → A k c = A (k + 1) c) : det n A = 0 := by
  induction n generalizing k A with
  | zero => omega
  | succ n ih =>
    rw [det_succ, sumN_two hk]
    · rw [sgn_succ, ← h 0 (by omega)]
      have e : det n (fun r c => A (sk (k + 1) r) (c + 1)) = det n (fun r c => A (sk k r) (c + 1)) := det_congr fun r c hr hc => by
        show A (sk (k + 1) r) (c + 1) = A (sk k r) (c + 1)
        by_cases e : r = k
        · subst e; rw [sk_lt (by omega), sk_ge (Nat.le_refl _)]; exact h _ (by omega)
        · have : sk (k + 1) r = sk k r := by unfold sk; split <;> split <;> omega
          rw [this]
      rw [e, Int.neg_mul, Int.neg_mul]; omega
    · intro i hi h1 h2
      have : det n (fun r c => A (sk i r) (c + 1)) = 0 := by
        by_cases g : k < i
        · refine ih (k := k) (by omega) fun c hc => ?_
          show A (sk i k) (c + 1) = A (sk i (k + 1)) (c + 1)
          rw [sk_lt g, sk_lt (by omega)]; exact h _ (by omega)
        · refine ih (k := k - 1) (by omega) fun c hc => ?_
          show A (sk i (k - 1)) (c + 1) = A (sk i (k - 1 + 1)) (c + 1)
          rw [sk_ge (by omega), sk_ge (by omega), show k - 1 + 1 = k by omega]; exact h _ (by omega)
      rw [this]; omega

/-- the matrix with row u replaced -/
def rep (A : Nat → Nat → Int) (u : Nat) (f : Nat → Int) : Nat → Nat → Int := fun r c => if r = u then f c else A r c
theorem rep_at (A : Nat → Nat → Int) (u : Nat) (f : Nat → Int) (c : Nat) : rep A u f u c = f c := by unfold rep; rw [if_pos rfl]
theorem rep_ne {A : Nat → Nat → Int} {u r : Nat} {f : Nat → Int} (h : r ≠ u) (c : Nat) : rep A u f r c = A r c := by unfold rep; rw [if_neg h]
theorem det_rep_lin {n u : Nat} (hu : u < n) (A : Nat → Nat → Int) (f g : Nat → Int) (x y : Int) : det n (rep A u fun c => x * f c + y * g c) = x * det n (rep A u f) + y * det n (rep A u g) :=
  det_lin hu (fun c _ => by rw [rep_at, rep_at, rep_at]) (fun r c _ h _ => by rw [rep_ne h, rep_ne h]) (fun r c _ h _ => by rw [rep_ne h, rep_ne h])
theorem det_rep_add {n u : Nat} (hu : u < n) (A : Nat → Nat → Int) (f g : Nat → Int) : det n (rep A u fun c => f c + g c) = det n (rep A u f) + det n (rep A u g) := by
  have := det_rep_lin hu A f g 1 1
  simp only [Int.one_mul] at this
  exact this
theorem det_rep_self {n u : Nat} (A : Nat → Nat → Int) : det n (rep A u (A u)) = det n A :=
  det_congr fun r c _ _ => by
    by_cases h : r = u
    · subst h; rw [rep_at]
    · rw [rep_ne h]

/-- an exchange of two neighbours -/
theorem det_swap_adj {n k : Nat} (hk : k + 1 < n) (A : Nat → Nat → Int) : det n (rep (rep A k (A (k + 1))) (k + 1) (A k)) = - det n A := by
  have h1 : det n (rep (rep A k fun c => A k c + A (k + 1) c) (k + 1) fun c => A k c + A (k + 1) c) = 0 := det_adj hk fun c _ => by
    rw [rep_at, rep_ne (by omega), rep_at]
  have two : ∀ (f g : Nat → Int), det n (rep (rep A k f) (k + 1) g) = det n (rep (rep A (k + 1) g) k f) := fun f g => det_congr fun r c _ _ => by
    unfold rep; split <;> split <;> first | rfl | omega
  have ex : det n (rep (rep A k fun c => A k c + A (k + 1) c) (k + 1) fun c => A k c + A (k + 1) c)
      = (det n (rep (rep A k (A k)) (k + 1) (A k)) + det n (rep (rep A k (A (k + 1))) (k + 1) (A k))) + (det n (rep (rep A k (A k)) (k + 1) (A (k + 1))) + det n (rep (rep A k (A (k + 1))) (k + 1) (A (k + 1)))) := by
    rw [det_rep_add hk, two, two, det_rep_add (by omega), det_rep_add (by omega), two, two, two, two]
  have z1 : det n (rep (rep A k (A k)) (k + 1) (A k)) = 0 := det_adj hk fun c _ => by rw [rep_at, rep_ne (by omega), rep_at]
  have z2 : det n (rep (rep A k (A (k + 1))) (k + 1) (A (k + 1))) = 0 := det_adj hk fun c _ => by rw [rep_at, rep_ne (by omega), rep_at]
  have z3 : det n (rep (rep A k (A k)) (k + 1) (A (k + 1))) = det n A := det_congr fun r c _ _ => by
    unfold rep
    split
    · rename_i h; rw [h]
    · split
      · rename_i h; rw [h]
      · rfl
  rw [ex, z1, z2, z3] at h1
  omega

/-- two equal rows -/
theorem det_same {n : Nat} : ∀ (d : Nat) {p q : Nat} {A : Nat → Nat → Int}, q = p + 1 + d → q < n → (∀ c, c < n → A p c = A q c) → det n A = 0
  | 0, p, q, A, e, hq, h => by subst e; exact det_adj hq h
  | d + 1, p, q, A, e, hq, h => by
    have hk : (p + 1 + d) + 1 < n := by omega
    have e2 : q = p + 1 + d + 1 := by omega
    have s := det_swap_adj hk A
    rw [det_same d (p := p) (q := p + 1 + d) rfl (by omega)] at s
    · omega
    · intro c hc
      rw [rep_ne (by omega), rep_ne (by omega), rep_ne (by omega), rep_at, h c hc, e2]
theorem det_eq_rows {n p q : Nat} (hp : p < n) (hq : q < n) (hne : p ≠ q) {A : Nat → Nat → Int} (h : ∀ c, c < n → A p c = A q c) : det n A = 0 := by
  by_cases g : p < q
  · exact det_same (q - p - 1) (by omega) hq h
  · exact det_same (p - q - 1) (p := q) (q := p) (by omega) hp fun c hc => (h c hc).symm

/-- an exchange of any two rows -/
theorem det_swap {n p q : Nat} (hp : p < n) (hq : q < n) (hne : p ≠ q) (A : Nat → Nat → Int) : det n (rep (rep A p (A q)) q (A p)) = - det n A := by
  have h1 : det n (rep (rep A p fun c => A p c + A q c) q fun c => A p c + A q c) = 0 := det_eq_rows hp hq hne fun c _ => by
    rw [rep_at, rep_ne hne, rep_at]
  have two : ∀ (f g : Nat → Int), det n (rep (rep A p f) q g) = det n (rep (rep A q g) p f) := fun f g => det_congr fun r c _ _ => by
    unfold rep; split <;> split <;> first | rfl | omega
  have ex : det n (rep (rep A p fun c => A p c + A q c) q fun c => A p c + A q c)
      = (det n (rep (rep A p (A p)) q (A p)) + det n (rep (rep A p (A q)) q (A p))) + (det n (rep (rep A p (A p)) q (A q)) + det n (rep (rep A p (A q)) q (A q))) := by
    rw [det_rep_add hq, two, two, det_rep_add hp, det_rep_add hp, two, two, two, two]
  have z1 : det n (rep (rep A p (A p)) q (A p)) = 0 := det_eq_rows hp hq hne fun c _ => by rw [rep_at, rep_ne hne, rep_at]
  have z2 : det n (rep (rep A p (A q)) q (A q)) = 0 := det_eq_rows hp hq hne fun c _ => by rw [rep_at, rep_ne hne, rep_at]
  have z3 : det n (rep (rep A p (A p)) q (A q)) = det n A := det_congr fun r c _ _ => by
    unfold rep
    split
    · rename_i h; rw [h]
    · split
      · rename_i h; rw [h]
      · rfl
  rw [ex, z1, z2, z3] at h1
  omega

theorem det_zero_row {n u : Nat} (hu : u < n) {A : Nat → Nat → Int} (h : ∀ c, c < n → A u c = 0) : det n A = 0 := by
  have := det_lin (x := 0) (y := 0) hu (A := A) (B := A) (C := A) (fun c hc => by rw [h c hc]; rfl) (fun _ _ _ _ _ => rfl) (fun _ _ _ _ _ => rfl)
  rw [this]; omega
theorem det_zero_col {n c : Nat} (hc : c < n) {A : Nat → Nat → Int} (h : ∀ r, r < n → A r c = 0) : det n A = 0 := by
  induction n generalizing c A with
  | zero => omega
  | succ n ih =>
    rw [det_succ]
    refine sumN_zero fun i hi => ?_
    by_cases e : c = 0
    · subst e; rw [h i hi]; simp
    · have : det n (fun r c => A (sk i r) (c + 1)) = 0 := ih (c := c - 1) (by omega) fun r hr => by
        show A (sk i r) (c - 1 + 1) = 0
        rw [show c - 1 + 1 = c by omega]; exact h _ (sk_le i r n hr)
      rw [this]; simp
/-- a row with one number alone -/
theorem det_row_one {n r c : Nat} (hr : r < n + 1) (hc : c < n + 1) {A : Nat → Nat → Int} (h : ∀ j, j < n + 1 → j ≠ c → A r j = 0) :
    det (n + 1) A = sgn (r + c) * A r c * det n (fun i j => A (sk r i) (sk c j)) := by
  induction n generalizing r c A with
  | zero =>
    obtain rfl : r = 0 := by omega
    obtain rfl : c = 0 := by omega
    rw [det_one]; show A 0 0 = 1 * A 0 0 * 1; omega
  | succ n ih =>
    by_cases e : c = 0
    · subst e
      rw [det_succ, sumN_one (r := r) hr]
      · rw [Nat.add_zero]
        congr 1
      · intro i hi hne
        have : det (n + 1) (fun r c => A (sk i r) (c + 1)) = 0 := by
          by_cases g : r < i
          · refine det_zero_row (u := r) (by omega) fun c hc => ?_
            show A (sk i r) (c + 1) = 0
            rw [sk_lt g]; exact h _ (by omega) (by omega)
          · refine det_zero_row (u := r - 1) (by omega) fun c hc => ?_
            show A (sk i (r - 1)) (c + 1) = 0
            rw [sk_ge (by omega), show r - 1 + 1 = r by omega]; exact h _ (by omega) (by omega)
        rw [this]; simp
    · have h0 : A r 0 = 0 := h 0 (by omega) (fun z => e z.symm)
      rw [det_succ (n + 1) A, sumN_split (n + 1) r hr, h0, det_succ n (fun i j => A (sk r i) (sk c j)), ← sumN_mul, Int.mul_zero, Int.zero_mul, Int.zero_add]
      · refine sumN_congr fun i hi => ?_
        -- the row r stands at r' in the minor
        have key : ∀ r', r' < n + 1 → sk (sk r i) r' = r → (∀ x, sk (sk r i) (sk r' x) = sk r (sk i x)) → sgn (sk r i) * sgn (r' + (c - 1)) = sgn (r + c) * sgn i →
            sgn (sk r i) * A (sk r i) 0 * det (n + 1) (fun x y => A (sk (sk r i) x) (y + 1)) = sgn (r + c) * A r c * (sgn i * A (sk r i) (sk c 0) * det n (fun x y => A (sk r (sk i x)) (sk c (y + 1)))) := by
          intro r' h1 h2 h3 h4
          have := ih (r := r') (c := c - 1) (A := fun x y => A (sk (sk r i) x) (y + 1)) h1 (by omega) fun j hj hne => by
            show A (sk (sk r i) r') (j + 1) = 0
            rw [h2]; exact h _ (by omega) (by omega)
          rw [this]
          have e1 : A (sk (sk r i) r') (c - 1 + 1) = A r c := by rw [h2, show c - 1 + 1 = c by omega]
          have e2 : det n (fun i_1 j => A (sk (sk r i) (sk r' i_1)) (sk (c - 1) j + 1)) = det n (fun x y => A (sk r (sk i x)) (sk c (y + 1))) := det_congr fun x y _ _ => by
            show A (sk (sk r i) (sk r' x)) (sk (c - 1) y + 1) = A (sk r (sk i x)) (sk c (y + 1))
            rw [h3]
            congr 1
            unfold sk; split <;> split <;> omega
          show sgn (sk r i) * A (sk r i) 0 * (sgn (r' + (c - 1)) * A (sk (sk r i) r') (c - 1 + 1) * det n (fun i_1 j => A (sk (sk r i) (sk r' i_1)) (sk (c - 1) j + 1))) = _
          rw [e1, e2, sk_lt (show 0 < c by omega)]
          generalize det n (fun x y => A (sk r (sk i x)) (sk c (y + 1))) = d
          generalize A r c = a at *
          generalize A (sk r i) 0 = b at *
          calc sgn (sk r i) * b * (sgn (r' + (c - 1)) * a * d) = (sgn (sk r i) * sgn (r' + (c - 1))) * (a * (b * d)) := by
                simp only [Int.mul_assoc, Int.mul_left_comm, Int.mul_comm]
            _ = (sgn (r + c) * sgn i) * (a * (b * d)) := by rw [h4]
            _ = sgn (r + c) * a * (sgn i * b * d) := by simp only [Int.mul_assoc, Int.mul_left_comm, Int.mul_comm]
        by_cases g : i < r
        · refine key (r - 1) (by omega) (by rw [sk_lt g, sk_ge (show i ≤ r - 1 by omega)]; omega) (fun x => by rw [sk_lt g]; exact sk_comm1 g x) ?_
          rw [sk_lt g, Int.mul_comm (sgn (r + c)), ← sgn_add, ← sgn_add]
          have : i + (r + c) = (i + (r - 1 + (c - 1))) + 1 + 1 := by omega
          rw [this, sgn_succ, sgn_succ, Int.neg_neg]
        · refine key r (by omega) (by rw [sk_ge (show r ≤ i by omega), sk_lt (show r < i + 1 by omega)]) (fun x => by rw [sk_ge (show r ≤ i by omega)]; exact sk_comm2 (by omega) x) ?_
          rw [sk_ge (show r ≤ i by omega), Int.mul_comm (sgn (r + c)), ← sgn_add, ← sgn_add]
          congr 1; omega
end MD
/-! Elimination without fractions (Bareiss): what stands in its rows. Plain Lean. -/
namespace MD

/-- condensation: B's first number p stands ahead of its rows -/
theorem chio (m : Nat) (B : Nat → Nat → Int) :
    B 0 0 ^ m * det (m + 1) B = B 0 0 * det m (fun i j => B 0 0 * B (i + 1) (j + 1) - B (i + 1) 0 * B 0 (j + 1)) := by
  -- rows 1 .. t changed
  have step : ∀ t, t ≤ m → det (m + 1) (fun r c => if 1 ≤ r ∧ r ≤ t then B 0 0 * B r c - B r 0 * B 0 c else B r c) = B 0 0 ^ t * det (m + 1) B := by
    intro t
    induction t with
    | zero =>
      intro _
      rw [Int.pow_zero, Int.one_mul]
      exact det_congr fun r c _ _ => by rw [if_neg (by omega)]
    | succ t ih =>
      intro ht
      have e := det_lin (n := m + 1) (u := t + 1) (by omega) (x := B 0 0) (y := - B (t + 1) 0)
        (A := fun r c => if 1 ≤ r ∧ r ≤ t + 1 then B 0 0 * B r c - B r 0 * B 0 c else B r c)
        (B := fun r c => if 1 ≤ r ∧ r ≤ t then B 0 0 * B r c - B r 0 * B 0 c else B r c)
        (C := fun r c => if r = t + 1 then B 0 c else if 1 ≤ r ∧ r ≤ t then B 0 0 * B r c - B r 0 * B 0 c else B r c)
        (fun c _ => by
          show (if 1 ≤ t + 1 ∧ t + 1 ≤ t + 1 then B 0 0 * B (t + 1) c - B (t + 1) 0 * B 0 c else B (t + 1) c) = B 0 0 * (if 1 ≤ t + 1 ∧ t + 1 ≤ t then B 0 0 * B (t + 1) c - B (t + 1) 0 * B 0 c else B (t + 1) c) + - B (t + 1) 0 * (if t + 1 = t + 1 then B 0 c else _)
          rw [if_pos (by omega), if_neg (by omega), if_pos rfl, Int.neg_mul]; omega)
        (fun r c _ hne _ => by
          show (if 1 ≤ r ∧ r ≤ t + 1 then _ else _) = (if 1 ≤ r ∧ r ≤ t then _ else _)
          by_cases g : 1 ≤ r ∧ r ≤ t
          · rw [if_pos g, if_pos (by omega)]
          · rw [if_neg g, if_neg (by omega)])
        (fun r c _ hne _ => by
          show (if 1 ≤ r ∧ r ≤ t + 1 then _ else _) = (if r = t + 1 then _ else if 1 ≤ r ∧ r ≤ t then _ else _)
          rw [if_neg hne]
          by_cases g : 1 ≤ r ∧ r ≤ t
          · rw [if_pos g, if_pos (by omega)]
          · rw [if_neg g, if_neg (by omega)])
      rw [e, ih (by omega)]
      have z : det (m + 1) (fun r c => if r = t + 1 then B 0 c else if 1 ≤ r ∧ r ≤ t then B 0 0 * B r c - B r 0 * B 0 c else B r c) = 0 :=
        det_eq_rows (p := 0) (q := t + 1) (by omega) (by omega) (by omega) fun c _ => by
          show (if 0 = t + 1 then _ else if 1 ≤ 0 ∧ 0 ≤ t then _ else B 0 c) = (if t + 1 = t + 1 then B 0 c else _)
          rw [if_neg (by omega), if_neg (by omega), if_pos rfl]
      rw [z, Int.pow_succ]
      rw [Int.mul_zero, Int.add_zero, Int.mul_comm (B 0 0 ^ t) (B 0 0), Int.mul_assoc]
  rw [← step m (Nat.le_refl m), det_succ, sumN_one (r := 0) (by omega)]
  · show 1 * (if 1 ≤ 0 ∧ 0 ≤ m then _ else B 0 0) * det m (fun r c => _) = _
    rw [if_neg (by omega), Int.one_mul]
    congr 1
    refine det_congr fun r c hr hc => ?_
    show (if 1 ≤ sk 0 r ∧ sk 0 r ≤ m then B 0 0 * B (sk 0 r) (c + 1) - B (sk 0 r) 0 * B 0 (c + 1) else B (sk 0 r) (c + 1)) = _
    rw [sk_ge (Nat.zero_le r), if_pos (by omega)]
  · intro i hi hne
    show sgn i * (if 1 ≤ i ∧ i ≤ m then B 0 0 * B i 0 - B i 0 * B 0 0 else B i 0) * _ = 0
    rw [if_pos (by omega), Int.mul_comm (B 0 0), Int.sub_self]; simp

/-- condensation, divided by p -/
theorem chio1 (m : Nat) (B : Nat → Nat → Int) (hp : B 0 0 ≠ 0) :
    det (m + 1) (fun i j => B 0 0 * B (i + 1) (j + 1) - B (i + 1) 0 * B 0 (j + 1)) = B 0 0 ^ m * det (m + 2) B := by
  have h := chio (m + 1) B
  rw [Int.pow_succ, Int.mul_comm (B 0 0 ^ m), Int.mul_assoc] at h
  exact (Int.eq_of_mul_eq_mul_left hp h).symm

/-- rows that sum to nought -/
theorem det_sums : ∀ (n : Nat) (A : Nat → Nat → Int), (∀ r, r < n + 1 → sumN (n + 1) (A r) = 0) → det (n + 1) A = 0
  | 0, A, h => by
    rw [det_one]
    have := h 0 (by omega)
    have e : sumN 1 (A 0) = 0 + A 0 0 := rfl
    rw [e] at this; omega
  | n + 1, A, h => by
    -- with a number at the first place
    have main : ∀ B : Nat → Nat → Int, (∀ r, r < n + 2 → sumN (n + 2) (B r) = 0) → B 0 0 ≠ 0 → det (n + 2) B = 0 := by
      intro B hB hp
      have c := chio1 n B hp
      rw [det_sums n _ ?_] at c
      · rcases Int.mul_eq_zero.mp c.symm with z | z
        · exact absurd z (Int.pow_ne_zero hp)
        · exact z
      · intro r hr
        have first : ∀ f : Nat → Int, sumN (n + 2) f = f 0 + sumN (n + 1) (fun j => f (j + 1)) := fun f => by
          rw [sumN_split (n + 1) 0 (by omega)]
          exact congrArg (f 0 + ·) (sumN_congr fun i _ => by rw [sk_ge (Nat.zero_le i)])
        have h1 := hB (r + 1) (by omega)
        have h0 := hB 0 (by omega)
        rw [first] at h1 h0
        have := sumN_lin (n + 1) (B 0 0) (- B (r + 1) 0) (fun j => B (r + 1) (j + 1)) (fun j => B 0 (j + 1))
        have e : sumN (n + 1) (fun j => B 0 0 * B (r + 1) (j + 1) - B (r + 1) 0 * B 0 (j + 1)) = sumN (n + 1) (fun i => B 0 0 * B (r + 1) (i + 1) + - B (r + 1) 0 * B 0 (i + 1)) :=
          sumN_congr fun i _ => by rw [Int.neg_mul]; omega
        rw [e, this]
        have a1 : sumN (n + 1) (fun j => B (r + 1) (j + 1)) = - B (r + 1) 0 := by omega
        have a0 : sumN (n + 1) (fun j => B 0 (j + 1)) = - B 0 0 := by omega
        rw [a1, a0, Int.mul_neg, Int.neg_mul_neg, Int.mul_comm (B (r + 1) 0)]; omega
    by_cases hz : ∀ r, r < n + 2 → A r 0 = 0
    · exact det_zero_col (c := 0) (by omega) hz
    · obtain ⟨q, hq, hne⟩ : ∃ q, q < n + 2 ∧ A q 0 ≠ 0 := by
        refine Classical.byContradiction fun no => hz fun r hr => ?_
        exact Classical.byContradiction fun hne => no ⟨r, hr, hne⟩
      by_cases q0 : q = 0
      · subst q0; exact main A h hne
      · have s := det_swap (n := n + 2) (p := 0) (q := q) (by omega) hq (by omega) A
        rw [main _ ?_ ?_] at s
        · have s' : (0 : Int) = - det (n + 1 + 1) A := s
          omega
        · intro r hr
          by_cases e : r = q
          · subst e
            rw [show sumN (n + 2) (rep (rep A 0 (A r)) r (A 0) r) = sumN (n + 2) (A 0) from sumN_congr fun i _ => rep_at _ _ _ _]
            exact h 0 (by omega)
          · by_cases e0 : r = 0
            · subst e0
              rw [show sumN (n + 2) (rep (rep A 0 (A q)) q (A 0) 0) = sumN (n + 2) (A q) from sumN_congr fun i _ => by rw [rep_ne e, rep_at]]
              exact h q hq
            · rw [show sumN (n + 2) (rep (rep A 0 (A q)) q (A 0) r) = sumN (n + 2) (A r) from sumN_congr fun i _ => by rw [rep_ne e, rep_ne e0]]
              exact h r hr
        · rw [rep_ne (by omega), rep_at]; exact hne

def fac : Nat → Nat
  | 0 => 1
  | n + 1 => (n + 1) * fac n
theorem fac_pos : ∀ n, 0 < fac n
  | 0 => Nat.one_pos
  | n + 1 => Nat.mul_pos (Nat.succ_pos n) (fac_pos n)
theorem sumN_abs {n : Nat} {f : Nat → Int} {M : Nat} (h : ∀ i, i < n → (f i).natAbs ≤ M) : (sumN n f).natAbs ≤ n * M := by
  induction n with
  | zero => show (0 : Int).natAbs ≤ 0 * M; simp
  | succ n ih =>
    show (sumN n f + f n).natAbs ≤ (n + 1) * M
    have a := ih fun i hi => h i (by omega)
    have b := h n (by omega)
    have c := Int.natAbs_add_le (sumN n f) (f n)
    rw [Nat.succ_mul]; omega
/-- how great a determinant can be -/
theorem det_abs {n M : Nat} {A : Nat → Nat → Int} (h : ∀ r c, r < n → c < n → (A r c).natAbs ≤ M) : (det n A).natAbs ≤ fac n * M ^ n := by
  induction n generalizing A with
  | zero => show (1 : Int).natAbs ≤ 1 * M ^ 0; simp
  | succ n ih =>
    rw [det_succ]
    refine Nat.le_trans (sumN_abs (M := M * (fac n * M ^ n)) fun i hi => ?_) ?_
    · rw [Int.natAbs_mul, Int.natAbs_mul]
      have e : (sgn i).natAbs = 1 := by unfold sgn; split <;> rfl
      rw [e, Nat.one_mul]
      exact Nat.mul_le_mul (h i 0 hi (by omega)) (ih fun r c hr hc => h _ _ (sk_le i r n hr) (by omega))
    · show (n + 1) * (M * (fac n * M ^ n)) ≤ (n + 1) * fac n * M ^ (n + 1)
      rw [Nat.pow_succ, Nat.mul_assoc]
      apply Nat.le_of_eq
      congr 1
      rw [Nat.mul_left_comm, Nat.mul_comm M]
end MD
/-! The rows of an elimination without fractions, step by step. Plain Lean. -/
namespace MD

def ext (k : Nat) (I : Nat → Nat) : Nat → Nat := fun a => if a < k then a else I (a - k)
def cons0 (k : Nat) (I : Nat → Nat) : Nat → Nat
  | 0 => k
  | a + 1 => I a
theorem ext_lt {k a : Nat} {I : Nat → Nat} (h : a < k) : ext k I a = a := by unfold ext; rw [if_pos h]
theorem ext_ge {k a : Nat} {I : Nat → Nat} (h : k ≤ a) : ext k I a = I (a - k) := by unfold ext; rw [if_neg (by omega)]
theorem ext_cons (k : Nat) (I : Nat → Nat) (a : Nat) : ext k (cons0 k I) a = ext (k + 1) I a := by
  by_cases h : a < k
  · rw [ext_lt h, ext_lt (by omega)]
  · by_cases e : a = k
    · subst e; rw [ext_ge (Nat.le_refl _), Nat.sub_self, ext_lt (by omega)]; rfl
    · rw [ext_ge (by omega), ext_ge (by omega)]
      rw [show a - k = (a - (k + 1)) + 1 by omega]; rfl
theorem ext_at (k a : Nat) (h : a < k + 1) : ext k (fun _ => k) a = a := by
  by_cases e : a < k
  · exact ext_lt e
  · rw [ext_ge (by omega)]; omega

theorem det_scale (n : Nat) (c : Int) (A : Nat → Nat → Int) : det n (fun r j => c * A r j) = c ^ n * det n A := by
  induction n generalizing A with
  | zero => rw [Int.pow_zero, Int.one_mul]; rfl
  | succ n ih =>
    rw [det_succ, det_succ, ← sumN_mul]
    refine sumN_congr fun i _ => ?_
    show sgn i * (c * A i 0) * det n (fun r j => c * A (sk i r) (j + 1)) = _
    rw [ih, Int.pow_succ]
    generalize det n (fun r j => A (sk i r) (j + 1)) = d
    generalize c ^ n = e
    simp only [Int.mul_assoc, Int.mul_left_comm, Int.mul_comm]

structure BInv (A : Nat → Nat → Int) (n k : Nat) (s c : Int) (M : Nat → Nat → Int) (Bd : Nat) : Prop where
  ex : ∃ A' : Nat → Nat → Int, s * det n A' = det n A ∧ (∀ r j, r < n → j < n → (A' r j).natAbs ≤ Bd) ∧ c = det k A' ∧
    ∀ (m : Nat) (I J : Nat → Nat), (∀ a, a < m + 1 → k ≤ I a ∧ I a < n) → (∀ a, a < m + 1 → k ≤ J a ∧ J a < n) →
      det (m + 1) (fun a b => M (I a) (J b)) = c ^ m * det (k + (m + 1)) (fun a b => A' (ext k I a) (ext k J b))
  sg : s = 1 ∨ s = -1
  ne : c ≠ 0
  le : k ≤ n

theorem BInv.start {A : Nat → Nat → Int} {n Bd : Nat} (h : ∀ r j, r < n → j < n → (A r j).natAbs ≤ Bd) : BInv A n 0 1 1 A Bd where
  ex := ⟨A, Int.one_mul _, h, rfl, fun m I J _ _ => by
    rw [Int.one_pow, Int.one_mul, Nat.zero_add]
    exact det_congr fun a b _ _ => by rw [ext_ge (Nat.zero_le _), ext_ge (Nat.zero_le _)]; rfl⟩
  sg := .inl rfl
  ne := by decide
  le := Nat.zero_le n

section
variable {A M : Nat → Nat → Int} {n k Bd : Nat} {s c : Int}

theorem fac_mono {a b : Nat} (h : a ≤ b) : fac a ≤ fac b := by
  induction h with
  | refl => exact Nat.le_refl _
  | @step m _ ih =>
    show fac a ≤ (m + 1) * fac m
    exact Nat.le_trans ih (Nat.le_mul_of_pos_left _ (Nat.succ_pos m))
theorem BInv.entry (h : BInv A n k s c M Bd) {i j : Nat} (hi : k ≤ i) (hi2 : i < n) (hj : k ≤ j) (hj2 : j < n) : (M i j).natAbs ≤ fac (k + 1) * Bd ^ (k + 1) := by
  obtain ⟨A', _, hb, _, hm⟩ := h.ex
  have e := hm 0 (fun _ => i) (fun _ => j) (fun _ _ => ⟨hi, hi2⟩) (fun _ _ => ⟨hj, hj2⟩)
  rw [det_one, Int.pow_zero, Int.one_mul] at e
  have e' : M i j = det (k + 1) (fun a b => A' (ext k (fun _ => i) a) (ext k (fun _ => j) b)) := e
  rw [e']
  refine det_abs fun r l hr hl => hb _ _ ?_ ?_
  · unfold ext; split <;> omega
  · unfold ext; split <;> omega
theorem BInv.last (h : BInv A n k s c M Bd) : c.natAbs ≤ fac k * Bd ^ k := by
  obtain ⟨A', _, hb, hc, _⟩ := h.ex
  rw [hc]
  have := h.le
  exact det_abs fun r l hr hl => hb _ _ (by omega) (by omega)
theorem BInv.exact (h : BInv A n k s c M Bd) {i j : Nat} (hi : k < i) (hi2 : i < n) (hj : k < j) (hj2 : j < n) : ∃ q, M i j * M k k - M i k * M k j = c * q := by
  obtain ⟨A', _, _, _, hm⟩ := h.ex
  have e := hm 1 (cons0 k fun _ => i) (cons0 k fun _ => j)
    (fun a ha => by match a, ha with | 0, _ => exact ⟨Nat.le_refl _, by show k < n; omega⟩ | 1, _ => exact ⟨by show k ≤ i; omega, hi2⟩)
    (fun a ha => by match a, ha with | 0, _ => exact ⟨Nat.le_refl _, by show k < n; omega⟩ | 1, _ => exact ⟨by show k ≤ j; omega, hj2⟩)
  have two : ∀ B : Nat → Nat → Int, det 2 B = B 0 0 * B 1 1 - B 1 0 * B 0 1 := fun B => by
    show (0 + sgn 0 * B 0 0 * det 1 (fun r c => B (sk 0 r) (c + 1))) + sgn 1 * B 1 0 * det 1 (fun r c => B (sk 1 r) (c + 1)) = _
    rw [det_one, det_one]
    show (0 + 1 * B 0 0 * B 1 1) + (-1) * B 1 0 * B 0 1 = B 0 0 * B 1 1 - B 1 0 * B 0 1
    rw [Int.one_mul, Int.neg_mul, Int.one_mul, Int.neg_mul]; omega
  rw [two, Int.pow_one] at e
  refine ⟨_, Eq.trans ?_ e⟩
  show M i j * M k k - M i k * M k j = M k k * M i j - M i k * M k j
  rw [Int.mul_comm (M i j)]

/-- rows k and q exchanged -/
theorem BInv.swap (h : BInv A n k s c M Bd) {q : Nat} (hk : k < q) (hq : q < n) {M' : Nat → Nat → Int} (hM : ∀ r j, M' r j = if r = k then M q j else if r = q then M k j else M r j) : BInv A n k (-s) c M' Bd := by
  obtain ⟨A', hd, hb, hc, hm⟩ := h.ex
  let tau : Nat → Nat := fun r => if r = k then q else if r = q then k else r
  have hM' : ∀ r j, M' r j = M (tau r) j := fun r j => by
    rw [hM]; show _ = M (if r = k then q else if r = q then k else r) j
    split
    · rfl
    · split <;> rfl
  have tn : ∀ r, r < n → tau r < n := fun r hr => by
    show (if r = k then q else if r = q then k else r) < n
    split
    · exact hq
    · split <;> omega
  have tk : ∀ r, k ≤ r → k ≤ tau r := fun r hr => by
    show k ≤ (if r = k then q else if r = q then k else r)
    split
    · omega
    · split <;> omega
  have tl : ∀ r, r < k → tau r = r := fun r hr => by show (if r = k then q else if r = q then k else r) = r; rw [if_neg (by omega), if_neg (by omega)]
  refine ⟨⟨fun r j => A' (tau r) j, ?_, fun r j hr hj => hb _ _ (tn r hr) hj, ?_, fun m I J hI hJ => ?_⟩, ?_, h.ne, h.le⟩
  · have sw := det_swap (n := n) (p := k) (q := q) (by omega) hq (by omega) A'
    have e : det n (fun r j => A' (tau r) j) = det n (rep (rep A' k (A' q)) q (A' k)) := det_congr fun r j _ _ => by
      show A' (if r = k then q else if r = q then k else r) j = _
      unfold rep
      by_cases e1 : r = k
      · rw [if_pos e1, if_neg (by omega), if_pos e1]
      · rw [if_neg e1]
        by_cases e2 : r = q
        · rw [if_pos e2, if_pos e2]
        · rw [if_neg e2, if_neg e2, if_neg e1]
    rw [e, sw, Int.neg_mul_neg]; exact hd
  · rw [hc]
    exact det_congr fun r j hr _ => by rw [tl r hr]
  · have e := hm m (fun a => tau (I a)) J (fun a ha => ⟨tk _ (hI a ha).1, tn _ (hI a ha).2⟩) hJ
    have e1 : det (m + 1) (fun a b => M' (I a) (J b)) = det (m + 1) (fun a b => M (tau (I a)) (J b)) := det_congr fun a b _ _ => hM' _ _
    rw [e1, e]
    congr 1
    refine det_congr fun a b _ _ => ?_
    show A' (ext k (fun a => tau (I a)) a) (ext k J b) = A' (tau (ext k I a)) (ext k J b)
    by_cases g : a < k
    · rw [ext_lt g, ext_lt g, tl a g]
    · rw [ext_ge (show k ≤ a by omega), ext_ge (show k ≤ a by omega)]
  · rcases h.sg with e | e
    · rw [e]; exact .inr rfl
    · rw [e]; exact .inl rfl

/-- no row with a number at place k -/
theorem BInv.none (h : BInv A n k s c M Bd) (hk : k < n) (hz : ∀ r, k ≤ r → r < n → M r k = 0) : det n A = 0 := by
  obtain ⟨A', hd, hb, hc, hm⟩ := h.ex
  have e := hm (n - k - 1) (fun a => k + a) (fun a => k + a) (fun a ha => ⟨by omega, by omega⟩) (fun a ha => ⟨by omega, by omega⟩)
  rw [det_zero_col (c := 0) (by omega) fun r hr => hz _ (by omega) (by omega)] at e
  have e2 : det (k + (n - k - 1 + 1)) (fun a b => A' (ext k (fun a => k + a) a) (ext k (fun a => k + a) b)) = det n A' := by
    rw [show k + (n - k - 1 + 1) = n by omega]
    refine det_congr fun a b _ _ => ?_
    have x : ∀ a, ext k (fun a => k + a) a = a := fun a => by
      by_cases g : a < k
      · exact ext_lt g
      · rw [ext_ge (by omega)]; omega
    rw [x, x]
  rw [e2] at e
  rcases Int.mul_eq_zero.mp e.symm with z | z
  · exact absurd z (Int.pow_ne_zero h.ne)
  · rw [← hd, z, Int.mul_zero]

/-- a step -/
theorem BInv.step (h : BInv A n k s c M Bd) (hk : k < n) (hp : M k k ≠ 0) {M' : Nat → Nat → Int}
    (hM : ∀ i j, k < i → i < n → k < j → j < n → c * M' i j = M i j * M k k - M i k * M k j) : BInv A n (k + 1) s (M k k) M' Bd := by
  obtain ⟨A', hd, hb, hc, hm⟩ := h.ex
  refine ⟨⟨A', hd, hb, ?_, fun m I J hI hJ => ?_⟩, h.sg, hp, hk⟩
  · have e := hm 0 (fun _ => k) (fun _ => k) (fun _ _ => ⟨Nat.le_refl _, hk⟩) (fun _ _ => ⟨Nat.le_refl _, hk⟩)
    rw [det_one, Int.pow_zero, Int.one_mul] at e
    have e' : M k k = det (k + 1) (fun a b => A' (ext k (fun _ => k) a) (ext k (fun _ => k) b)) := e
    rw [e']
    exact det_congr fun a b ha hb => by rw [ext_at k a ha, ext_at k b hb]
  · have hI' : ∀ a, a < m + 1 + 1 → k ≤ cons0 k I a ∧ cons0 k I a < n := fun a ha => by
      match a, ha with
      | 0, _ => exact ⟨Nat.le_refl _, hk⟩
      | a + 1, ha =>
        have := hI a (by omega)
        exact ⟨by show k ≤ I a; omega, this.2⟩
    have hJ' : ∀ a, a < m + 1 + 1 → k ≤ cons0 k J a ∧ cons0 k J a < n := fun a ha => by
      match a, ha with
      | 0, _ => exact ⟨Nat.le_refl _, hk⟩
      | a + 1, ha =>
        have := hJ a (by omega)
        exact ⟨by show k ≤ J a; omega, this.2⟩
    have e := hm (m + 1) (cons0 k I) (cons0 k J) hI' hJ'
    have ch := chio1 m (fun a b => M (cons0 k I a) (cons0 k J b)) hp
    have e1 : det (m + 1) (fun i j => M (cons0 k I 0) (cons0 k J 0) * M (cons0 k I (i + 1)) (cons0 k J (j + 1)) - M (cons0 k I (i + 1)) (cons0 k J 0) * M (cons0 k I 0) (cons0 k J (j + 1)))
        = c ^ (m + 1) * det (m + 1) (fun a b => M' (I a) (J b)) := by
      rw [← det_scale]
      refine det_congr fun a b ha hb => ?_
      show M k k * M (I a) (J b) - M (I a) k * M k (J b) = c * M' (I a) (J b)
      rw [hM _ _ (hI a ha).1 (hI a ha).2 (hJ b hb).1 (hJ b hb).2, Int.mul_comm (M k k)]
    have e2 : det (k + (m + 1 + 1)) (fun a b => A' (ext k (cons0 k I) a) (ext k (cons0 k J) b)) = det (k + 1 + (m + 1)) (fun a b => A' (ext (k + 1) I a) (ext (k + 1) J b)) := by
      rw [show k + (m + 1 + 1) = k + 1 + (m + 1) by omega]
      exact det_congr fun a b _ _ => by rw [ext_cons, ext_cons]
    rw [e2] at e
    have e3 : c ^ (m + 1) * det (m + 1) (fun a b => M' (I a) (J b)) = M k k ^ m * det (m + 1 + 1) (fun a b => M (cons0 k I a) (cons0 k J b)) := e1.symm.trans ch
    rw [e, Int.mul_left_comm] at e3
    exact Int.eq_of_mul_eq_mul_left (Int.pow_ne_zero h.ne) e3

/-- behind the last step -/
theorem BInv.done (h : BInv A n k s c M Bd) (hk : k + 1 = n) : s * M k k = det n A := by
  obtain ⟨A', hd, hb, hc, hm⟩ := h.ex
  have e := hm 0 (fun _ => k) (fun _ => k) (fun _ _ => ⟨Nat.le_refl _, by omega⟩) (fun _ _ => ⟨Nat.le_refl _, by omega⟩)
  rw [det_one, Int.pow_zero, Int.one_mul] at e
  have e' : M k k = det (k + 1) (fun a b => A' (ext k (fun _ => k) a) (ext k (fun _ => k) b)) := e
  rw [e', ← hd, ← hk]
  congr 1
  exact det_congr fun a b ha hb => by rw [ext_at k a ha, ext_at k b hb]
end
end MD
/-! In how many orders all words lead from one text to another: the count by a determinant, and its one step. Plain Lean: words are of a type a, texts of a type b. -/
namespace MW
open MD

def lsum {a : Type} : List a → (a → Int) → Int
  | [], _ => 0
  | x :: l, f => f x + lsum l f
section
variable {a : Type}
theorem lsum_congr {l : List a} {f g : a → Int} (h : ∀ x ∈ l, f x = g x) : lsum l f = lsum l g := by
  induction l with
  | nil => rfl
  | cons x l ih => show f x + lsum l f = g x + lsum l g; rw [h x (List.mem_cons_self ..), ih fun y hy => h y (List.mem_cons_of_mem _ hy)]
theorem lsum_zero {l : List a} {f : a → Int} (h : ∀ x ∈ l, f x = 0) : lsum l f = 0 := by
  induction l with
  | nil => rfl
  | cons x l ih => show f x + lsum l f = 0; rw [h x (List.mem_cons_self ..), ih fun y hy => h y (List.mem_cons_of_mem _ hy)]; rfl
theorem lsum_const (l : List a) (c : Int) : lsum l (fun _ => c) = (l.length : Int) * c := by
  induction l with
  | nil => show (0 : Int) = ((0 : Nat) : Int) * c; simp
  | cons x l ih =>
    show c + lsum l (fun _ => c) = ((l.length + 1 : Nat) : Int) * c
    rw [ih, Int.natCast_add, Int.add_mul]; simp; omega
theorem lsum_mul (l : List a) (c : Int) (f : a → Int) : lsum l (fun x => c * f x) = c * lsum l f := by
  induction l with
  | nil => show (0 : Int) = c * 0; simp
  | cons x l ih => show c * f x + lsum l _ = c * (f x + lsum l f); rw [ih, Int.mul_add]
theorem lsum_sub (l : List a) (f g : a → Int) : lsum l (fun x => f x - g x) = lsum l f - lsum l g := by
  induction l with
  | nil => rfl
  | cons x l ih => show (f x - g x) + lsum l _ = (f x + lsum l f) - (g x + lsum l g); rw [ih]; omega
theorem lsum_filter (p : a → Bool) (l : List a) (f : a → Int) : lsum (l.filter p) f = lsum l (fun x => if p x = true then f x else 0) := by
  induction l with
  | nil => rfl
  | cons x l ih =>
    rw [List.filter_cons]
    show _ = (if p x = true then f x else 0) + lsum l _
    by_cases h : p x = true
    · rw [if_pos h, if_pos h, ← ih]; rfl
    · rw [if_neg h, if_neg h, ← ih]; omega
theorem lsum_nonneg {l : List a} {f : a → Int} (h : ∀ x ∈ l, 0 ≤ f x) : 0 ≤ lsum l f := by
  induction l with
  | nil => exact Int.le_refl 0
  | cons x l ih =>
    have := h x (List.mem_cons_self ..)
    have := ih fun y hy => h y (List.mem_cons_of_mem _ hy)
    show 0 ≤ f x + lsum l f; omega
theorem lsum_ge {l : List a} {f : a → Int} (h : ∀ x ∈ l, 0 ≤ f x) {x : a} (hx : x ∈ l) : f x ≤ lsum l f := by
  induction l with
  | nil => cases hx
  | cons y l ih =>
    have h1 := h y (List.mem_cons_self ..)
    have h2 := lsum_nonneg fun z hz => h z (List.mem_cons_of_mem y hz)
    show f x ≤ f y + lsum l f
    rcases List.mem_cons.mp hx with rfl | hx
    · omega
    · have := ih (fun z hz => h z (List.mem_cons_of_mem y hz)) hx; omega
theorem sumN_lsum (n : Nat) (l : List a) (f : a → Nat → Int) : sumN n (fun i => lsum l fun x => f x i) = lsum l fun x => sumN n (f x) := by
  induction l with
  | nil => exact sumN_zero fun _ _ => rfl
  | cons x l ih =>
    show sumN n (fun i => f x i + lsum l fun x => f x i) = sumN n (f x) + lsum l fun x => sumN n (f x)
    rw [sumN_add, ih]
end

/-- without one of them -/
def wo {a : Type} [DecidableEq a] (S : List a) (x : a) : List a := S.filter fun y => decide (y ≠ x)
section
variable {a : Type} [DecidableEq a] {S : List a} {x : a}
theorem mem_wo {y : a} : y ∈ wo S x ↔ y ∈ S ∧ y ≠ x := by unfold wo; rw [List.mem_filter, decide_eq_true_iff]
theorem wo_nodup (h : S.Nodup) : (wo S x).Nodup := h.filter _
theorem wo_notin (h : x ∉ S) : wo S x = S := by
  unfold wo
  refine List.filter_eq_self.mpr fun y hy => decide_eq_true ?_
  rintro rfl; exact h hy
theorem wo_cons_self (h : x ∉ S) : wo (x :: S) x = S := by
  have : wo (x :: S) x = wo S x := by unfold wo; rw [List.filter_cons_of_neg (by simp)]
  rw [this, wo_notin h]
theorem wo_cons_ne {y : a} (h : y ≠ x) : wo (y :: S) x = y :: wo S x := by unfold wo; rw [List.filter_cons_of_pos (by simp [h])]
theorem lsum_wo (hn : S.Nodup) (hx : x ∈ S) (f : a → Int) : lsum S f = f x + lsum (wo S x) f := by
  induction S with
  | nil => cases hx
  | cons y S ih =>
    have hy := (List.nodup_cons.mp hn).1
    by_cases e : y = x
    · subst e; rw [wo_cons_self hy]; rfl
    · rw [wo_cons_ne e]
      have hx' : x ∈ S := by
        rcases List.mem_cons.mp hx with z | z
        · exact absurd z.symm e
        · exact z
      show f y + lsum S f = f x + (f y + lsum (wo S x) f)
      rw [ih (List.nodup_cons.mp hn).2 hx']; omega
theorem countP_wo (hn : S.Nodup) (hx : x ∈ S) (p : a → Bool) : S.countP p = (wo S x).countP p + (if p x = true then 1 else 0) := by
  induction S with
  | nil => cases hx
  | cons y S ih =>
    have hy := (List.nodup_cons.mp hn).1
    by_cases e : y = x
    · subst e; rw [wo_cons_self hy, List.countP_cons]
    · rw [wo_cons_ne e, List.countP_cons, List.countP_cons]
      have hx' : x ∈ S := by
        rcases List.mem_cons.mp hx with z | z
        · exact absurd z.symm e
        · exact z
      rw [ih (List.nodup_cons.mp hn).2 hx']; omega
theorem wo_length (hn : S.Nodup) (hx : x ∈ S) : (wo S x).length + 1 = S.length := by
  have := countP_wo hn hx (fun _ => true)
  rw [List.countP_true, if_pos rfl] at this
  have e : (wo S x).countP (fun _ => true) = (wo S x).length := by rw [List.countP_true]
  omega
end

theorem nd_inj {a : Type} {l : List a} (h : l.Nodup) {i j : Nat} (hi : i < l.length) (hj : j < l.length) (e : l[i] = l[j]) : i = j := by
  have p := List.pairwise_iff_getElem.mp h
  rcases Nat.lt_trichotomy i j with g | g | g
  · exact absurd e (p i j hi hj g)
  · exact g
  · exact absurd e.symm (p j i hj hi g)

def lprod {a : Type} : List a → (a → Int) → Int
  | [], _ => 1
  | x :: l, f => f x * lprod l f
section
variable {a : Type}
theorem lprod_congr {l : List a} {f g : a → Int} (h : ∀ x ∈ l, f x = g x) : lprod l f = lprod l g := by
  induction l with
  | nil => rfl
  | cons x l ih => show f x * lprod l f = g x * lprod l g; rw [h x (List.mem_cons_self ..), ih fun y hy => h y (List.mem_cons_of_mem _ hy)]
theorem lprod_one {l : List a} {f : a → Int} (h : ∀ x ∈ l, f x = 1) : lprod l f = 1 := by
  induction l with
  | nil => rfl
  | cons x l ih => show f x * lprod l f = 1; rw [h x (List.mem_cons_self ..), ih fun y hy => h y (List.mem_cons_of_mem _ hy)]; rfl
theorem lprod_wo [DecidableEq a] {S : List a} {x : a} (hn : S.Nodup) (hx : x ∈ S) (f : a → Int) : lprod S f = f x * lprod (wo S x) f := by
  induction S with
  | nil => cases hx
  | cons y S ih =>
    have hy := (List.nodup_cons.mp hn).1
    by_cases e : y = x
    · subst e; rw [wo_cons_self hy]; rfl
    · rw [wo_cons_ne e]
      have hx' : x ∈ S := by
        rcases List.mem_cons.mp hx with z | z
        · exact absurd z.symm e
        · exact z
      show f y * lprod S f = f x * (f y * lprod (wo S x) f)
      rw [ih (List.nodup_cons.mp hn).2 hx', Int.mul_left_comm]
theorem lprod_perm {l k : List a} (h : l.Perm k) (f : a → Int) : lprod l f = lprod k f := by
  induction h with
  | nil => rfl
  | cons x _ ih => show f x * _ = f x * _; rw [ih]
  | swap x y l => show f y * (f x * _) = f x * (f y * _); rw [Int.mul_left_comm]
  | trans _ _ h1 h2 => rw [h1, h2]
end

section
variable {a b : Type} [DecidableEq a] [DecidableEq b] [Inhabited b] (bg en : a → b)

def outd (S : List a) (v : b) : Nat := S.countP fun x => decide (bg x = v)
def ind (S : List a) (v : b) : Nat := S.countP fun x => decide (en x = v)
def bal (S : List a) (u r : b) : Prop := ∀ v, outd bg S v + (if v = r then 1 else 0) = ind en S v + (if v = u then 1 else 0)
def dl (v w : b) : Int := if v = w then 1 else 0
def lap (S : List a) (v w : b) : Int := lsum S fun x => if bg x = v then dl v w - dl (en x) w else 0
def D (S : List a) (vs : List b) : Int := det vs.length fun i j => lap bg en S (vs.getD i default) (vs.getD j default)
/-- out of which words lead, but r -/
def act (S : List a) (r : b) (V : List b) : List b := V.filter fun v => decide (v ≠ r ∧ 0 < outd bg S v)
def fc (S : List a) (r v : b) : Int := (fac (outd bg S v - (if v = r then 0 else 1)) : Nat)
open Classical in
noncomputable def N (V : List b) (S : List a) (u r : b) : Int :=
  if bal bg en S u r then lprod V (fc bg S r) * D bg en S (act bg S r V) else 0

variable {bg en}
theorem outd_pos {S : List a} {v : b} : 0 < outd bg S v ↔ ∃ x ∈ S, bg x = v := by
  unfold outd; rw [List.countP_pos_iff]; simp
theorem ind_pos {S : List a} {v : b} : 0 < ind en S v ↔ ∃ x ∈ S, en x = v := by
  unfold ind; rw [List.countP_pos_iff]; simp
theorem outd_wo {S : List a} {x : a} (hn : S.Nodup) (hx : x ∈ S) (v : b) : outd bg S v = outd bg (wo S x) v + (if bg x = v then 1 else 0) := by
  unfold outd; rw [countP_wo hn hx]; simp
theorem ind_wo {S : List a} {x : a} (hn : S.Nodup) (hx : x ∈ S) (v : b) : ind en S v = ind en (wo S x) v + (if en x = v then 1 else 0) := by
  unfold ind; rw [countP_wo hn hx]; simp
theorem dl_self (v : b) : dl v v = 1 := by unfold dl; rw [if_pos rfl]
theorem dl_ne {v w : b} (h : v ≠ w) : dl v w = 0 := by unfold dl; rw [if_neg h]

theorem ite_sym {v w : b} : (if v = w then 1 else 0 : Nat) = (if w = v then 1 else 0) := by
  by_cases e : v = w
  · rw [if_pos e, if_pos e.symm]
  · rw [if_neg e, if_neg fun z => e z.symm]
theorem bal_wo {S : List a} {x : a} (hn : S.Nodup) (hx : x ∈ S) (r : b) : bal bg en (wo S x) (en x) r ↔ bal bg en S (bg x) r := by
  have key : ∀ v, (outd bg (wo S x) v + (if v = r then 1 else 0) = ind en (wo S x) v + (if v = en x then 1 else 0)) ↔ (outd bg S v + (if v = r then 1 else 0) = ind en S v + (if v = bg x then 1 else 0)) := fun v => by
    have h1 := outd_wo (bg := bg) hn hx v
    have h2 := ind_wo (en := en) hn hx v
    rw [ite_sym] at h1 h2
    rw [h1, h2]
    generalize (if v = bg x then 1 else 0 : Nat) = i1
    generalize (if v = en x then 1 else 0 : Nat) = i2
    generalize (if v = r then 1 else 0 : Nat) = i3
    omega
  exact ⟨fun h v => (key v).mp (h v), fun h v => (key v).mpr (h v)⟩
theorem bal_nil {u r : b} : bal bg en [] u r ↔ u = r := by
  refine ⟨fun h => ?_, fun h v => ?_⟩
  · have := h r
    rw [if_pos rfl] at this
    by_cases e : u = r
    · exact e
    · rw [if_neg fun z => e z.symm] at this
      have z1 : outd bg ([] : List a) r = 0 := rfl
      have z2 : ind en ([] : List a) r = 0 := rfl
      omega
  · subst h; rfl

theorem lap_wo {S : List a} {x : a} (hn : S.Nodup) (hx : x ∈ S) (v w : b) : lap bg en (wo S x) v w = lap bg en S v w - (if bg x = v then dl v w - dl (en x) w else 0) := by
  unfold lap; rw [lsum_wo hn hx]; omega
theorem N_nil (V : List b) (u r : b) : N bg en V ([] : List a) u r = if u = r then 1 else 0 := by
  have e : act bg ([] : List a) r V = [] := List.filter_eq_nil_iff.mpr fun v _ => by
    have z1 : outd bg ([] : List a) v = 0 := rfl
    simp [z1]
  have p : lprod V (fc bg ([] : List a) r) = 1 := lprod_one fun v _ => by
    unfold fc
    have z1 : outd bg ([] : List a) v = 0 := rfl
    rw [z1, Nat.zero_sub]; rfl
  unfold N
  by_cases h : u = r
  · rw [if_pos (bal_nil.mpr h), if_pos h, e, p]; rfl
  · rw [if_neg (fun z => h (bal_nil.mp z)), if_neg h]

theorem D_congr {S T : List a} {vs : List b} (h : ∀ v ∈ vs, ∀ w, lap bg en S v w = lap bg en T v w) : D bg en S vs = D bg en T vs := by
  unfold D
  refine det_congr fun r c hr _ => h _ ?_ _
  rw [List.getD_eq_getElem?_getD, List.getElem?_eq_getElem hr]
  exact List.getElem_mem hr

theorem det_rep_lsum {n k : Nat} (hk : k < n) (A : Nat → Nat → Int) (L : List a) (f : a → Nat → Int) :
    det n (rep A k fun c => lsum L fun x => f x c) = lsum L fun x => det n (rep A k (f x)) := by
  induction L with
  | nil => exact det_zero_row hk fun c _ => rep_at _ _ _ _
  | cons x L ih =>
    show det n (rep A k fun c => f x c + lsum L fun x => f x c) = det n (rep A k (f x)) + lsum L fun x => det n (rep A k (f x))
    rw [det_rep_add hk, ih]

theorem getD_wo : ∀ (L : List b) (u : b) (k i : Nat), L.Nodup → L[k]? = some u → (wo L u).getD i default = L.getD (sk k i) default
  | [], u, k, i, _, h => by simp at h
  | v :: L, u, 0, i, hn, h => by
    have e : v = u := by simpa using h
    subst e
    rw [wo_cons_self (List.nodup_cons.mp hn).1, sk_ge (Nat.zero_le i), List.getD_cons_succ]
  | v :: L, u, k + 1, i, hn, h => by
    have hk : L[k]? = some u := by simpa using h
    have ne : v ≠ u := by
      rintro rfl
      exact (List.nodup_cons.mp hn).1 (List.mem_of_getElem? hk)
    rw [wo_cons_ne ne]
    cases i with
    | zero => rw [sk_lt (Nat.succ_pos k)]; rfl
    | succ i =>
      rw [List.getD_cons_succ, getD_wo L u k i (List.nodup_cons.mp hn).2 hk]
      have : sk (k + 1) (i + 1) = sk k i + 1 := by unfold sk; split <;> split <;> omega
      rw [this, List.getD_cons_succ]

theorem filter_len {S : List a} {u : b} : (S.filter fun x => decide (bg x = u)).length = outd bg S u := by
  unfold outd; rw [List.countP_eq_length_filter]

/-- one step: the first word chosen -/
theorem N_step {V : List b} (hV : V.Nodup) {S : List a} (hS : S.Nodup) (hne : S ≠ []) (hb : ∀ x ∈ S, bg x ∈ V) (he : ∀ x ∈ S, en x ∈ V) (u r : b) (hu : u ∈ V) :
    N bg en V S u r = lsum (S.filter fun x => decide (bg x = u)) fun x => N bg en V (wo S x) (en x) r := by
  have mem_u : ∀ x ∈ S.filter (fun x => decide (bg x = u)), x ∈ S ∧ bg x = u := fun x hx => by
    have := List.mem_filter.mp hx
    exact ⟨this.1, of_decide_eq_true this.2⟩
  by_cases hbal : bal bg en S u r
  · have N1 : N bg en V S u r = lprod V (fc bg S r) * D bg en S (act bg S r V) := by unfold N; rw [if_pos hbal]
    have N2 : ∀ x ∈ S.filter (fun x => decide (bg x = u)), N bg en V (wo S x) (en x) r = lprod V (fc bg (wo S x) r) * D bg en (wo S x) (act bg (wo S x) r V) := fun x hx => by
      obtain ⟨h1, h2⟩ := mem_u x hx
      unfold N; rw [if_pos ((bal_wo hS h1 r).mpr (by rw [h2]; exact hbal))]
    rw [N1, lsum_congr N2]
    have out_ne : ∀ x ∈ S.filter (fun x => decide (bg x = u)), ∀ v, v ≠ u → outd bg (wo S x) v = outd bg S v := fun x hx v hv => by
      obtain ⟨h1, h2⟩ := mem_u x hx
      have := outd_wo (bg := bg) hS h1 v
      rw [h2, if_neg fun z => hv z.symm] at this; omega
    have out_u : ∀ x ∈ S.filter (fun x => decide (bg x = u)), outd bg (wo S x) u + 1 = outd bg S u := fun x hx => by
      obtain ⟨h1, h2⟩ := mem_u x hx
      have := outd_wo (bg := bg) hS h1 u
      rw [h2, if_pos rfl] at this; omega
    have pr : ∀ x ∈ S.filter (fun x => decide (bg x = u)), lprod V (fc bg (wo S x) r) = fc bg (wo S x) r u * lprod (wo V u) (fc bg S r) := fun x hx => by
      rw [lprod_wo hV hu]
      congr 1
      exact lprod_congr fun v hv => by
        unfold fc; rw [out_ne x hx v (mem_wo.mp hv).2]
    have pr0 : lprod V (fc bg S r) = fc bg S r u * lprod (wo V u) (fc bg S r) := lprod_wo hV hu _
    rw [pr0]
    generalize hR : lprod (wo V u) (fc bg S r) = R at *
    by_cases hur : u = r
    · -- a walk that comes back
      subst hur
      have eact : ∀ x ∈ S.filter (fun x => decide (bg x = u)), act bg (wo S x) u V = act bg S u V := fun x hx => by
        unfold act
        refine List.filter_congr fun v _ => ?_
        by_cases e : v = u
        · simp [e]
        · rw [out_ne x hx v e]
      have eD : ∀ x ∈ S.filter (fun x => decide (bg x = u)), D bg en (wo S x) (act bg S u V) = D bg en S (act bg S u V) := fun x hx => by
        obtain ⟨h1, h2⟩ := mem_u x hx
        refine D_congr fun v hv w => ?_
        have hvu : v ≠ u := (of_decide_eq_true (List.mem_filter.mp hv).2).1
        rw [lap_wo hS h1, h2, if_neg fun z => hvu z.symm]; omega
      have terms : lsum (S.filter fun x => decide (bg x = u)) (fun x => lprod V (fc bg (wo S x) u) * D bg en (wo S x) (act bg (wo S x) u V))
          = lsum (S.filter fun x => decide (bg x = u)) (fun _ => (fac (outd bg S u - 1) : Nat) * R * D bg en S (act bg S u V)) := lsum_congr fun x hx => by
        rw [pr x hx, eact x hx, eD x hx]
        have : fc bg (wo S x) u u = (fac (outd bg S u - 1) : Nat) := by
          unfold fc; rw [if_pos rfl, ← out_u x hx]; rfl
        rw [this]
      rw [terms, lsum_const, filter_len]
      by_cases hd : outd bg S u = 0
      · -- nothing leads out of u: the rows sum to nought
        rw [hd]
        have z : D bg en S (act bg S u V) = 0 := by
          have hlen : ∃ m, (act bg S u V).length = m + 1 := by
            obtain ⟨x, hx⟩ := List.exists_mem_of_ne_nil S hne
            have : bg x ∈ act bg S u V := List.mem_filter.mpr ⟨hb x hx, decide_eq_true ⟨fun z => by
              have := outd_pos.mpr ⟨x, hx, z⟩
              omega, outd_pos.mpr ⟨x, hx, rfl⟩⟩⟩
            exact ⟨(act bg S u V).length - 1, by have := List.length_pos_of_mem this; omega⟩
          obtain ⟨m, hm⟩ := hlen
          unfold D
          rw [hm]
          refine det_sums m _ fun i hi => ?_
          have vmem : ∀ i, i < m + 1 → (act bg S u V).getD i default ∈ act bg S u V := fun i hi => by
            rw [List.getD_eq_getElem?_getD, List.getElem?_eq_getElem (by omega)]
            exact List.getElem_mem (by omega)
          have dsum : ∀ v ∈ act bg S u V, sumN (m + 1) (fun j => dl v ((act bg S u V).getD j default)) = 1 := fun v hv => by
            obtain ⟨k, hk, e⟩ := List.getElem_of_mem hv
            have nd : (act bg S u V).Nodup := hV.filter _
            have ek : (act bg S u V).getD k default = v := by rw [List.getD_eq_getElem?_getD, List.getElem?_eq_getElem hk]; exact e
            rw [sumN_one (r := k) (by omega), ek, dl_self]
            intro j hj hjk
            refine dl_ne fun z => hjk ?_
            rw [List.getD_eq_getElem?_getD, List.getElem?_eq_getElem (by omega)] at z
            exact nd_inj nd (by omega) hk ((z.symm.trans e.symm : (act bg S u V)[j]'(by omega) = (act bg S u V)[k]'hk))
          unfold lap
          rw [sumN_lsum]
          refine lsum_zero fun x hx => ?_
          by_cases e : bg x = (act bg S u V).getD i default
          · have : sumN (m + 1) (fun i_1 => if bg x = (act bg S u V).getD i default then dl ((act bg S u V).getD i default) ((act bg S u V).getD i_1 default) - dl (en x) ((act bg S u V).getD i_1 default) else 0)
                = sumN (m + 1) (fun j => 1 * dl ((act bg S u V).getD i default) ((act bg S u V).getD j default) + (-1) * dl (en x) ((act bg S u V).getD j default)) := sumN_congr fun j _ => by rw [if_pos e]; omega
            rw [this, sumN_lin, dsum _ (vmem i hi)]
            have hen : en x ∈ act bg S u V := List.mem_filter.mpr ⟨he x hx, decide_eq_true (by
              have i1 : 0 < ind en S (en x) := ind_pos.mpr ⟨x, hx, rfl⟩
              have i2 := hbal (en x)
              have i3 : 0 < outd bg S (en x) := by
                by_cases g : en x = u
                · rw [if_pos g] at i2; omega
                · rw [if_neg g] at i2; omega
              refine ⟨fun z => ?_, i3⟩
              rw [z] at i3; omega)⟩
            rw [dsum _ hen]; rfl
          · exact sumN_zero fun j _ => by rw [if_neg e]
        rw [z]; simp
      · have : fc bg S u u = ((outd bg S u : Nat) : Int) * (fac (outd bg S u - 1) : Nat) := by
          unfold fc
          rw [if_pos rfl, Nat.sub_zero, ← Int.natCast_mul]
          congr 1
          obtain ⟨d, hd'⟩ : ∃ d, outd bg S u = d + 1 := ⟨outd bg S u - 1, by omega⟩
          rw [hd']; rfl
        rw [this, Int.mul_assoc, Int.mul_assoc, Int.mul_assoc]
    · -- u and r are two
      have hout : outd bg S u = ind en S u + 1 := by
        have := hbal u
        rw [if_neg hur, if_pos rfl] at this; omega
      have uact : u ∈ act bg S r V := List.mem_filter.mpr ⟨hu, decide_eq_true ⟨hur, by omega⟩⟩
      obtain ⟨k, hk, ek⟩ := List.getElem_of_mem uact
      have ndact : (act bg S r V).Nodup := hV.filter _
      have ek' : (act bg S r V).getD k default = u := by rw [List.getD_eq_getElem?_getD, List.getElem?_eq_getElem hk]; exact ek
      have row_ne : ∀ i, i < (act bg S r V).length → i ≠ k → (act bg S r V).getD i default ≠ u := fun i hi hik z => by
        rw [List.getD_eq_getElem?_getD, List.getElem?_eq_getElem hi] at z
        exact hik (nd_inj ndact hi hk ((z.trans ek.symm : (act bg S r V)[i]'hi = (act bg S r V)[k]'hk)))
      generalize hA : (fun i j => lap bg en S ((act bg S r V).getD i default) ((act bg S r V).getD j default)) = A
      have eA : ∀ i j, A i j = lap bg en S ((act bg S r V).getD i default) ((act bg S r V).getD j default) := fun i j => by rw [← hA]
      have DS : D bg en S (act bg S r V) = det (act bg S r V).length A := by unfold D; rw [hA]
      by_cases h2 : 2 ≤ outd bg S u
      · have eact : ∀ x ∈ S.filter (fun x => decide (bg x = u)), act bg (wo S x) r V = act bg S r V := fun x hx => by
          unfold act
          refine List.filter_congr fun v _ => ?_
          by_cases e : v = u
          · subst e
            have := out_u x hx
            rw [decide_eq_decide]
            constructor <;> (rintro ⟨h1, _⟩; exact ⟨h1, by omega⟩)
          · rw [out_ne x hx v e]
        have eD : ∀ x ∈ S.filter (fun x => decide (bg x = u)), D bg en (wo S x) (act bg S r V)
            = det (act bg S r V).length A - det (act bg S r V).length (rep A k fun c => dl u ((act bg S r V).getD c default) - dl (en x) ((act bg S r V).getD c default)) := fun x hx => by
          obtain ⟨h1, hbx⟩ := mem_u x hx
          have := det_rep_lin hk A (A k) (fun c => dl u ((act bg S r V).getD c default) - dl (en x) ((act bg S r V).getD c default)) 1 (-1)
          rw [det_rep_self, Int.one_mul] at this
          have e2 : D bg en (wo S x) (act bg S r V) = det (act bg S r V).length (rep A k fun c => 1 * A k c + (-1) * (dl u ((act bg S r V).getD c default) - dl (en x) ((act bg S r V).getD c default))) := by
            unfold D
            refine det_congr fun i j hi hj => ?_
            rw [lap_wo hS h1, hbx]
            by_cases g : i = k
            · subst g; rw [rep_at, eA, ek', if_pos rfl]; omega
            · rw [rep_ne g, if_neg (fun z => row_ne i hi g z.symm), eA]; omega
          rw [e2, this]; omega
        have terms : lsum (S.filter fun x => decide (bg x = u)) (fun x => lprod V (fc bg (wo S x) r) * D bg en (wo S x) (act bg (wo S x) r V))
            = lsum (S.filter fun x => decide (bg x = u)) (fun x => (fac (outd bg S u - 2) : Nat) * R * (det (act bg S r V).length A - det (act bg S r V).length (rep A k fun c => dl u ((act bg S r V).getD c default) - dl (en x) ((act bg S r V).getD c default)))) := lsum_congr fun x hx => by
          rw [pr x hx, eact x hx, eD x hx]
          have : fc bg (wo S x) r u = (fac (outd bg S u - 2) : Nat) := by
            unfold fc; rw [if_neg hur]
            have := out_u x hx
            rw [show outd bg (wo S x) u - 1 = outd bg S u - 2 by omega]
          rw [this]
        rw [terms, lsum_mul, lsum_sub, lsum_const, filter_len, ← det_rep_lsum hk]
        have last : det (act bg S r V).length (rep A k fun c => lsum (S.filter fun x => decide (bg x = u)) fun x => dl u ((act bg S r V).getD c default) - dl (en x) ((act bg S r V).getD c default)) = det (act bg S r V).length A := by
          refine Eq.trans (det_congr fun i j hi hj => ?_) (det_rep_self (u := k) A)
          by_cases g : i = k
          · subst g
            rw [rep_at, rep_at, lsum_filter, eA, ek']
            unfold lap
            exact lsum_congr fun x _ => by
              by_cases e : bg x = u
              · rw [if_pos (decide_eq_true e), if_pos e]
              · rw [if_neg (by simp [e]), if_neg e]
          · rw [rep_ne g, rep_ne g]
        rw [last, DS]
        have f1 : fc bg S r u = ((outd bg S u - 1 : Nat) : Int) * (fac (outd bg S u - 2) : Nat) := by
          unfold fc
          rw [if_neg hur, ← Int.natCast_mul]
          congr 1
          obtain ⟨d, hd'⟩ : ∃ d, outd bg S u = d + 2 := ⟨outd bg S u - 2, by omega⟩
          rw [hd']; rfl
        rw [f1]
        generalize det (act bg S r V).length A = x
        obtain ⟨d, hd'⟩ : ∃ d, outd bg S u = d + 1 := ⟨outd bg S u - 1, by omega⟩
        rw [hd', Nat.add_sub_cancel]
        have : ((d + 1 : Nat) : Int) * x - x = (d : Int) * x := by
          rw [Int.natCast_add, Int.add_mul]; omega
        rw [this]
        simp only [Int.mul_assoc, Int.mul_left_comm, Int.mul_comm]
      · -- one word leads out of u, none to it
        have hone : outd bg S u = 1 := by omega
        have hin : ind en S u = 0 := by omega
        have noin : ∀ x ∈ S, en x ≠ u := fun x hx z => by
          have := ind_pos.mpr ⟨x, hx, z⟩
          omega
        have hl := filter_len (bg := bg) (S := S) (u := u)
        rw [hone] at hl
        obtain ⟨x, hx1⟩ := List.length_eq_one_iff.mp hl
        have hx : x ∈ S.filter (fun x => decide (bg x = u)) := by rw [hx1]; exact List.mem_singleton.mpr rfl
        rw [hx1]
        show _ = lprod V (fc bg (wo S x) r) * D bg en (wo S x) (act bg (wo S x) r V) + 0
        obtain ⟨h1, hbx⟩ := mem_u x hx
        have only : ∀ y ∈ S, bg y = u → y = x := fun y hy hby => by
          have : y ∈ S.filter (fun x => decide (bg x = u)) := List.mem_filter.mpr ⟨hy, decide_eq_true hby⟩
          rw [hx1] at this
          exact List.mem_singleton.mp this
        have f0 : outd bg (wo S x) u = 0 := by have := out_u x hx; omega
        rw [pr x hx]
        have e1 : fc bg S r u = 1 := by unfold fc; rw [if_neg hur, hone]; rfl
        have e2 : fc bg (wo S x) r u = 1 := by unfold fc; rw [if_neg hur, f0]; rfl
        rw [e1, e2, Int.one_mul, Int.add_zero]
        congr 1
        have eact : act bg (wo S x) r V = wo (act bg S r V) u := by
          unfold act wo
          rw [List.filter_filter]
          refine List.filter_congr fun v _ => ?_
          by_cases e : v = u
          · subst e
            have f0' : outd bg (S.filter fun y => decide (y ≠ x)) v = 0 := f0
            rw [f0']; simp
          · have o := out_ne x hx v e
            have o' : outd bg (S.filter fun y => decide (y ≠ x)) v = outd bg S v := o
            rw [o']; simp [e]
        rw [eact, DS]
        obtain ⟨m, hm⟩ : ∃ m, (act bg S r V).length = m + 1 := ⟨(act bg S r V).length - 1, by omega⟩
        have hm' : (wo (act bg S r V) u).length = m := by have := wo_length ndact uact; omega
        have lapu : ∀ w, lap bg en S u w = dl u w - dl (en x) w := fun w => by
          unfold lap
          rw [lsum_wo hS h1, if_pos hbx, lsum_zero fun y hy => ?_, Int.add_zero]
          rw [if_neg fun z => (mem_wo.mp hy).2 (only y (mem_wo.mp hy).1 z)]
        have colk : ∀ i, i < m + 1 → i ≠ k → A i k = 0 := fun i hi hik => by
          rw [eA, ek']
          unfold lap
          refine lsum_zero fun y hy => ?_
          by_cases e : bg y = (act bg S r V).getD i default
          · rw [if_pos e, dl_ne (row_ne i (by omega) hik), dl_ne (noin y hy)]; rfl
          · rw [if_neg e]
        rw [hm] at hk ⊢
        have split := det_rep_lin hk A (fun c => dl u ((act bg S r V).getD c default)) (fun c => dl (en x) ((act bg S r V).getD c default)) 1 (-1)
        have e3 : det (m + 1) (rep A k fun c => 1 * dl u ((act bg S r V).getD c default) + -1 * dl (en x) ((act bg S r V).getD c default)) = det (m + 1) A := by
          refine Eq.trans (det_congr fun i j hi hj => ?_) (det_rep_self (u := k) A)
          by_cases g : i = k
          · subst g; rw [rep_at, rep_at, eA, ek', lapu]; omega
          · rw [rep_ne g, rep_ne g]
        have e4 : det (m + 1) (rep A k fun c => dl (en x) ((act bg S r V).getD c default)) = 0 := det_zero_col hk fun i hi => by
          by_cases g : i = k
          · subst g; rw [rep_at, ek', dl_ne (noin x h1)]
          · rw [rep_ne g, colk i hi g]
        rw [e3, e4] at split
        rw [split, det_row_one hk hk fun j hj hjk => ?_]
        · rw [rep_at, ek', dl_self]
          have sg : sgn (k + k) = 1 := by unfold sgn; rw [if_pos (by omega)]
          rw [sg]
          unfold D
          rw [hm']
          have : det m (fun i j => rep A k (fun c => dl u ((act bg S r V).getD c default)) (sk k i) (sk k j)) = det m (fun i j => lap bg en (wo S x) ((wo (act bg S r V) u).getD i default) ((wo (act bg S r V) u).getD j default)) := det_congr fun i j hi hj => by
            have hk2 : (act bg S r V)[k]? = some u := by rw [List.getElem?_eq_getElem (by omega)]; exact congrArg some ek
            rw [rep_ne (sk_ne k i), eA, getD_wo _ u k i ndact hk2, getD_wo _ u k j ndact hk2, lap_wo hS h1, hbx, if_neg fun z => row_ne _ (by have := sk_le k i m hi; omega) (sk_ne k i) z.symm]; omega
          rw [this]; omega
        · rw [rep_at]
          exact dl_ne fun z => row_ne j (by omega) hjk z.symm
  · have N1 : N bg en V S u r = 0 := by unfold N; rw [if_neg hbal]
    rw [N1, lsum_zero fun x hx => ?_]
    obtain ⟨h1, h2⟩ := mem_u x hx
    unfold N
    rw [if_neg fun z => hbal (by have := (bal_wo hS h1 r).mp z; rw [h2] at this; exact this)]
end
end MW
/-! Orders of words one behind another, their numbers. Plain Lean. -/
namespace MW
open MD
section
variable {a b : Type} [DecidableEq a] [DecidableEq b] [Inhabited b] {bg en : a → b}

/-- words one behind another, from u to r -/
def isWalk (bg en : a → b) : b → List a → b → Prop
  | u, [], r => u = r
  | u, x :: l, r => bg x = u ∧ isWalk bg en (en x) l r
structure Tr (bg en : a → b) (S : List a) (u r : b) (l : List a) : Prop where
  perm : l.Perm S
  walk : isWalk bg en u l r

theorem isWalk_append : ∀ {l k : List a} {u v r : b}, isWalk bg en u l v → isWalk bg en v k r → isWalk bg en u (l ++ k) r
  | [], _, u, v, r, h, h2 => by have e : u = v := h; subst e; exact h2
  | x :: l, k, u, v, r, h, h2 => ⟨h.1, isWalk_append h.2 h2⟩
theorem isWalk_split : ∀ {l k : List a} {u r : b}, isWalk bg en u (l ++ k) r → ∃ v, isWalk bg en u l v ∧ isWalk bg en v k r
  | [], _, u, r, h => ⟨u, rfl, h⟩
  | x :: l, k, u, r, h => by
    obtain ⟨v, h1, h2⟩ := isWalk_split (l := l) h.2
    exact ⟨v, ⟨h.1, h1⟩, h2⟩
theorem isWalk_inj : ∀ {l : List a} {u r v : b}, isWalk bg en u l r → isWalk bg en u l v → r = v
  | [], u, r, v, h, h2 => Eq.trans (Eq.symm h) h2
  | x :: l, u, r, v, h, h2 => isWalk_inj h.2 h2.2

/-- what the words and the texts are -/
structure Gd (bg en : a → b) (V : List b) (S : List a) : Prop where
  nv : V.Nodup
  ns : S.Nodup
  hb : ∀ x ∈ S, bg x ∈ V
  he : ∀ x ∈ S, en x ∈ V
theorem Gd.wo {V : List b} {S : List a} (g : Gd bg en V S) (x : a) : Gd bg en V (wo S x) :=
  ⟨g.nv, wo_nodup g.ns, fun y h => g.hb y (mem_wo.mp h).1, fun y h => g.he y (mem_wo.mp h).1⟩

theorem perm_wo {S l : List a} {x : a} (hn : S.Nodup) (h : (x :: l).Perm S) : l.Perm (wo S x) := by
  have hn' : (x :: l).Nodup := h.nodup_iff.mpr hn
  have : (wo (x :: l) x).Perm (wo S x) := h.filter _
  rw [wo_cons_self (List.nodup_cons.mp hn').1] at this
  exact this
theorem perm_wo' {S l : List a} {x : a} (hn : S.Nodup) (hx : x ∈ S) (h : l.Perm (wo S x)) : (x :: l).Perm S := by
  have h1 : (x :: wo S x).Perm S := by
    unfold wo
    have e : S.filter (fun y => decide (y ≠ x)) = S.erase x := by
      rw [hn.erase_eq_filter]
      exact List.filter_congr fun y _ => by by_cases e : y = x <;> simp [e]
    rw [e]
    exact (List.perm_cons_erase hx).symm
  exact (List.Perm.cons x h).trans h1

theorem N_nonneg (V : List b) : ∀ (n : Nat) (S : List a) (u r : b), S.length = n → Gd bg en V S → u ∈ V → 0 ≤ N bg en V S u r
  | 0, S, u, r, h, _, _ => by
    have : S = [] := List.length_eq_zero_iff.mp h
    subst this
    rw [N_nil]; split <;> decide
  | n + 1, S, u, r, h, g, hu => by
    rw [N_step g.nv g.ns (by rintro rfl; cases h) g.hb g.he u r hu]
    refine lsum_nonneg fun x hx => ?_
    have hx' := (List.mem_filter.mp hx).1
    have := wo_length g.ns hx'
    exact N_nonneg V n (wo S x) (en x) r (by omega) (g.wo x) (g.he x hx')
theorem N_nn {V : List b} {S : List a} {u : b} (r : b) (g : Gd bg en V S) (hu : u ∈ V) : 0 ≤ N bg en V S u r := N_nonneg V _ S u r rfl g hu

theorem N_pos {V : List b} : ∀ {l S : List a} {u r : b}, Gd bg en V S → u ∈ V → Tr bg en S u r l → 1 ≤ N bg en V S u r
  | [], S, u, r, g, _, t => by
    have : S = [] := List.nil_perm.mp t.perm
    subst this
    have e : u = r := t.walk
    rw [N_nil, if_pos e]; exact Int.le_refl 1
  | x :: l, S, u, r, g, hu, t => by
    have hx : x ∈ S := t.perm.mem_iff.mp (List.mem_cons_self ..)
    have h1 : bg x = u := t.walk.1
    have ih := N_pos (l := l) (g.wo x) (g.he x hx) ⟨perm_wo g.ns t.perm, t.walk.2⟩
    rw [N_step g.nv g.ns (by rintro rfl; cases hx) g.hb g.he u r hu]
    refine Int.le_trans ih (lsum_ge (f := fun x => N bg en V (wo S x) (en x) r) (fun y hy => ?_) (List.mem_filter.mpr ⟨hx, decide_eq_true h1⟩))
    exact N_nn r (g.wo y) (g.he y (List.mem_filter.mp hy).1)

/-- the number of an order; lt: the order of words -/
noncomputable def num (bg en : a → b) (lt : a → a → Bool) (V : List b) (r : b) : List a → List a → Int
  | [], _ => 0
  | x :: l, S => lsum (S.filter fun y => decide (bg y = bg x) && lt y x) (fun y => N bg en V (wo S y) (en y) r) + num bg en lt V r l (wo S x)

structure Lin (lt : a → a → Bool) : Prop where
  irr : ∀ x, lt x x = false
  tr : ∀ x y z, lt x y = true → lt y z = true → lt x z = true
  tri : ∀ x y, x ≠ y → lt x y = true ∨ lt y x = true

variable {lt : a → a → Bool}
theorem num_nonneg {V : List b} {r : b} : ∀ {l S : List a}, Gd bg en V S → 0 ≤ num bg en lt V r l S
  | [], _, _ => Int.le_refl 0
  | x :: l, S, g => by
    have h1 := num_nonneg (l := l) (r := r) (g.wo x)
    have h2 : 0 ≤ lsum (S.filter fun y => decide (bg y = bg x) && lt y x) (fun y => N bg en V (wo S y) (en y) r) :=
      lsum_nonneg fun y hy => N_nn r (g.wo y) (g.he y (List.mem_filter.mp hy).1)
    show 0 ≤ _ + _; omega

/-- those ahead of x, and x, are among those ahead of a later one, and among all -/
theorem ahead_le {V : List b} {S : List a} {r u : b} (L : Lin lt) (g : Gd bg en V S) {x : a} (hx : x ∈ S) (hux : bg x = u) (q : a → Bool)
    (hq : ∀ y, y ∈ S → bg y = u → (lt y x = true ∨ y = x) → q y = true) :
    lsum (S.filter fun y => decide (bg y = bg x) && lt y x) (fun y => N bg en V (wo S y) (en y) r) + N bg en V (wo S x) (en x) r
      ≤ lsum (S.filter fun y => decide (bg y = u) && q y) (fun y => N bg en V (wo S y) (en y) r) := by
  rw [lsum_filter, lsum_filter, lsum_wo g.ns hx, lsum_wo g.ns hx (fun y => if (decide (bg y = u) && q y) = true then _ else _)]
  rw [if_neg (by simp [L.irr x]), if_pos (by simp [hux, hq x hx hux (.inr rfl)])]
  have : lsum (wo S x) (fun y => if (decide (bg y = bg x) && lt y x) = true then N bg en V (wo S y) (en y) r else 0)
      ≤ lsum (wo S x) (fun y => if (decide (bg y = u) && q y) = true then N bg en V (wo S y) (en y) r else 0) := by
    have d := lsum_sub (wo S x) (fun y => if (decide (bg y = u) && q y) = true then N bg en V (wo S y) (en y) r else 0) (fun y => if (decide (bg y = bg x) && lt y x) = true then N bg en V (wo S y) (en y) r else 0)
    have p : 0 ≤ lsum (wo S x) (fun y => (if (decide (bg y = u) && q y) = true then N bg en V (wo S y) (en y) r else 0) - (if (decide (bg y = bg x) && lt y x) = true then N bg en V (wo S y) (en y) r else 0)) :=
      lsum_nonneg fun y hy => by
        have hy' := (mem_wo.mp hy).1
        have nn := N_nn r (g.wo y) (g.he y hy')
        by_cases c : (decide (bg y = bg x) && lt y x) = true
        · have c' := c
          rw [Bool.and_eq_true, decide_eq_true_iff] at c'
          have hyu : bg y = u := c'.1.trans hux
          rw [if_pos c, if_pos (by simp [hyu, hq y hy' hyu (.inl c'.2)])]; omega
        · rw [if_neg c]
          split <;> omega
    omega
  omega

/-- an order's number is less than the count -/
theorem num_lt_N {V : List b} (L : Lin lt) : ∀ {l S : List a} {u r : b}, Gd bg en V S → u ∈ V → Tr bg en S u r l → num bg en lt V r l S < N bg en V S u r
  | [], S, u, r, g, hu, t => by
    have := N_pos g hu t
    show (0 : Int) < _; omega
  | x :: l, S, u, r, g, hu, t => by
    have hx : x ∈ S := t.perm.mem_iff.mp (List.mem_cons_self ..)
    have h1 : bg x = u := t.walk.1
    have ih := num_lt_N L (l := l) (g.wo x) (g.he x hx) ⟨perm_wo g.ns t.perm, t.walk.2⟩
    rw [N_step g.nv g.ns (by rintro rfl; cases hx) g.hb g.he u r hu]
    have := ahead_le (r := r) (u := u) L g hx h1 (fun _ => true) (fun _ _ _ _ => rfl)
    simp only [Bool.and_true] at this
    show _ + _ < _
    omega
/-- the lesser order has the lesser number -/
theorem num_mono {V : List b} (L : Lin lt) : ∀ {p : List a} {x y : a} {l k S : List a} {u r : b}, Gd bg en V S → u ∈ V → Tr bg en S u r (p ++ x :: l) → Tr bg en S u r (p ++ y :: k) → lt x y = true →
    num bg en lt V r (p ++ x :: l) S < num bg en lt V r (p ++ y :: k) S
  | [], x, y, l, k, S, u, r, g, hu, t, t', hlt => by
    have hx : x ∈ S := t.perm.mem_iff.mp (List.mem_cons_self ..)
    have h1 : bg x = u := t.walk.1
    have h2 : bg y = u := t'.walk.1
    have n1 := num_lt_N L (l := l) (g.wo x) (g.he x hx) ⟨perm_wo g.ns t.perm, t.walk.2⟩
    have n2 := num_nonneg (r := r) (lt := lt) (l := k) (g.wo y)
    have := ahead_le (r := r) (u := u) L g hx h1 (fun z => lt z y) (fun z _ _ hz => by
      rcases hz with hz | hz
      · exact L.tr _ _ _ hz hlt
      · subst hz; exact hlt)
    show lsum _ _ + _ < lsum (S.filter fun z => decide (bg z = bg y) && lt z y) _ + _
    rw [h2]
    omega
  | z :: p, x, y, l, k, S, u, r, g, hu, t, t', hlt => by
    have hz : z ∈ S := t.perm.mem_iff.mp (List.mem_cons_self ..)
    have ih := num_mono L (p := p) (g.wo z) (g.he z hz) ⟨perm_wo g.ns t.perm, t.walk.2⟩ ⟨perm_wo g.ns t'.perm, t'.walk.2⟩ hlt
    show lsum _ _ + num bg en lt V r (p ++ x :: l) (wo S z) < lsum _ _ + num bg en lt V r (p ++ y :: k) (wo S z)
    omega

/-- two orders: alike, or of unlike words at a place -/
theorem first_diff : ∀ (l k : List a), l.length = k.length → l = k ∨ ∃ p x y l' k', l = p ++ x :: l' ∧ k = p ++ y :: k' ∧ x ≠ y
  | [], [], _ => .inl rfl
  | x :: l, y :: k, h => by
    by_cases e : x = y
    · subst e
      rcases first_diff l k (by simpa using h) with e | ⟨p, x', y', l', k', e1, e2, e3⟩
      · exact .inl (by rw [e])
      · exact .inr ⟨x :: p, x', y', l', k', by rw [e1]; rfl, by rw [e2]; rfl, e3⟩
    · exact .inr ⟨[], x, y, l, k, rfl, rfl, e⟩

/-- the first word by which a number is passed -/
def scan (f : a → Int) : List a → Int → Option (a × Int)
  | [], _ => none
  | w :: l, n => if n < f w then some (w, n) else scan f l (n - f w)
theorem scan_ok {f : a → Int} : ∀ {l : List a} {n : Int}, (∀ x ∈ l, 0 ≤ f x) → 0 ≤ n → n < lsum l f → ∃ p w q m, l = p ++ w :: q ∧ scan f l n = some (w, m) ∧ 0 ≤ m ∧ m < f w ∧ n = lsum p f + m
  | [], n, _, h0, h => by
    have : n < 0 := h
    omega
  | w :: l, n, hf, h0, h => by
    by_cases e : n < f w
    · exact ⟨[], w, l, n, rfl, by unfold scan; rw [if_pos e], h0, e, by show n = 0 + n; omega⟩
    · have h' : n < f w + lsum l f := h
      obtain ⟨p, w', q, m, e1, e2, e3, e4, e5⟩ := scan_ok (l := l) (n := n - f w) (fun x hx => hf x (List.mem_cons_of_mem _ hx)) (by omega) (by omega)
      exact ⟨w :: p, w', q, m, by rw [e1]; rfl, by unfold scan; rw [if_neg e, e2], e3, e4, by show n = f w + lsum p f + m; omega⟩

/-- the order of a number -/
noncomputable def ob (bg en : a → b) (V : List b) (r : b) : Nat → List a → b → Int → List a
  | 0, _, _, _ => []
  | m + 1, S, u, n => match scan (fun x => N bg en V (wo S x) (en x) r) (S.filter fun x => decide (bg x = u)) n with
    | some (w, n') => w :: ob bg en V r m (wo S w) (en w) n'
    | none => []

/-- sorted by lt -/
def Asc (lt : a → a → Bool) (S : List a) : Prop := S.Pairwise fun x y => lt x y = true
theorem Asc.wo {S : List a} (h : Asc lt S) (x : a) : Asc lt (wo S x) := List.Pairwise.filter _ h
theorem Asc.nodup {S : List a} (L : Lin lt) (h : Asc lt S) : S.Nodup := h.imp fun {x y} e z => by subst z; rw [L.irr x] at e; cases e
theorem asc_ahead (L : Lin lt) {S p q : List a} {x : a} (h : Asc lt S) (u : b) (hux : bg x = u) (e : S.filter (fun y => decide (bg y = u)) = p ++ x :: q) :
    S.filter (fun y => decide (bg y = bg x) && lt y x) = p := by
  have h1 : S.filter (fun y => decide (bg y = bg x) && lt y x) = (S.filter fun y => decide (bg y = u)).filter fun y => lt y x := by
    rw [List.filter_filter, hux]
    exact List.filter_congr fun y _ => Bool.and_comm _ _
  have as : Asc lt (p ++ x :: q) := by rw [← e]; exact List.Pairwise.filter _ h
  have as' := List.pairwise_append.mp as
  rw [h1, e, List.filter_append]
  have f1 : p.filter (fun y => lt y x) = p := List.filter_eq_self.mpr fun y hy => as'.2.2 y hy x (List.mem_cons_self ..)
  have f2 : (x :: q).filter (fun y => lt y x) = [] := List.filter_eq_nil_iff.mpr fun y hy => by
    rcases List.mem_cons.mp hy with rfl | hy
    · rw [L.irr]; decide
    · intro z
      have := L.tr _ _ _ ((List.pairwise_cons.mp as'.2.1).1 y hy) z
      rw [L.irr] at this; cases this
  rw [f1, f2, List.append_nil]

theorem ob_ok {V : List b} {r : b} (L : Lin lt) : ∀ {m : Nat} {S : List a} {u : b} {n : Int}, S.length = m → Gd bg en V S → Asc lt S → u ∈ V → 0 ≤ n → n < N bg en V S u r →
    Tr bg en S u r (ob bg en V r m S u n) ∧ num bg en lt V r (ob bg en V r m S u n) S = n
  | 0, S, u, n, h, g, as, hu, h0, h1 => by
    have : S = [] := List.length_eq_zero_iff.mp h
    subst this
    rw [N_nil] at h1
    by_cases e : u = r
    · rw [if_pos e] at h1
      exact ⟨⟨List.Perm.refl _, e⟩, by show (0 : Int) = n; omega⟩
    · rw [if_neg e] at h1; omega
  | m + 1, S, u, n, h, g, as, hu, h0, h1 => by
    rw [N_step g.nv g.ns (by rintro rfl; cases h) g.hb g.he u r hu] at h1
    obtain ⟨p, w, q, n', e1, e2, e3, e4, e5⟩ := scan_ok (f := fun x => N bg en V (wo S x) (en x) r) (fun x hx => N_nn r (g.wo x) (g.he x (List.mem_filter.mp hx).1)) h0 h1
    have hw : w ∈ S.filter (fun x => decide (bg x = u)) := by rw [e1]; exact List.mem_append_right _ (List.mem_cons_self ..)
    have hw1 := (List.mem_filter.mp hw).1
    have hw2 : bg w = u := of_decide_eq_true (List.mem_filter.mp hw).2
    have e : ob bg en V r (m + 1) S u n = w :: ob bg en V r m (wo S w) (en w) n' := by
      show (match scan _ _ n with | some (w, n') => w :: ob bg en V r m (wo S w) (en w) n' | none => []) = _
      rw [e2]
    have hl := wo_length g.ns hw1
    obtain ⟨t, hn⟩ := ob_ok L (m := m) (S := wo S w) (u := en w) (n := n') (by omega) (g.wo w) (as.wo w) (g.he w hw1) e3 e4
    rw [e]
    refine ⟨⟨perm_wo' g.ns hw1 t.perm, hw2, t.walk⟩, ?_⟩
    show lsum (S.filter fun y => decide (bg y = bg w) && lt y w) _ + num bg en lt V r _ (wo S w) = n
    rw [hn, asc_ahead L as u hw2 e1]
    omega
end
end MW
/-! A web of even pieces that hang together has a ring. Plain Lean. -/
namespace MW
open MD
section
variable {a b : Type} [DecidableEq a] [DecidableEq b] [Inhabited b] {bg en : a → b}

theorem bal_walk : ∀ {l : List a} {u r : b}, isWalk bg en u l r → bal bg en l u r
  | [], u, r, h => bal_nil.mpr h
  | x :: l, u, r, h => fun v => by
    have ih := bal_walk h.2 v
    have h1 : outd bg (x :: l) v = outd bg l v + (if bg x = v then 1 else 0) := by unfold outd; rw [List.countP_cons]; simp
    have h2 : ind en (x :: l) v = ind en l v + (if en x = v then 1 else 0) := by unfold ind; rw [List.countP_cons]; simp
    rw [h1, h2, ite_sym, h.1, ite_sym (v := en x)]
    generalize (if v = u then 1 else 0 : Nat) = i1 at *
    generalize (if v = en x then 1 else 0 : Nat) = i2 at *
    generalize (if v = r then 1 else 0 : Nat) = i3 at *
    omega

/-- the words hang together -/
def Conn (bg en : a → b) (S : List a) : Prop := ∀ P : b → Prop, (∀ x ∈ S, P (bg x) ↔ P (en x)) → ∀ x ∈ S, ∀ y ∈ S, P (bg x) → P (bg y)

theorem count_part {S T : List a} (hS : S.Nodup) (hT : T.Nodup) (hsub : ∀ x ∈ T, x ∈ S) (p : a → Bool) :
    S.countP p = T.countP p + (S.filter fun x => decide (x ∉ T)).countP p := by
  induction T generalizing S with
  | nil =>
    have : S.filter (fun x => decide (x ∉ ([] : List a))) = S := List.filter_eq_self.mpr fun x _ => by simp
    rw [this]; simp
  | cons y T ih =>
    have hy : y ∈ S := hsub y (List.mem_cons_self ..)
    have nd := List.nodup_cons.mp hT
    have := ih (S := wo S y) (wo_nodup hS) nd.2 fun x hx => mem_wo.mpr ⟨hsub x (List.mem_cons_of_mem _ hx), fun z => nd.1 (z ▸ hx)⟩
    have e : (wo S y).filter (fun x => decide (x ∉ T)) = S.filter fun x => decide (x ∉ y :: T) := by
      unfold wo
      rw [List.filter_filter]
      exact List.filter_congr fun x _ => by
        by_cases e1 : x = y <;> by_cases e2 : x ∈ T <;> simp [e1, e2]
    rw [e] at this
    rw [countP_wo hS hy, this, List.countP_cons]; omega

theorem rotate {T : List a} {v : b} (h : isWalk bg en v T v) {y : a} (hy : y ∈ T) : ∃ T', T'.Perm T ∧ isWalk bg en (bg y) T' (bg y) ∧ T'.head? = some y := by
  obtain ⟨A, B, e⟩ := List.append_of_mem hy
  subst e
  obtain ⟨m, h1, h2⟩ := isWalk_split h
  have hm : bg y = m := h2.1
  refine ⟨(y :: B) ++ A, List.perm_append_comm, ?_, rfl⟩
  rw [hm]
  exact isWalk_append h2 h1

theorem euler_go {S : List a} (hS : S.Nodup) (hb : ∀ v, outd bg S v = ind en S v) (hc : Conn bg en S) :
    ∀ (k : Nat) (T : List a) (u r : b), S.length - T.length = k → T.Nodup → (∀ x ∈ T, x ∈ S) → T ≠ [] → isWalk bg en u T r → ∃ T' v, T'.Perm S ∧ isWalk bg en v T' v := by
  intro k
  induction k with
  | zero =>
    intro T u r hk hT hsub hne hw
    -- all words are in T
    have part := count_part hS hT hsub (fun _ => true)
    rw [List.countP_true] at part
    have e1 : T.countP (fun _ => true) = T.length := by rw [List.countP_true]
    have e2 : (S.filter fun x => decide (x ∉ T)).countP (fun _ => true) = (S.filter fun x => decide (x ∉ T)).length := by rw [List.countP_true]
    have hle : T.length ≤ S.length := by omega
    have e3 : S.filter (fun x => decide (x ∉ T)) = [] := List.length_eq_zero_iff.mp (by omega)
    have perm : T.Perm S := by
      refine List.perm_iff_count.mpr fun x => ?_
      have := count_part hS hT hsub (fun y => y == x)
      rw [e3] at this
      have z : ([] : List a).countP (fun y => y == x) = 0 := rfl
      unfold List.count
      omega
    have ur : u = r := by
      have hbT := bal_walk hw
      have o : outd bg T u = outd bg S u := by unfold outd; exact perm.countP_eq _
      have i : ind en T u = ind en S u := by unfold ind; exact perm.countP_eq _
      have := hbT u
      rw [if_pos rfl, o, i, hb u] at this
      by_cases e : u = r
      · exact e
      · rw [if_neg e] at this; omega
    subst ur
    exact ⟨T, u, perm, hw⟩
  | succ k ih =>
    intro T u r hk hT hsub hne hw
    -- an unused word from a place where one can stand
    have step : ∀ (T2 : List a) (u2 r2 : b), T2.Perm T → isWalk bg en u2 T2 r2 → (∃ x ∈ S, x ∉ T ∧ bg x = r2) → ∃ T' v, T'.Perm S ∧ isWalk bg en v T' v := by
      intro T2 u2 r2 hp hw2 ⟨x, hx, hxT, hbx⟩
      have hl : (T2 ++ [x]).length = T.length + 1 := by rw [List.length_append, hp.length_eq]; rfl
      refine ih (T2 ++ [x]) u2 (en x) (by omega) ?_ ?_ (by simp) (isWalk_append hw2 ⟨hbx, rfl⟩)
      · refine List.nodup_append.mpr ⟨hp.nodup_iff.mpr hT, List.nodup_cons.mpr ⟨by simp, List.nodup_nil⟩, fun y hy z hz e => ?_⟩
        have : z = x := List.mem_singleton.mp hz
        subst this; subst e
        exact hxT (hp.mem_iff.mp hy)
      · intro y hy
        rcases List.mem_append.mp hy with hy | hy
        · exact hsub y (hp.mem_iff.mp hy)
        · rw [List.mem_singleton.mp hy]; exact hx
    have hbT := bal_walk hw
    have outs := fun v => count_part hS hT hsub (fun x => decide (bg x = v))
    have inss := fun v => count_part hS hT hsub (fun x => decide (en x = v))
    by_cases ur : u = r
    · subst ur
      by_cases ex : ∃ x ∈ S, x ∉ T ∧ ∃ y ∈ T, bg y = bg x
      · obtain ⟨x, hx, hxT, y, hy, e⟩ := ex
        obtain ⟨T2, hp, hw2, _⟩ := rotate hw hy
        exact step T2 _ _ hp hw2 ⟨x, hx, hxT, e.symm⟩
      · -- T is closed: it has all words
        exfalso
        have part := count_part hS hT hsub (fun _ => true)
        rw [List.countP_true] at part
        have e1 : T.countP (fun _ => true) = T.length := by rw [List.countP_true]
        have e2 : (S.filter fun x => decide (x ∉ T)).countP (fun _ => true) = (S.filter fun x => decide (x ∉ T)).length := by rw [List.countP_true]
        obtain ⟨x, hx⟩ : ∃ x, x ∈ S.filter fun x => decide (x ∉ T) := List.exists_mem_of_length_pos (by omega)
        have hxS := (List.mem_filter.mp hx).1
        have hxT : x ∉ T := of_decide_eq_true (List.mem_filter.mp hx).2
        obtain ⟨y0, hy0⟩ := List.exists_mem_of_ne_nil T hne
        have := hc (fun v => ∃ y ∈ T, bg y = v) (fun z hz => by
          by_cases hzT : z ∈ T
          · refine ⟨fun _ => ?_, fun _ => ⟨z, hzT, rfl⟩⟩
            have i0 : 0 < ind en T (en z) := ind_pos.mpr ⟨z, hzT, rfl⟩
            have := hbT (en z)
            have o0 : 0 < outd bg T (en z) := by
              by_cases g : en z = u
              · rw [if_pos g] at this; omega
              · rw [if_neg g] at this; omega
            exact outd_pos.mp o0
          · refine ⟨fun ⟨y, hy, e⟩ => absurd ⟨z, hz, hzT, y, hy, e⟩ ex, fun ⟨y, hy, e⟩ => ?_⟩
            exfalso
            have o := outs (en z)
            have i := inss (en z)
            have b1 := hb (en z)
            have b2 := hbT (en z)
            have i0 : 0 < (S.filter fun x => decide (x ∉ T)).countP (fun x => decide (en x = en z)) := List.countP_pos_iff.mpr ⟨z, List.mem_filter.mpr ⟨hz, decide_eq_true hzT⟩, by simp⟩
            have o0 : 0 < (S.filter fun x => decide (x ∉ T)).countP (fun x => decide (bg x = en z)) := by
              unfold outd ind at b1 b2
              by_cases g : en z = u
              · rw [if_pos g] at b2; omega
              · rw [if_neg g] at b2; omega
            obtain ⟨x', hx', e'⟩ := List.countP_pos_iff.mp o0
            exact ex ⟨x', (List.mem_filter.mp hx').1, of_decide_eq_true (List.mem_filter.mp hx').2, y, hy, e.trans (of_decide_eq_true e').symm⟩) y0 (hsub y0 hy0) x hxS ⟨y0, hy0, rfl⟩
        obtain ⟨y, hy, e⟩ := this
        exact ex ⟨x, hxS, hxT, y, hy, e⟩
    · -- T can go on
      have b2 := hbT r
      rw [if_pos rfl, if_neg (fun z => ur z.symm)] at b2
      have o := outs r
      have i := inss r
      have b1 := hb r
      unfold outd ind at b1 b2
      have o0 : 0 < (S.filter fun x => decide (x ∉ T)).countP (fun x => decide (bg x = r)) := by omega
      obtain ⟨x', hx', e'⟩ := List.countP_pos_iff.mp o0
      exact step T u r (List.Perm.refl _) hw ⟨x', (List.mem_filter.mp hx').1, of_decide_eq_true (List.mem_filter.mp hx').2, of_decide_eq_true e'⟩

/-- a ring from a word on -/
theorem euler {S : List a} {x : a} (hS : S.Nodup) (hx : x ∈ S) (hb : ∀ v, outd bg S v = ind en S v) (hc : Conn bg en S) : ∃ l, Tr bg en (wo S x) (en x) (bg x) l := by
  obtain ⟨T, v, hp, hw⟩ := euler_go hS hb hc _ [x] (bg x) (en x) rfl (List.nodup_cons.mpr ⟨by simp, List.nodup_nil⟩) (fun y hy => by rw [List.mem_singleton.mp hy]; exact hx) (by simp) ⟨rfl, rfl⟩
  obtain ⟨T2, hp2, hw2, hh⟩ := rotate hw (hp.mem_iff.mpr hx)
  match T2, hh with
  | y :: l, hh =>
    have e : y = x := by simpa using hh
    subst e
    exact ⟨l, perm_wo hS (hp2.trans hp), hw2.2⟩
end
end MW
/-! Exchanges of two stretches. Plain Lean. -/
namespace MW
open MD
/-- the letters (or words) behind an exchange -/
def exch {a : Type} (u : List a) (i j k l : Nat) : List a := u.take i ++ ((u.drop k).take (l - k) ++ ((u.drop j).take (k - j) ++ ((u.drop i).take (j - i) ++ u.drop l)))
theorem exch_map {a c : Type} (f : a → c) (u : List a) (i j k l : Nat) : (exch u i j k l).map f = exch (u.map f) i j k l := by
  unfold exch; simp only [List.map_append, List.map_take, List.map_drop]
theorem exch_parts {a : Type} (P1 P2 P3 P4 P5 : List a) {i j k l : Nat} (hi : i = P1.length) (hj : j = i + P2.length) (hk : k = j + P3.length) (hl : l = k + P4.length) :
    exch (P1 ++ (P2 ++ (P3 ++ (P4 ++ P5)))) i j k l = P1 ++ (P4 ++ (P3 ++ (P2 ++ P5))) := by
  unfold exch
  have d1 : (P1 ++ (P2 ++ (P3 ++ (P4 ++ P5)))).drop i = P2 ++ (P3 ++ (P4 ++ P5)) := List.drop_left' hi.symm
  have d2 : (P1 ++ (P2 ++ (P3 ++ (P4 ++ P5)))).drop j = P3 ++ (P4 ++ P5) := by
    rw [← List.append_assoc]; exact List.drop_left' (by rw [List.length_append]; omega)
  have d3 : (P1 ++ (P2 ++ (P3 ++ (P4 ++ P5)))).drop k = P4 ++ P5 := by
    rw [← List.append_assoc, ← List.append_assoc]; exact List.drop_left' (by rw [List.length_append, List.length_append]; omega)
  have d4 : (P1 ++ (P2 ++ (P3 ++ (P4 ++ P5)))).drop l = P5 := by
    rw [← List.append_assoc, ← List.append_assoc, ← List.append_assoc]; exact List.drop_left' (by rw [List.length_append, List.length_append, List.length_append]; omega)
  rw [d1, d2, d3, d4, List.take_left' hi.symm, List.take_left' (by omega), List.take_left' (by omega), List.take_left' (by omega)]
/-- a list in five parts -/
theorem five {a : Type} (u : List a) {i j k l : Nat} (h1 : i ≤ j) (h2 : j ≤ k) (h3 : k ≤ l) (h4 : l ≤ u.length) :
    ∃ P1 P2 P3 P4 P5 : List a, u = P1 ++ (P2 ++ (P3 ++ (P4 ++ P5))) ∧ i = P1.length ∧ j = i + P2.length ∧ k = j + P3.length ∧ l = k + P4.length := by
  refine ⟨u.take i, (u.drop i).take (j - i), (u.drop j).take (k - j), (u.drop k).take (l - k), u.drop l, ?_, ?_, ?_, ?_, ?_⟩
  · have e1 : ∀ p q : Nat, p ≤ q → (u.drop p) = (u.drop p).take (q - p) ++ u.drop q := fun p q h => by
      have := (List.take_append_drop (q - p) (u.drop p)).symm
      rw [List.drop_drop, show p + (q - p) = q by omega] at this
      exact this
    rw [← e1 k l h3, ← e1 j k h2, ← e1 i j h1, List.take_append_drop]
  all_goals (simp only [List.length_take, List.length_drop]; omega)
theorem exch_length {a : Type} (u : List a) {i j k l : Nat} (h1 : i ≤ j) (h2 : j ≤ k) (h3 : k ≤ l) (h4 : l ≤ u.length) : (exch u i j k l).length = u.length := by
  obtain ⟨P1, P2, P3, P4, P5, e, q1, q2, q3, q4⟩ := five u h1 h2 h3 h4
  rw [e, exch_parts P1 P2 P3 P4 P5 q1 q2 q3 q4]
  simp only [List.length_append]; omega
theorem exch_perm {a : Type} (u : List a) {i j k l : Nat} (h1 : i ≤ j) (h2 : j ≤ k) (h3 : k ≤ l) (h4 : l ≤ u.length) : (exch u i j k l).Perm u := by
  obtain ⟨P1, P2, P3, P4, P5, e, q1, q2, q3, q4⟩ := five u h1 h2 h3 h4
  rw [e, exch_parts P1 P2 P3 P4 P5 q1 q2 q3 q4]
  refine List.Perm.append_left _ ?_
  -- P4 P3 P2 P5 and P2 P3 P4 P5
  have h : (P4 ++ (P3 ++ P2)).Perm (P2 ++ (P3 ++ P4)) := by
    refine List.Perm.trans List.perm_append_comm ?_
    rw [List.append_assoc]
    refine List.Perm.trans (List.Perm.append_left _ List.perm_append_comm) ?_
    -- P3 (P4 P2) ~ P2 (P3 P4)
    rw [← List.append_assoc]
    exact List.perm_append_comm
  have := List.Perm.append_right P5 h
  simpa only [List.append_assoc] using this

section
variable {a b : Type} [DecidableEq a] [DecidableEq b] [Inhabited b] {bg en : a → b}
/-- the pieces along a walk to r -/
def alng (bg : a → b) (u : List a) (r : b) : List b := u.map bg ++ [r]
theorem alng_len (u : List a) (r : b) : (alng bg u r).length = u.length + 1 := by unfold alng; rw [List.length_append, List.length_map]; rfl
theorem alng_mid {P Q : List a} {h v r : b} (h2 : isWalk bg en v Q r) : (alng bg (P ++ Q) r)[P.length]? = some v := by
  unfold alng
  rw [List.map_append, List.append_assoc, List.getElem?_append_right (by simp), List.length_map, Nat.sub_self]
  match Q, h2 with
  | [], h2 => have e : v = r := h2; subst e; rfl
  | q :: Q, h2 => exact congrArg some h2.1
theorem walk_at {u : List a} {h r : b} (hw : isWalk bg en h u r) {i : Nat} (hi : i ≤ u.length) {v : b} (e : (alng bg u r)[i]? = some v) : isWalk bg en h (u.take i) v ∧ isWalk bg en v (u.drop i) r := by
  have hw' := hw
  rw [← List.take_append_drop i u] at hw'
  obtain ⟨m, h1, h2⟩ := isWalk_split hw'
  have := alng_mid (bg := bg) (en := en) (P := u.take i) (Q := u.drop i) (h := h) h2
  rw [List.take_append_drop, List.length_take, Nat.min_eq_left hi, e] at this
  cases this
  exact ⟨h1, h2⟩
theorem walk_bg {u : List a} {r : b} {i : Nat} {z : a} (hi : u[i]? = some z) : (alng bg u r)[i]? = some (bg z) := by
  have hl : i < u.length := by
    by_cases g : i < u.length
    · exact g
    · rw [List.getElem?_eq_none (by omega)] at hi; cases hi
  unfold alng
  rw [List.getElem?_append_left (by simpa using hl), List.getElem?_map, hi]; rfl
theorem walk_en {u : List a} {h r : b} (hw : isWalk bg en h u r) {i : Nat} {z : a} (hi : u[i]? = some z) : (alng bg u r)[i + 1]? = some (en z) := by
  have hl : i < u.length := by
    by_cases g : i < u.length
    · exact g
    · rw [List.getElem?_eq_none (by omega)] at hi; cases hi
  have e : u = u.take (i + 1) ++ u.drop (i + 1) := (List.take_append_drop _ _).symm
  have hw' := hw
  rw [e] at hw'
  obtain ⟨m, h1, h2⟩ := isWalk_split hw'
  have := alng_mid (bg := bg) (en := en) (P := u.take (i + 1)) (Q := u.drop (i + 1)) (h := h) h2
  rw [List.take_append_drop, List.length_take, Nat.min_eq_left (by omega)] at this
  rw [this]
  have et : u.take (i + 1) = u.take i ++ [z] := by rw [List.take_add_one, hi]; rfl
  rw [et] at h1
  obtain ⟨m', _, h3⟩ := isWalk_split h1
  exact congrArg some h3.2.symm

theorem exch_walk {u : List a} {h r : b} (hw : isWalk bg en h u r) {i j k l : Nat} (h1 : i ≤ j) (h2 : j ≤ k) (h3 : k ≤ l) (h4 : l ≤ u.length)
    {v w : b} (a1 : (alng bg u r)[i]? = some v) (a2 : (alng bg u r)[k]? = some v) (b1 : (alng bg u r)[j]? = some w) (b2 : (alng bg u r)[l]? = some w) : isWalk bg en h (exch u i j k l) r := by
  obtain ⟨P1, P2, P3, P4, P5, e, q1, q2, q3, q4⟩ := five u h1 h2 h3 h4
  subst e
  rw [exch_parts P1 P2 P3 P4 P5 q1 q2 q3 q4]
  have hw' := hw
  obtain ⟨v1, w1, hw'⟩ := isWalk_split hw'
  obtain ⟨v2, w2, hw2'⟩ := isWalk_split hw'
  obtain ⟨v3, w3, hw3'⟩ := isWalk_split hw2'
  obtain ⟨v4, w4, w5⟩ := isWalk_split hw3'
  have m1 := alng_mid (bg := bg) (en := en) (P := P1) (h := h) hw'
  have m2 := alng_mid (bg := bg) (en := en) (P := P1 ++ P2) (h := h) hw2'
  have m3 := alng_mid (bg := bg) (en := en) (P := P1 ++ (P2 ++ P3)) (h := h) hw3'
  have m4 := alng_mid (bg := bg) (en := en) (P := P1 ++ (P2 ++ (P3 ++ P4))) (h := h) w5
  simp only [List.append_assoc, List.length_append] at m1 m2 m3 m4
  rw [← q1, a1] at m1
  rw [← q1, ← q2, b1] at m2
  rw [← q1, show i + (P2.length + P3.length) = k by omega, a2] at m3
  rw [← q1, show i + (P2.length + (P3.length + P4.length)) = l by omega, b2] at m4
  cases m1; cases m2; cases m3; cases m4
  exact isWalk_append w1 (isWalk_append w4 (isWalk_append w3 (isWalk_append w2 w5)))

/-- two walks of the same words that are unlike from a place on: an exchange is there -/
theorem exch_there {p B C t : List a} {y : a} {h r : b} (hu : isWalk bg en h (p ++ (B ++ y :: C)) r) (ht : isWalk bg en h (p ++ y :: t) r)
    (hp : (p ++ (B ++ y :: C)).Perm (p ++ y :: t)) (hn : (p ++ (B ++ y :: C)).Nodup) (hB : B ≠ []) :
    (alng bg (p ++ (B ++ y :: C)) r)[p.length]? = some (bg y) ∧ (alng bg (p ++ (B ++ y :: C)) r)[p.length + B.length]? = some (bg y) ∧
    ∃ j l v, p.length < j ∧ j ≤ p.length + B.length ∧ p.length + B.length < l ∧ l ≤ (p ++ (B ++ y :: C)).length ∧
      (alng bg (p ++ (B ++ y :: C)) r)[j]? = some v ∧ (alng bg (p ++ (B ++ y :: C)) r)[l]? = some v := by
  obtain ⟨v, w1, w2⟩ := isWalk_split hu
  obtain ⟨v', w1', w2'⟩ := isWalk_split ht
  have ev : v = v' := isWalk_inj w1 w1'
  subst ev
  have hyv : bg y = v := w2'.1
  have A1 : (alng bg (p ++ (B ++ y :: C)) r)[p.length]? = some (bg y) := by rw [hyv]; exact alng_mid (en := en) (h := h) w2
  have atB : (p ++ (B ++ y :: C))[p.length + B.length]? = some y := by
    rw [List.getElem?_append_right (by omega), List.getElem?_append_right (by omega)]
    have : p.length + B.length - p.length - B.length = 0 := by omega
    rw [this]; rfl
  have A2 : (alng bg (p ++ (B ++ y :: C)) r)[p.length + B.length]? = some (bg y) := walk_bg atB
  refine ⟨A1, A2, ?_⟩
  refine Classical.byContradiction fun no => ?_
  have hlen : (p ++ (B ++ y :: C)).length = p.length + B.length + C.length + 1 := by simp only [List.length_append, List.length_cons]; omega
  -- where the end's pieces stand
  let V2 : b → Prop := fun v => ∃ l, p.length + B.length < l ∧ l ≤ (p ++ (B ++ y :: C)).length ∧ (alng bg (p ++ (B ++ y :: C)) r)[l]? = some v
  have inC : ∀ z, z ∈ y :: C → V2 (en z) := fun z hz => by
    obtain ⟨n, hn, e⟩ := List.getElem_of_mem hz
    have hn' : n < C.length + 1 := hn
    have : (p ++ (B ++ y :: C))[p.length + B.length + n]? = some z := by
      rw [List.getElem?_append_right (by omega), List.getElem?_append_right (by omega)]
      have : p.length + B.length + n - p.length - B.length = n := by omega
      rw [this, List.getElem?_eq_getElem hn, e]
    exact ⟨p.length + B.length + n + 1, by omega, by omega, walk_en hu this⟩
  have inB : ∀ z, z ∈ B → ¬ V2 (bg z) := fun z hz ⟨l, l1, l2, l3⟩ => by
    obtain ⟨n, hn, e⟩ := List.getElem_of_mem hz
    have : (p ++ (B ++ y :: C))[p.length + n]? = some z := by
      rw [List.getElem?_append_right (by omega), List.getElem?_append_left (by omega)]
      have : p.length + n - p.length = n := by omega
      rw [this, List.getElem?_eq_getElem hn, e]
    have hbz := walk_bg (bg := bg) (r := r) this
    by_cases g : n = 0
    · subst g
      rw [Nat.add_zero, A1] at hbz
      have hbz' : bg y = bg z := Option.some.inj hbz
      exact no ⟨p.length + B.length, l, bg z, by have := List.length_pos_iff.mpr hB; omega, Nat.le_refl _, l1, l2, by rw [A2, hbz'], l3⟩
    · exact no ⟨p.length + n, l, bg z, by omega, by omega, l1, l2, hbz, l3⟩
  have perm2 : (B ++ y :: C).Perm (y :: t) := (List.perm_append_left_iff p).mp hp
  have perm3 : (B ++ C).Perm t := by
    have := List.perm_middle (a := y) (l₁ := B) (l₂ := C)
    exact (List.perm_cons y).mp (this.symm.trans perm2)
  have go : ∀ (t : List a) (v : b), V2 v → isWalk bg en v t r → (∀ z ∈ t, z ∈ B ++ C) → ∀ z ∈ t, z ∉ B := by
    intro t
    induction t with
    | nil => intro _ _ _ _ z hz; cases hz
    | cons x t ih =>
      intro v hv hw hm
      have hx : x ∉ B := fun hx => inB x hx (by rw [hw.1]; exact hv)
      have hxC : x ∈ C := by
        rcases List.mem_append.mp (hm x (List.mem_cons_self ..)) with g | g
        · exact absurd g hx
        · exact g
      intro z hz
      rcases List.mem_cons.mp hz with rfl | hz
      · exact hx
      · exact ih (en x) (inC x (List.mem_cons_of_mem _ hxC)) hw.2 (fun z hz => hm z (List.mem_cons_of_mem _ hz)) z hz
  obtain ⟨z, hz⟩ := List.exists_mem_of_ne_nil B hB
  exact go t (en y) (inC y (List.mem_cons_self ..)) w2'.2 (fun z hz => perm3.mem_iff.mpr hz) z (perm3.mem_iff.mp (List.mem_append_left _ hz)) hz
end
end MW
/-! Words as lists of signs; rings as texts of first signs. Plain Lean. -/
namespace MT
open MW
abbrev Wd := List Nat
def bgn (w : Wd) : Wd := w.dropLast
def enn (w : Wd) : Wd := w.tail
def ltw (x y : Wd) : Bool := decide (x < y)
theorem lin : Lin ltw where
  irr := fun x => decide_eq_false (List.lt_irrefl x)
  tr := fun x y z h1 h2 => decide_eq_true (List.lt_trans (of_decide_eq_true h1) (of_decide_eq_true h2))
  tri := fun x y h => by
    by_cases h1 : x < y
    · exact .inl (decide_eq_true h1)
    · by_cases h2 : y < x
      · exact .inr (decide_eq_true h2)
      · exact absurd (List.le_antisymm (List.not_lt.mp h2) (List.not_lt.mp h1)) h

def fsg (w : Wd) : Nat := w.headD 0
/-- the ring's text -/
def rtx (l : List Wd) : Wd := l.map fsg
theorem rtx_len (l : List Wd) : (rtx l).length = l.length := List.length_map _
/-- a text put together with itself -/
def rpt (q : Nat) (t : Wd) : Wd := (List.replicate q t).flatten
theorem rpt_succ (q : Nat) (t : Wd) : rpt (q + 1) t = t ++ rpt q t := by unfold rpt; rw [List.replicate_succ, List.flatten_cons]
theorem rpt_len (q : Nat) (t : Wd) : (rpt q t).length = q * t.length := by
  induction q with
  | zero => simp [rpt]
  | succ q ih => rw [rpt_succ, List.length_append, ih, Nat.succ_mul]; omega
theorem rpt_get : ∀ (q i : Nat) (t : Wd), i < q * t.length → (rpt q t)[i]? = t[i % t.length]?
  | 0, i, t, h => by simp at h
  | q + 1, i, t, h => by
    rw [rpt_succ]
    by_cases g : i < t.length
    · rw [List.getElem?_append_left g, Nat.mod_eq_of_lt g]
    · rw [Nat.succ_mul] at h
      rw [List.getElem?_append_right (by omega), rpt_get q (i - t.length) t (by omega)]
      congr 1
      exact (Nat.mod_eq_sub_mod (by omega)).symm

section
variable {l : List Wd} {h : Wd} {L : Nat}
theorem nxt (hw : isWalk bgn enn h l h) {k : Nat} {x y : Wd} (hx : l[k]? = some x) (hy : l[(k + 1) % l.length]? = some y) : enn x = bgn y := by
  have hk : k < l.length := by
    by_cases g : k < l.length
    · exact g
    · rw [List.getElem?_eq_none (by omega)] at hx; cases hx
  have a := walk_en (bg := bgn) hw hx
  by_cases g : k + 1 < l.length
  · rw [Nat.mod_eq_of_lt g] at hy
    have b := walk_bg (bg := bgn) (r := h) hy
    rw [a] at b
    exact Option.some.inj b
  · have e : k + 1 = l.length := by omega
    rw [e, Nat.mod_self] at hy
    have a2 : (alng bgn l h)[l.length]? = some h := by
      unfold alng
      rw [List.getElem?_append_right (by simp)]; simp
    rw [e, a2] at a
    have b : bgn y = h := by
      match l, hy, hw with
      | z :: _, hy, hw =>
        have : z = y := by simpa using hy
        rw [← this]; exact hw.1
    rw [b]; exact (Option.some.inj a).symm
/-- a word's signs are the first signs of the words from it on -/
theorem letter (hw : isWalk bgn enn h l h) (hL : ∀ w ∈ l, w.length = L) : ∀ (j k : Nat) (x : Wd), j < L → l[k]? = some x → x[j]? = (rtx l)[(k + j) % l.length]?
  | 0, k, x, hj, hx => by
    have hk : k < l.length := by
      by_cases g : k < l.length
      · exact g
      · rw [List.getElem?_eq_none (by omega)] at hx; cases hx
    rw [Nat.add_zero, Nat.mod_eq_of_lt hk]
    unfold rtx
    rw [List.getElem?_map, hx]
    have : x.length = L := hL x (List.mem_of_getElem? hx)
    match x, this with
    | [], e => have : (0 : Nat) = L := e; omega
    | c :: _, _ => rfl
  | j + 1, k, x, hj, hx => by
    have hpos : 0 < l.length := by
      by_cases g : 0 < l.length
      · exact g
      · rw [List.getElem?_eq_none (by omega)] at hx; cases hx
    have hlt : (k + 1) % l.length < l.length := Nat.mod_lt _ hpos
    have hy : l[(k + 1) % l.length]? = some l[(k + 1) % l.length] := List.getElem?_eq_getElem hlt
    have e := nxt hw hx hy
    have lx : x.length = L := hL x (List.mem_of_getElem? hx)
    have ly : l[(k + 1) % l.length].length = L := hL _ (List.getElem_mem hlt)
    have e1 : x[j + 1]? = (enn x)[j]? := by unfold enn; rw [List.getElem?_tail]
    have e2 : (bgn l[(k + 1) % l.length])[j]? = l[(k + 1) % l.length][j]? := by
      unfold bgn
      rw [List.dropLast_eq_take, List.getElem?_take]
      rw [if_pos (by omega)]
    rw [e1, e, e2, letter hw hL j _ _ (by omega) hy, Nat.mod_add_mod]
    congr 2
    omega
/-- the windows of a ring's text are its words -/
theorem win_at (hw : isWalk bgn enn h l h) (hL : ∀ w ∈ l, w.length = L) {q k : Nat} {x : Wd} (hx : l[k]? = some x) (hq : k + L ≤ q * l.length) : ((rpt q (rtx l)).drop k).take L = x := by
  have lx : x.length = L := hL x (List.mem_of_getElem? hx)
  refine List.ext_getElem? fun j => ?_
  by_cases g : j < L
  · rw [List.getElem?_take, if_pos g, List.getElem?_drop, rpt_get _ _ _ (by rw [rtx_len]; omega), rtx_len, letter hw hL j k x g hx]
  · rw [List.getElem?_eq_none (by rw [List.length_take]; omega), List.getElem?_eq_none (by omega)]

/-- a ring's text tells its words -/
theorem rtx_inj {l' : List Wd} {h' : Wd} (hw : isWalk bgn enn h l h) (hL : ∀ w ∈ l, w.length = L) (hw' : isWalk bgn enn h' l' h') (hL' : ∀ w ∈ l', w.length = L) (e : rtx l = rtx l') : l = l' := by
  have hlen : l.length = l'.length := by rw [← rtx_len l, e, rtx_len]
  refine List.ext_getElem? fun k => ?_
  by_cases g : k < l.length
  · have a := win_at hw hL (q := k + L) (List.getElem?_eq_getElem g) (Nat.le_mul_of_pos_right _ (by omega))
    have b := win_at hw' hL' (q := k + L) (List.getElem?_eq_getElem (show k < l'.length by omega)) (Nat.le_mul_of_pos_right _ (by omega))
    rw [List.getElem?_eq_getElem g, List.getElem?_eq_getElem (show k < l'.length by omega), ← a, ← b, e]
  · rw [List.getElem?_eq_none (by omega), List.getElem?_eq_none (by omega)]

theorem lt_prefix (p : Wd) {c d : Nat} (r s : Wd) (hcd : c < d) : p ++ c :: r < p ++ d :: s := by
  induction p with
  | nil => exact List.Lex.rel hcd
  | cons x p ih => exact List.Lex.cons ih

/-- rings' texts are in the order of their first unlike words -/
theorem rtx_lt {p k1 k2 : List Wd} {x y : Wd} (hw : isWalk bgn enn h (p ++ x :: k1) h) (hL : ∀ w ∈ p ++ x :: k1, w.length = L) (hw' : isWalk bgn enn h (p ++ y :: k2) h) (hL' : ∀ w ∈ p ++ y :: k2, w.length = L)
    (hlen : k1.length = k2.length) (hL1 : 1 ≤ L) (hxy : x < y) : rtx (p ++ x :: k1) < rtx (p ++ y :: k2) := by
  have hx : (p ++ x :: k1)[p.length]? = some x := by rw [List.getElem?_append_right (by omega), Nat.sub_self]; rfl
  have hy : (p ++ y :: k2)[p.length]? = some y := by rw [List.getElem?_append_right (by omega), Nat.sub_self]; rfl
  have lx : x.length = L := hL x (List.mem_of_getElem? hx)
  have ly : y.length = L := hL' y (List.mem_of_getElem? hy)
  have hb : bgn x = bgn y := by
    obtain ⟨v, w1, w2⟩ := isWalk_split hw
    obtain ⟨v', w1', w2'⟩ := isWalk_split hw'
    have := isWalk_inj w1 w1'
    rw [w2.1, w2'.1, this]
  have hm : (p ++ x :: k1).length = p.length + k1.length + 1 := by rw [List.length_append, List.length_cons]; omega
  have hm' : (p ++ y :: k2).length = p.length + k1.length + 1 := by rw [List.length_append, List.length_cons]; omega
  -- alike ahead
  have alike : ∀ i, i < p.length + (L - 1) → i < p.length + k1.length + 1 → (rtx (p ++ x :: k1))[i]? = (rtx (p ++ y :: k2))[i]? := by
    intro i h1 h2
    by_cases g : i < p.length
    · unfold rtx
      rw [List.getElem?_map, List.getElem?_map, List.getElem?_append_left g, List.getElem?_append_left g]
    · have a := letter hw hL (i - p.length) p.length x (by omega) hx
      have b := letter hw' hL' (i - p.length) p.length y (by omega) hy
      rw [hm, Nat.mod_eq_of_lt (by omega), show p.length + (i - p.length) = i by omega] at a
      rw [hm', Nat.mod_eq_of_lt (by omega), show p.length + (i - p.length) = i by omega] at b
      rw [← a, ← b]
      have c : ∀ z : Wd, z.length = L → z[i - p.length]? = (bgn z)[i - p.length]? := fun z hz => by
        unfold bgn
        rw [List.dropLast_eq_take, List.getElem?_take, if_pos (by omega)]
      rw [c x lx, c y ly, hb]
  have far : p.length + (L - 1) < p.length + k1.length + 1 := by
    refine Classical.byContradiction fun no => ?_
    have e : rtx (p ++ x :: k1) = rtx (p ++ y :: k2) := List.ext_getElem? fun i => by
      by_cases g : i < p.length + k1.length + 1
      · exact alike i (by omega) g
      · rw [List.getElem?_eq_none (by rw [rtx_len]; omega), List.getElem?_eq_none (by rw [rtx_len]; omega)]
    have e2 := rtx_inj hw hL hw' hL' e
    have e3 := List.append_cancel_left e2
    injection e3 with e4 _
    rw [e4] at hxy
    exact List.lt_irrefl _ hxy
  -- the last sign
  have lastx : ∀ z : Wd, z.length = L → ∃ c, z = bgn z ++ [c] := fun z hz => by
    have hne : z ≠ [] := by rintro rfl; have : (0 : Nat) = L := hz; omega
    exact ⟨z.getLast hne, by unfold bgn; rw [List.dropLast_concat_getLast]⟩
  obtain ⟨c, ec⟩ := lastx x lx
  obtain ⟨d, ed⟩ := lastx y ly
  have hlb : (bgn x).length = L - 1 := by unfold bgn; rw [List.length_dropLast, lx]
  have hcd : c < d := by
    rw [ec, ed, hb] at hxy
    have : ∀ q : Wd, q ++ [c] < q ++ [d] → c < d := fun q => by
      induction q with
      | nil =>
        intro h
        cases h with
        | rel h => exact h
        | cons h => cases h
      | cons z q ih =>
        intro h
        cases h with
        | rel h => exact absurd h (Nat.lt_irrefl _)
        | cons h => exact ih h
    exact this _ hxy
  have gx : (rtx (p ++ x :: k1))[p.length + (L - 1)]? = some c := by
    have a := letter hw hL (L - 1) p.length x (by omega) hx
    rw [hm, Nat.mod_eq_of_lt far] at a
    rw [← a, ec, List.getElem?_append_right (by omega), hlb, Nat.sub_self]; rfl
  have gy : (rtx (p ++ y :: k2))[p.length + (L - 1)]? = some d := by
    have a := letter hw' hL' (L - 1) p.length y (by omega) hy
    rw [hm', Nat.mod_eq_of_lt far] at a
    rw [← a, ed, List.getElem?_append_right (by rw [← hb]; omega), ← hb, hlb, Nat.sub_self]; rfl
  have cut : ∀ (T : Wd) (i : Nat) (c : Nat), T[i]? = some c → T = T.take i ++ c :: T.drop (i + 1) := fun T i c hc => by
    have := (List.take_append_drop i T).symm
    have hi : i < T.length := by
      by_cases g : i < T.length
      · exact g
      · rw [List.getElem?_eq_none (by omega)] at hc; cases hc
    have hc' : T[i] = c := by rw [List.getElem?_eq_getElem hi] at hc; exact Option.some.inj hc
    rw [List.drop_eq_getElem_cons hi, hc'] at this
    exact this
  rw [cut _ _ c gx, cut _ _ d gy]
  have et : (rtx (p ++ x :: k1)).take (p.length + (L - 1)) = (rtx (p ++ y :: k2)).take (p.length + (L - 1)) := List.ext_getElem? fun i => by
    rw [List.getElem?_take, List.getElem?_take]
    by_cases g : i < p.length + (L - 1)
    · rw [if_pos g, if_pos g]; exact alike i g (by omega)
    · rw [if_neg g, if_neg g]
  rw [et]
  exact lt_prefix _ _ _ hcd
end

/-! ### a ring written letter by letter -/
/-- what is written behind i words -/
def dtx (l : List Wd) (i : Nat) : Wd := rtx (l.take i) ++ l.getD i []
theorem dtx_zero (x : Wd) (l : List Wd) : dtx (x :: l) 0 = x := rfl
theorem dtx_succ {l : List Wd} {h : Wd} {L i : Nat} (hw : isWalk bgn enn h l h) (hL : ∀ w ∈ l, w.length = L) (hL1 : 1 ≤ L) {x y : Wd} (hx : l[i]? = some x) (hy : l[i + 1]? = some y) {c : Nat} (hc : y[L - 1]? = some c) :
    dtx l i ++ [c] = dtx l (i + 1) := by
  have lx : x.length = L := hL x (List.mem_of_getElem? hx)
  have ly : y.length = L := hL y (List.mem_of_getElem? hy)
  have hi : i + 1 < l.length := by
    by_cases g : i + 1 < l.length
    · exact g
    · rw [List.getElem?_eq_none (by omega)] at hy; cases hy
  have e := nxt hw hx (by rw [Nat.mod_eq_of_lt hi]; exact hy)
  unfold dtx
  rw [List.getD_eq_getElem?_getD, List.getD_eq_getElem?_getD, hx, hy, List.take_add_one, hx]
  show rtx (l.take i) ++ x ++ [c] = rtx (l.take i ++ [x]) ++ y
  have hy' : y = bgn y ++ [c] := by
    have hne : y ≠ [] := by rintro rfl; have : (0 : Nat) = L := ly; omega
    have := (List.dropLast_concat_getLast hne).symm
    have hg : y.getLast hne = c := by
      rw [List.getLast_eq_getElem]
      rw [List.getElem?_eq_getElem (by omega)] at hc
      have : y.length - 1 = L - 1 := by omega
      simp only [this]
      exact Option.some.inj hc
    rw [hg] at this
    exact this
  have hx' : x = fsg x :: enn x := by
    match x, lx with
    | [], e => have : (0 : Nat) = L := e; omega
    | c :: r, _ => rfl
  unfold rtx
  rw [List.map_append, List.append_assoc, List.append_assoc]
  congr 1
  show x ++ [c] = [fsg x] ++ y
  rw [hy', ← e]
  calc x ++ [c] = (fsg x :: enn x) ++ [c] := by rw [← hx']
    _ = [fsg x] ++ (enn x ++ [c]) := rfl
theorem dtx_len {l : List Wd} {L i : Nat} (hL : ∀ w ∈ l, w.length = L) {x : Wd} (hx : l[i]? = some x) : (dtx l i).length = i + L := by
  have hi : i < l.length := by
    by_cases g : i < l.length
    · exact g
    · rw [List.getElem?_eq_none (by omega)] at hx; cases hx
  unfold dtx
  rw [List.length_append, rtx_len, List.length_take, List.getD_eq_getElem?_getD, hx]
  show min i l.length + x.length = i + L
  rw [hL x (List.mem_of_getElem? hx)]; omega
theorem dtx_last {l : List Wd} {L i : Nat} (hL : ∀ w ∈ l, w.length = L) {x : Wd} (hx : l[i]? = some x) : (dtx l i).drop ((dtx l i).length - L) = x := by
  have hi : i < l.length := by
    by_cases g : i < l.length
    · exact g
    · rw [List.getElem?_eq_none (by omega)] at hx; cases hx
  rw [dtx_len hL hx, Nat.add_sub_cancel]
  unfold dtx
  rw [List.getD_eq_getElem?_getD, hx]
  exact List.drop_left' (by rw [rtx_len, List.length_take]; omega)
theorem dtx_done {l : List Wd} {L : Nat} (hL : ∀ w ∈ l, w.length = L) (hL1 : 1 ≤ L) {i : Nat} (hi : i + 1 = l.length) : (dtx l i).take l.length = rtx l := by
  have hx : l[i]? = some l[i] := List.getElem?_eq_getElem (by omega)
  have lx : l[i].length = L := hL _ (List.getElem_mem _)
  have et : l = l.take i ++ [l[i]] := by
    have := (List.take_append_drop i l).symm
    rw [List.drop_eq_getElem_cons (by omega), List.drop_eq_nil_of_le (by omega)] at this
    exact this
  have hx' : l[i] = fsg l[i] :: enn l[i] := by
    generalize l[i] = x at lx
    match x, lx with
    | [], e => have : (0 : Nat) = L := e; omega
    | c :: r, _ => rfl
  unfold dtx
  rw [List.getD_eq_getElem?_getD, hx]
  show (rtx (l.take i) ++ l[i]).take l.length = rtx l
  have e2 : rtx l = rtx (l.take i) ++ [fsg l[i]] := by
    conv => lhs; rw [et]
    unfold rtx; rw [List.map_append]; rfl
  rw [e2]
  have h3 : rtx (l.take i) ++ l[i] = (rtx (l.take i) ++ [fsg l[i]]) ++ enn l[i] := by rw [List.append_assoc, List.singleton_append, ← hx']
  rw [h3]
  exact List.take_left' (by rw [List.length_append, rtx_len, List.length_take]; simp; omega)
end MT
/-! The parts of a ring: its last ways are a tree. Plain Lean. -/
namespace MW
section
variable {a b : Type} [DecidableEq a] [DecidableEq b] [Inhabited b] {bg en : a → b}
/-- the words by which a text is left, in their order -/
def gone (bg : a → b) (l : List a) (v : b) : List a := l.filter fun x => decide (bg x = v)
theorem gone_append (l k : List a) (v : b) : gone bg (l ++ k) v = gone bg l v ++ gone bg k v := List.filter_append ..
theorem mem_gone {l : List a} {v : b} {x : a} : x ∈ gone bg l v ↔ x ∈ l ∧ bg x = v := by unfold gone; rw [List.mem_filter, decide_eq_true_iff]
/-- one step by the last ways -/
def hop (bg en : a → b) (h : b) (l : List a) (v : b) : b := if v = h then v else match (gone bg l v).getLast? with | some w => en w | none => v
def hops (bg en : a → b) (h : b) (l : List a) : Nat → b → b
  | 0, v => v
  | n + 1, v => hops bg en h l n (hop bg en h l v)
theorem hops_home (h : b) (l : List a) : ∀ n, hops bg en h l n h = h
  | 0 => rfl
  | n + 1 => by
    have : hop bg en h l h = h := by unfold hop; rw [if_pos rfl]
    show hops bg en h l n (hop bg en h l h) = h
    rw [this]; exact hops_home h l n
/-- how many texts but the home are left within l -/
def cnt (bg : a → b) (h : b) (V : List b) (B : List a) : Nat := (V.filter fun v => decide (v ≠ h ∧ ∃ x ∈ B, bg x = v)).length

theorem last_split (B : List a) (v : b) (h : ∃ x ∈ B, bg x = v) : ∃ A w C, B = A ++ w :: C ∧ bg w = v ∧ ∀ x ∈ C, bg x ≠ v := by
  induction B with
  | nil => obtain ⟨x, hx, _⟩ := h; cases hx
  | cons y B ih =>
    by_cases g : ∃ x ∈ B, bg x = v
    · obtain ⟨A, w, C, e, h1, h2⟩ := ih g
      exact ⟨y :: A, w, C, by rw [e]; rfl, h1, h2⟩
    · obtain ⟨x, hx, e⟩ := h
      rcases List.mem_cons.mp hx with rfl | hx
      · exact ⟨[], x, B, rfl, e, fun z hz hv => g ⟨z, hz, hv⟩⟩
      · exact absurd ⟨x, hx, e⟩ g
theorem gone_last {A C : List a} {w : a} {v : b} (hw : bg w = v) (hC : ∀ x ∈ C, bg x ≠ v) : (gone bg (A ++ w :: C) v).getLast? = some w := by
  rw [gone_append]
  have : gone bg (w :: C) v = [w] := by
    unfold gone
    rw [List.filter_cons_of_pos (by simpa using hw)]
    have : C.filter (fun x => decide (bg x = v)) = [] := List.filter_eq_nil_iff.mpr fun x hx => by simpa using hC x hx
    rw [this]
  rw [this, List.getLast?_append]; rfl

theorem hops_ok {h : b} {V : List b} (nV : V.Nodup) : ∀ (n : Nat) (P B : List a) (v : b), cnt bg h V B ≤ n → isWalk bg en v B h → (∀ x ∈ B, bg x ∈ V) → hops bg en h (P ++ B) n v = h
  | 0, P, B, v, hc, hw, hV => by
    show v = h
    refine Classical.byContradiction fun ne => ?_
    match B, hw with
    | [], hw => exact ne hw
    | x :: B, hw =>
      have : v ∈ V.filter fun v => decide (v ≠ h ∧ ∃ y ∈ x :: B, bg y = v) := List.mem_filter.mpr ⟨hw.1 ▸ hV x (List.mem_cons_self ..), decide_eq_true ⟨ne, x, List.mem_cons_self .., hw.1⟩⟩
      have := List.length_pos_of_mem this
      unfold cnt at hc; omega
  | n + 1, P, B, v, hc, hw, hV => by
    by_cases e : v = h
    · subst e; exact hops_home _ _ _
    · have ex : ∃ x ∈ B, bg x = v := by
        match B, hw with
        | [], hw => exact absurd hw e
        | x :: B, hw => exact ⟨x, List.mem_cons_self .., hw.1⟩
      obtain ⟨A, w, C, e1, e2, e3⟩ := last_split B v ex
      have hl : hop bg en h (P ++ B) v = en w := by
        unfold hop
        rw [if_neg e, e1, ← List.append_assoc, gone_last e2 e3]
      show hops bg en h (P ++ B) n (hop bg en h (P ++ B) v) = h
      rw [hl]
      rw [e1] at hw
      obtain ⟨m, _, w2⟩ := isWalk_split hw
      have key : cnt bg h V C + 1 ≤ cnt bg h V B := by
        have vin : v ∈ V.filter fun v => decide (v ≠ h ∧ ∃ y ∈ B, bg y = v) := List.mem_filter.mpr ⟨by
          obtain ⟨x, hx, hxv⟩ := ex
          rw [← hxv]; exact hV x hx, decide_eq_true ⟨e, ex⟩⟩
        have nd : (V.filter fun v => decide (v ≠ h ∧ ∃ y ∈ B, bg y = v)).Nodup := nV.filter _
        have lw := wo_length nd vin
        have sub : (V.filter fun v => decide (v ≠ h ∧ ∃ x ∈ C, bg x = v)).length ≤ (wo (V.filter fun v => decide (v ≠ h ∧ ∃ x ∈ B, bg x = v)) v).length := by
          have e4 : V.filter (fun v => decide (v ≠ h ∧ ∃ x ∈ C, bg x = v)) = (wo (V.filter fun v => decide (v ≠ h ∧ ∃ x ∈ B, bg x = v)) v).filter (fun v => decide (v ≠ h ∧ ∃ x ∈ C, bg x = v)) := by
            unfold wo
            rw [List.filter_filter, List.filter_filter]
            refine List.filter_congr fun q _ => ?_
            by_cases g : q ≠ h ∧ ∃ x ∈ C, bg x = q
            · have g2 : q ≠ h ∧ ∃ x ∈ B, bg x = q := ⟨g.1, by
                obtain ⟨x, hx, hxq⟩ := g.2
                exact ⟨x, by rw [e1]; exact List.mem_append_right _ (List.mem_cons_of_mem _ hx), hxq⟩⟩
              have g3 : q ≠ v := by
                rintro rfl
                obtain ⟨x, hx, hxq⟩ := g.2
                exact e3 x hx hxq
              rw [decide_eq_true g, decide_eq_true g2, decide_eq_true g3]; rfl
            · rw [decide_eq_false g]; rfl
          rw [e4]
          exact List.length_filter_le _ _
        unfold cnt
        omega
      have := hops_ok nV n (P ++ A ++ [w]) C (en w) (by omega) w2.2 fun x hx => hV x (by rw [e1]; exact List.mem_append_right _ (List.mem_cons_of_mem _ hx))
      rw [e1]
      simpa only [List.append_assoc, List.singleton_append] using this

/-- going on by what is left: the next word is the first one out of where one stands -/
theorem gone_next {l : List a} {h r : b} (hw : isWalk bg en h l r) {i : Nat} {x : a} (hx : l[i]? = some x) :
    (gone bg (l.drop i) (bg x)) = x :: gone bg (l.drop (i + 1)) (bg x) ∧ ∀ v, v ≠ bg x → gone bg (l.drop i) v = gone bg (l.drop (i + 1)) v := by
  have hi : i < l.length := by
    by_cases g : i < l.length
    · exact g
    · rw [List.getElem?_eq_none (by omega)] at hx; cases hx
  have hx' : l[i] = x := by rw [List.getElem?_eq_getElem hi] at hx; exact Option.some.inj hx
  rw [List.drop_eq_getElem_cons hi, hx']
  refine ⟨?_, fun v hv => ?_⟩
  · unfold gone; rw [List.filter_cons_of_pos (by simp)]
  · unfold gone; rw [List.filter_cons_of_neg (by simpa using fun z => hv z.symm)]
end
end MW
/-! Sorted lists of words; a web's pieces and what bounds them. Plain Lean. -/
namespace MT
open MW MD
theorem asc_ext {a : Type} [DecidableEq a] {lt : a → a → Bool} (L : Lin lt) : ∀ {l k : List a}, Asc lt l → Asc lt k → (∀ x, x ∈ l ↔ x ∈ k) → l = k
  | [], [], _, _, _ => rfl
  | [], y :: k, _, _, h => by have := (h y).mpr (List.mem_cons_self ..); cases this
  | x :: l, [], _, _, h => by have := (h x).mp (List.mem_cons_self ..); cases this
  | x :: l, y :: k, hl, hk, h => by
    have hl' := List.pairwise_cons.mp hl
    have hk' := List.pairwise_cons.mp hk
    have e : x = y := by
      have h1 := (h x).mp (List.mem_cons_self ..)
      have h2 := (h y).mpr (List.mem_cons_self ..)
      rcases List.mem_cons.mp h1 with e | h1
      · exact e
      · rcases List.mem_cons.mp h2 with e | h2
        · exact e.symm
        · have a1 := hk'.1 x h1
          have a2 := hl'.1 y h2
          have := L.tr _ _ _ a1 a2
          rw [L.irr] at this; cases this
    subst e
    have : l = k := asc_ext L hl'.2 hk'.2 fun z => by
      refine ⟨fun hz => ?_, fun hz => ?_⟩
      · rcases List.mem_cons.mp ((h z).mp (List.mem_cons_of_mem _ hz)) with e | e
        · subst e; have := hl'.1 z hz; rw [L.irr] at this; cases this
        · exact e
      · rcases List.mem_cons.mp ((h z).mpr (List.mem_cons_of_mem _ hz)) with e | e
        · subst e; have := hk'.1 z hz; rw [L.irr] at this; cases this
        · exact e
    rw [this]

def ins (x : Wd) : List Wd → List Wd
  | [] => [x]
  | y :: l => if ltw x y = true then x :: y :: l else if x = y then y :: l else y :: ins x l
def srt (l : List Wd) : List Wd := l.foldr ins []
theorem mem_ins {x z : Wd} : ∀ {l : List Wd}, z ∈ ins x l ↔ z = x ∨ z ∈ l
  | [] => by simp [ins]
  | y :: l => by
    unfold ins
    split
    · simp
    · split
      · rename_i e; subst e; simp
      · rw [List.mem_cons, mem_ins, List.mem_cons]
        constructor
        · rintro (h | h | h) <;> simp [h]
        · rintro (h | h | h) <;> simp [h]
theorem asc_ins {x : Wd} : ∀ {l : List Wd}, Asc ltw l → Asc ltw (ins x l)
  | [], _ => List.pairwise_singleton ..
  | y :: l, h => by
    have h' := List.pairwise_cons.mp h
    unfold ins
    split
    · rename_i e
      refine List.pairwise_cons.mpr ⟨fun z hz => ?_, h⟩
      rcases List.mem_cons.mp hz with rfl | hz
      · exact e
      · exact lin.tr _ _ _ e (h'.1 z hz)
    · split
      · exact h
      · rename_i e1 e2
        refine List.pairwise_cons.mpr ⟨fun z hz => ?_, asc_ins h'.2⟩
        rcases mem_ins.mp hz with rfl | hz
        · rcases lin.tri z y e2 with g | g
          · exact absurd g e1
          · exact g
        · exact h'.1 z hz
theorem srt_asc : ∀ l : List Wd, Asc ltw (srt l)
  | [] => List.Pairwise.nil
  | x :: l => asc_ins (srt_asc l)
theorem mem_srt {z : Wd} : ∀ {l : List Wd}, z ∈ srt l ↔ z ∈ l
  | [] => Iff.rfl
  | x :: l => by
    show z ∈ ins x (srt l) ↔ _
    rw [mem_ins, mem_srt, List.mem_cons]
theorem asc_nd {l : List Wd} (h : Asc ltw l) : l.Nodup := h.nodup lin
theorem srt_nd (l : List Wd) : (srt l).Nodup := asc_nd (srt_asc l)
theorem srt_eq {l k : List Wd} (h : Asc ltw k) (e : ∀ z, z ∈ k ↔ z ∈ l) : srt l = k := asc_ext lin (srt_asc l) h fun z => mem_srt.trans (e z).symm
theorem srt_self {l : List Wd} (h : Asc ltw l) : srt l = l := srt_eq h fun _ => Iff.rfl
theorem perm_of_mem {a : Type} [DecidableEq a] {l k : List a} (hl : l.Nodup) (hk : k.Nodup) (h : ∀ x, x ∈ l ↔ x ∈ k) : l.Perm k := by
  refine List.perm_iff_count.mpr fun x => ?_
  by_cases hx : x ∈ l
  · rw [hl.count, if_pos hx, hk.count, if_pos ((h x).mp hx)]
  · rw [hl.count, if_neg hx, hk.count, if_neg fun z => hx ((h x).mpr z)]
theorem srt_perm {l : List Wd} (h : l.Nodup) : (srt l).Perm l := perm_of_mem (srt_nd l) h fun _ => mem_srt
theorem srt_len {l : List Wd} (h : l.Nodup) : (srt l).length = l.length := (srt_perm h).length_eq

/-- all begins and ends of some words, ascending -/
def pcs (ws : List Wd) : List Wd := srt (ws.map bgn ++ ws.map enn)
theorem mem_pcs {ws : List Wd} {v : Wd} : v ∈ pcs ws ↔ (∃ x ∈ ws, bgn x = v) ∨ ∃ x ∈ ws, enn x = v := by
  unfold pcs; rw [mem_srt, List.mem_append, List.mem_map, List.mem_map]
theorem pcs_nd (ws : List Wd) : (pcs ws).Nodup := srt_nd _
theorem pcs_asc (ws : List Wd) : Asc ltw (pcs ws) := srt_asc _
theorem bgn_pcs {ws : List Wd} {x : Wd} (h : x ∈ ws) : bgn x ∈ pcs ws := mem_pcs.mpr (.inl ⟨x, h, rfl⟩)
theorem enn_pcs {ws : List Wd} {x : Wd} (h : x ∈ ws) : enn x ∈ pcs ws := mem_pcs.mpr (.inr ⟨x, h, rfl⟩)

/-- a web's words -/
structure WebOk (ws : List Wd) (L : Nat) : Prop where
  asc : Asc ltw ws
  ne : ws ≠ []
  len : ∀ w ∈ ws, w.length = L
  lo : 1 ≤ L
  hi : L ≤ 8
  few : ws.length ≤ 16
  sg : ∀ w ∈ ws, ∀ c ∈ w, 97 ≤ c ∧ c < 103
  pc : (pcs ws).length ≤ 8
  small : (pcs ws).length ≤ 1 ∨ ∀ v, outd bgn ws v ≤ 4
section
variable {ws S : List Wd} {L : Nat}
theorem WebOk.nd (h : WebOk ws L) : ws.Nodup := asc_nd h.asc
theorem WebOk.gd (h : WebOk ws L) (hs : S.Sublist ws) : Gd bgn enn (pcs ws) S :=
  ⟨pcs_nd ws, h.nd.sublist hs, fun x hx => bgn_pcs (hs.subset hx), fun x hx => enn_pcs (hs.subset hx)⟩
theorem sub_wo {ws S : List Wd} (hs : S.Sublist ws) (x : Wd) : (wo S x).Sublist ws := List.Sublist.trans List.filter_sublist hs
theorem asc_sub (h : Asc ltw ws) (hs : S.Sublist ws) : Asc ltw S := List.Pairwise.sublist hs h
theorem outd_sub (hs : S.Sublist ws) (v : Wd) : outd bgn S v ≤ outd bgn ws v := hs.countP_le
theorem bg_en_len {w : Wd} : (bgn w).length = w.length - 1 ∧ (enn w).length = w.length - 1 := by
  unfold bgn enn; rw [List.length_dropLast, List.length_tail]; exact ⟨rfl, rfl⟩
/-- how great the numbers of a square are -/
theorem lap_abs (S : List Wd) (v w : Wd) : (lap bgn enn S v w).natAbs ≤ outd bgn S v := by
  unfold lap outd
  induction S with
  | nil => exact Nat.le_refl 0
  | cons x S ih =>
    show ((if bgn x = v then dl v w - dl (enn x) w else 0) + lsum S _).natAbs ≤ _
    rw [List.countP_cons]
    have := Int.natAbs_add_le (if bgn x = v then dl v w - dl (enn x) w else 0) (lsum S fun x => if bgn x = v then dl v w - dl (enn x) w else 0)
    by_cases e : bgn x = v
    · rw [if_pos e] at this ⊢
      have d : (dl v w - dl (enn x) w).natAbs ≤ 1 := by
        unfold dl; split <;> split <;> decide
      simp only [e, decide_true, if_true]
      omega
    · rw [if_neg e] at this ⊢
      simp only [e, decide_false]
      simp at this ⊢
      exact ih
theorem act_asc (ws S : List Wd) (r : Wd) : Asc ltw (act bgn S r (pcs ws)) := List.Pairwise.filter _ (pcs_asc ws)
/-- a web with its words even and hanging together -/
def RingOk (ws : List Wd) : Prop := (∀ v, outd bgn ws v = ind enn ws v) ∧ Conn bgn enn ws
/-- a ring of a web, told from its least word -/
structure RingOrd (ws : List Wd) (l : List Wd) : Prop where
  perm : l.Perm ws
  head : l.head? = ws.head?
  walk : ∀ x, l.head? = some x → isWalk bgn enn (bgn x) l (bgn x)
end
end MT
/-! All words of a length over some letters; a web out of some of them. Plain Lean. -/
namespace MT
open MW MD
def aw : Nat → Nat → List Wd
  | 0, _ => [[]]
  | n + 1, k => (aw n k).flatMap fun w => (List.range k).map fun c => w ++ [97 + c]
theorem mem_aw {k : Nat} : ∀ {n : Nat} {w : Wd}, w ∈ aw n k ↔ w.length = n ∧ ∀ c ∈ w, 97 ≤ c ∧ c < 97 + k
  | 0, w => by
    show w ∈ [[]] ↔ _
    rw [List.mem_singleton]
    constructor
    · rintro rfl; exact ⟨rfl, fun c hc => by cases hc⟩
    · rintro ⟨h, _⟩; exact List.length_eq_zero_iff.mp h
  | n + 1, w => by
    show w ∈ (aw n k).flatMap _ ↔ _
    rw [List.mem_flatMap]
    constructor
    · rintro ⟨v, hv, h⟩
      obtain ⟨c, hc, rfl⟩ := List.mem_map.mp h
      have hc := List.mem_range.mp hc
      obtain ⟨h1, h2⟩ := mem_aw.mp hv
      refine ⟨by rw [List.length_append, h1]; rfl, fun d hd => ?_⟩
      rcases List.mem_append.mp hd with hd | hd
      · exact h2 d hd
      · rw [List.mem_singleton.mp hd]; omega
    · rintro ⟨h1, h2⟩
      have hp : w ≠ [] := fun e => by rw [e] at h1; cases h1
      refine ⟨w.dropLast, mem_aw.mpr ⟨by rw [List.length_dropLast, h1]; rfl, fun c hc => h2 c (List.dropLast_subset _ hc)⟩, List.mem_map.mpr ⟨w.getLast hp - 97, ?_, ?_⟩⟩
      · have := h2 _ (List.getLast_mem hp)
        exact List.mem_range.mpr (by omega)
      · have := h2 _ (List.getLast_mem hp)
        show w.dropLast ++ [97 + (w.getLast hp - 97)] = w
        rw [show 97 + (w.getLast hp - 97) = w.getLast hp by omega]
        exact List.dropLast_concat_getLast hp
theorem sum_const (l : List Wd) (k : Nat) : (l.map fun _ => k).sum = l.length * k := by
  induction l with
  | nil => simp
  | cons a l ih => rw [List.map_cons, List.sum_cons, ih, List.length_cons, Nat.succ_mul]; omega
theorem aw_len (k : Nat) : ∀ n : Nat, (aw n k).length = k ^ n
  | 0 => rfl
  | n + 1 => by
    show ((aw n k).flatMap _).length = _
    rw [List.length_flatMap]
    have : ((aw n k).map fun w => ((List.range k).map fun c => w ++ [97 + c]).length) = (aw n k).map fun _ => k := List.map_congr_left fun w _ => by rw [List.length_map, List.length_range]
    rw [this, sum_const, aw_len k n, Nat.pow_succ]
theorem aw_nd (k : Nat) : ∀ n : Nat, (aw n k).Nodup
  | 0 => List.nodup_cons.mpr ⟨by simp, List.nodup_nil⟩
  | n + 1 => by
    show ((aw n k).flatMap _).Nodup
    refine List.pairwise_flatMap.mpr ⟨fun w _ => ?_, ?_⟩
    · refine List.pairwise_map.mpr (List.nodup_range.imp fun {a b} h e => h ?_)
      have := List.append_cancel_left e
      injection this with this
      omega
    · refine (aw_nd k n).imp fun {a b} h x hx y hy exy => h ?_
      subst exy
      obtain ⟨c, _, rfl⟩ := List.mem_map.mp hx
      obtain ⟨d, _, e⟩ := List.mem_map.mp hy
      have := congrArg List.dropLast e
      rw [List.dropLast_concat, List.dropLast_concat] at this
      exact this.symm
theorem sub_len {a : Type} [DecidableEq a] : ∀ {l k : List a}, l.Nodup → (∀ x ∈ l, x ∈ k) → l.length ≤ k.length
  | [], _, _, _ => Nat.zero_le _
  | x :: l, k, h, hs => by
    obtain ⟨h1, h2⟩ := List.nodup_cons.mp h
    have hx := hs x (List.mem_cons_self ..)
    have ih := sub_len (l := l) (k := k.erase x) h2 fun y hy => (List.mem_erase_of_ne (fun e : y = x => h1 (by rw [← e]; exact hy))).mpr (hs y (List.mem_cons_of_mem _ hy))
    have e := List.length_erase_of_mem hx
    have := List.length_pos_of_mem hx
    rw [List.length_cons]; omega
/-- a size that the law takes -/
structure Sz (L k : Nat) : Prop where
  lo : 1 ≤ L
  hi : L ≤ 8
  k1 : 1 ≤ k
  k6 : k ≤ 6
  few : k ^ L ≤ 16
  pc : k ^ (L - 1) ≤ 8
  small : k ^ (L - 1) ≤ 1 ∨ k ≤ 4
theorem web_ok {L k : Nat} (z : Sz L k) {us : List Wd} (nd : us.Nodup) (ne : us ≠ []) (hs : ∀ w ∈ us, w ∈ aw L k) : WebOk (srt us) L := by
  have hs2 : ∀ w ∈ srt us, w ∈ aw L k := fun w hw => hs w (mem_srt.mp hw)
  have lo := z.lo
  have hp : ∀ v ∈ pcs (srt us), v ∈ aw (L - 1) k := fun v hv => by
    rcases mem_pcs.mp hv with ⟨x, hx, e⟩ | ⟨x, hx, e⟩
    · obtain ⟨h1, h2⟩ := mem_aw.mp (hs2 x hx)
      rw [← e]
      exact mem_aw.mpr ⟨by unfold bgn; rw [List.length_dropLast, h1], fun c hc => h2 c (List.dropLast_subset _ hc)⟩
    · obtain ⟨h1, h2⟩ := mem_aw.mp (hs2 x hx)
      rw [← e]
      exact mem_aw.mpr ⟨by unfold enn; rw [List.length_tail, h1], fun c hc => h2 c (List.mem_of_mem_tail hc)⟩
  have lp : (pcs (srt us)).length ≤ k ^ (L - 1) := by rw [← aw_len]; exact sub_len (pcs_nd _) hp
  refine ⟨srt_asc us, fun e => ?_, fun w hw => (mem_aw.mp (hs2 w hw)).1, lo, z.hi, ?_, fun w hw c hc => ?_, Nat.le_trans lp z.pc, ?_⟩
  · obtain ⟨x, r, e2⟩ := List.exists_cons_of_ne_nil ne
    have : x ∈ srt us := mem_srt.mpr (by rw [e2]; exact List.mem_cons_self ..)
    rw [e] at this; cases this
  · refine Nat.le_trans ?_ z.few
    rw [← aw_len]
    exact sub_len (srt_nd us) hs2
  · have := (mem_aw.mp (hs2 w hw)).2 c hc
    have := z.k6
    omega
  · rcases z.small with h | h
    · exact .inl (Nat.le_trans lp h)
    · refine .inr fun v => Nat.le_trans ?_ h
      have e : outd bgn (srt us) v = (gone bgn (srt us) v).length := filter_len.symm
      rw [e, show k = ((List.range k).map fun c => v ++ [97 + c]).length by rw [List.length_map, List.length_range]]
      refine sub_len ((srt_nd us).filter _) fun x hx => ?_
      obtain ⟨h1, h2⟩ := mem_gone.mp hx
      obtain ⟨h3, h4⟩ := mem_aw.mp (hs2 x h1)
      have hp : x ≠ [] := fun e => by
        rw [e] at h3
        have : (0 : Nat) = L := h3
        omega
      have h5 := h4 _ (List.getLast_mem hp)
      refine List.mem_map.mpr ⟨x.getLast hp - 97, List.mem_range.mpr (by omega), ?_⟩
      show v ++ [97 + (x.getLast hp - 97)] = x
      rw [show 97 + (x.getLast hp - 97) = x.getLast hp by omega, ← h2]
      exact List.dropLast_concat_getLast hp
end MT
/-! The program's text by places; a def's promise in one row; words and lists of them as values. -/
namespace Tw
open PySem PySem.Spec PyProof.Rows L2 MT
def top (i : Nat) : Stmt := PySem.Challenge.pw_onceround_k83_whole_three_roads.main.body.getD i (.Pass ⟨0, 0, 0, 0⟩)

/-- a def of the text stands at the module's name -/
def DefAt (K : PySem.W.Frag) (mg : Str → Option Value) (x : Str) (st : Stmt) : Prop := ∃ f fd, Fun K x x st f fd ∧ mg x = some (.ref f)
/-- a def and its promise -/
structure Df (P : Program) (w : World) (K : PySem.W.Frag) (mg : Str → Option Value) (base : Heap) (k : Nat) (x : Str) (ps : List Str) (sp : Sp) : Prop where
  ex : ∃ f fd, mg x = some (.ref f) ∧ PySem.W.keepIn K (.ref f) = true ∧ Binds K fd ps [] ∧ FnOk P w K mg base CX0 k f fd ps sp
section
variable {P : Program} {w : World} {K : PySem.W.Frag} {mg : Str → Option Value} {base : Heap}
theorem df_of {x : Str} {st : Stmt} {N ps : List Str} {k : Nat} {sp : Sp} (d : DefAt K mg x st) (S : FnScope N ps (defScope st))
    (hb : ∀ (kV doc pm : Value) (an : Option Addr) (cdv ct : Value) (us : List Value), us.length = ps.length → bindArgs (PySem.W.fnOf x x (defArgs st) (defBody st) (defScope st) .none kV doc pm an cdv ct) ⟨us, []⟩ = pure (ps.zip us))
    (len : ∀ vs H Q E, sp vs H Q E → vs.length = ps.length)
    (hbody : ∀ (f : Addr) (cdv : Value) (A : Around) (outer : List Env) (s : Shared) (H : Hp) (vs : List V) (Q : VK) (E : XK), Room k (A.deeper (envOfC x (defScope st) s.heap.objs.size f cdv)) → sp vs H Q E →
      ∃ t, PSs (cxOf CX0 P w K mg base N x (defScope st) f cdv A outer s H E).nox (defBody st) t ∧ t { nx := fun _ H' => Q .non H', rt := Q } (start N vs) H) : Df P w K mg base (k + 1) x ps sp := by
  obtain ⟨f, fd, F, hm⟩ := d
  exact ⟨f, fd, hm, F.kp, F.binds hb, F.ok S len fun cdv A outer s H vs Q E hr h => hbody f cdv A outer s H vs Q E hr h⟩
theorem Df.imp {j k : Nat} {x : Str} {ps : List Str} {sp sp' : Sp} (d : Df P w K mg base j x ps sp) (hk : j ≤ k) (h : ∀ vs H Q E, sp' vs H Q E → sp vs H Q E) : Df P w K mg base k x ps sp' := by
  obtain ⟨f, fd, h1, h2, h3, h4⟩ := d.ex
  exact ⟨f, fd, h1, h2, h3, (h4.mono hk).imp h⟩
end
section
variable {X : Cx} {k : Nat} {x : Str} {ps : List Str} {sp : Sp} {p pos : Pos} {e : Expr} {es : List Expr} {t : TA}
/-- a call of such a def -/
theorem pe_fn {j : Nat} (G : Df X.prog X.w X.K X.mg X.base j x ps sp) (hr : Room k X.A) (ha : PA X (e :: es) t) (hg : Gl X x := by rfl) (hk : j ≤ k := by decide) (hdb : (x == ("__debug__" : Str)) = false := by decide)
    (he : starEach (e :: es) X.env = (false, eval e X.env) :: starEach es X.env := by rfl) (hpl : (backTo pos (starEach es X.env)).any (·.1) = false := by rfl) : PE X (.Call (.Name x p) (e :: es) [] pos) (tCall sp [] E0 t) := by
  obtain ⟨f, fd, h1, h2, h3, h4⟩ := G.ex
  exact pe_call h4 (hr.mono hk) hg h1 h2 h3 .nil pass0 ha hdb he hpl
end

/-! ### words as values -/
/-- the text of a word -/
abbrev sV (w : Wd) : V := .str ⟨w.toArray⟩
abbrev sL (ws : List Wd) : List V := ws.map sV
theorem sV_inj {x y : Wd} (h : sV x = sV y) : x = y := by
  injection h with h
  injection h with h
  have := congrArg Array.toList h
  simpa using this
theorem dec_sV (x y : Wd) : decide (sV x = sV y) = decide (x = y) := by
  by_cases e : x = y
  · subst e; simp
  · rw [decide_eq_false e, decide_eq_false fun h => e (sV_inj h)]
theorem S_len (w : Wd) : (⟨w.toArray⟩ : Str).length = w.length := by simp [Str.length]
theorem S_cat (a b : Wd) : (⟨a.toArray⟩ : Str) ++ (⟨b.toArray⟩ : Str) = ⟨(a ++ b).toArray⟩ := by
  show (⟨a.toArray ++ b.toArray⟩ : Str) = _
  simp
theorem cut_S (w : Wd) (lo hi : Option Int) : cutS ⟨w.toArray⟩ lo hi = ⟨((w.drop (HT.sIx w.length 0 lo)).take (HT.sIx w.length w.length hi - HT.sIx w.length 0 lo)).toArray⟩ := by
  unfold cutS
  simp [Str.length]
theorem cut_bgn (w : Wd) : cutS ⟨w.toArray⟩ none (some (-1)) = ⟨(bgn w).toArray⟩ := by
  rw [cut_S]
  congr 2
  show (w.drop 0).take (HT.sIx w.length w.length (some (-1)) - 0) = w.dropLast
  have : HT.sIx w.length w.length (some (-1)) = w.length - 1 := by
    show (if (-1 : Int) < 0 then ((-1 : Int) + (w.length : Int)).toNat else min (-1 : Int).toNat w.length) = w.length - 1
    rw [if_pos (by decide)]; omega
  rw [this, List.drop_zero, Nat.sub_zero, List.dropLast_eq_take]
theorem cut_enn (w : Wd) : cutS ⟨w.toArray⟩ (some 1) none = ⟨(enn w).toArray⟩ := by
  rw [cut_S]
  congr 2
  show (w.drop (HT.sIx w.length 0 (some 1))).take (w.length - HT.sIx w.length 0 (some 1)) = w.tail
  have : HT.sIx w.length 0 (some 1) = min 1 w.length := HT.sIx_nat w.length 0 1
  rw [this]
  cases w with
  | nil => rfl
  | cons c r =>
    rw [show min 1 (c :: r).length = 1 by rw [List.length_cons]; omega]
    show r.take (r.length + 1 - 1) = r
    rw [Nat.add_sub_cancel, List.take_length]
theorem lt_S (x y : Wd) : decide ((⟨x.toArray⟩ : Str).cps.toList < (⟨y.toArray⟩ : Str).cps.toList) = ltw x y := rfl
theorem same_upd {H : Hp} {p : Addr} {o : HO} (h : H p = none) : Same H (upd H p o) := fun b x e => by
  rw [upd_ne (ne_of_none e h)]
  exact e
end Tw
/-! The defs by places, their names by slot, what the walk asks of the top. Printed by gentt.py. -/
namespace Tw
open PySem PySem.Spec PyProof.Rows L2 MT

abbrev s_begin_of : Stmt := top 13
theorem sc_begin_of : FnScope ["word"] ["word"] (defScope s_begin_of) := ⟨rfl, rfl, rfl, by decide +kernel, rfl, by decide +kernel, by decide +kernel⟩
theorem bd_begin_of : ∀ (kV doc pm : Value) (an : Option Addr) (cdv ct : Value) (us : List Value), us.length = (["word"] : List Str).length → bindArgs (PySem.W.fnOf "begin_of" "begin_of" (defArgs s_begin_of) (defBody s_begin_of) (defScope s_begin_of) .none kV doc pm an cdv ct) ⟨us, []⟩ = pure ((["word"] : List Str).zip us) :=
  fun _ _ _ _ _ _ us hl => match us, hl with | [_], _ => rfl
abbrev s_end_of : Stmt := top 14
theorem sc_end_of : FnScope ["word"] ["word"] (defScope s_end_of) := ⟨rfl, rfl, rfl, by decide +kernel, rfl, by decide +kernel, by decide +kernel⟩
theorem bd_end_of : ∀ (kV doc pm : Value) (an : Option Addr) (cdv ct : Value) (us : List Value), us.length = (["word"] : List Str).length → bindArgs (PySem.W.fnOf "end_of" "end_of" (defArgs s_end_of) (defBody s_end_of) (defScope s_end_of) .none kV doc pm an cdv ct) ⟨us, []⟩ = pure ((["word"] : List Str).zip us) :=
  fun _ _ _ _ _ _ us hl => match us, hl with | [_], _ => rfl
abbrev s_is_sound : Stmt := top 15
theorem sc_is_sound : FnScope ["word", "sign"] ["word"] (defScope s_is_sound) := ⟨rfl, rfl, rfl, by decide +kernel, rfl, by decide +kernel, by decide +kernel⟩
theorem bd_is_sound : ∀ (kV doc pm : Value) (an : Option Addr) (cdv ct : Value) (us : List Value), us.length = (["word"] : List Str).length → bindArgs (PySem.W.fnOf "is_sound" "is_sound" (defArgs s_is_sound) (defBody s_is_sound) (defScope s_is_sound) .none kV doc pm an cdv ct) ⟨us, []⟩ = pure ((["word"] : List Str).zip us) :=
  fun _ _ _ _ _ _ us hl => match us, hl with | [_], _ => rfl
abbrev s_Web_init : Stmt := inClass (top 16) 0
theorem sc_Web_init : FnScope ["self", "words", "word"] ["self", "words"] (defScope s_Web_init) := ⟨rfl, rfl, rfl, by decide +kernel, rfl, by decide +kernel, by decide +kernel⟩
theorem bd_Web_init : ∀ (kV doc pm : Value) (an : Option Addr) (cdv ct : Value) (us : List Value), us.length = (["self", "words"] : List Str).length → bindArgs (PySem.W.fnOf "__init__" "Web.__init__" (defArgs s_Web_init) (defBody s_Web_init) (defScope s_Web_init) .none kV doc pm an cdv ct) ⟨us, []⟩ = pure ((["self", "words"] : List Str).zip us) :=
  fun _ _ _ _ _ _ us hl => match us, hl with | [_, _], _ => rfl
abbrev s_pieces : Stmt := top 17
theorem sc_pieces : FnScope ["web", "found", "word"] ["web"] (defScope s_pieces) := ⟨rfl, rfl, rfl, by decide +kernel, rfl, by decide +kernel, by decide +kernel⟩
theorem bd_pieces : ∀ (kV doc pm : Value) (an : Option Addr) (cdv ct : Value) (us : List Value), us.length = (["web"] : List Str).length → bindArgs (PySem.W.fnOf "pieces" "pieces" (defArgs s_pieces) (defBody s_pieces) (defScope s_pieces) .none kV doc pm an cdv ct) ⟨us, []⟩ = pure ((["web"] : List Str).zip us) :=
  fun _ _ _ _ _ _ us hl => match us, hl with | [_], _ => rfl
abbrev s_outs : Stmt := top 18
theorem sc_outs : FnScope ["web", "piece", "word"] ["web", "piece"] (defScope s_outs) := ⟨rfl, rfl, rfl, by decide +kernel, rfl, by decide +kernel, by decide +kernel⟩
theorem bd_outs : ∀ (kV doc pm : Value) (an : Option Addr) (cdv ct : Value) (us : List Value), us.length = (["web", "piece"] : List Str).length → bindArgs (PySem.W.fnOf "outs" "outs" (defArgs s_outs) (defBody s_outs) (defScope s_outs) .none kV doc pm an cdv ct) ⟨us, []⟩ = pure ((["web", "piece"] : List Str).zip us) :=
  fun _ _ _ _ _ _ us hl => match us, hl with | [_, _], _ => rfl
abbrev s_ins : Stmt := top 19
theorem sc_ins : FnScope ["web", "piece", "word"] ["web", "piece"] (defScope s_ins) := ⟨rfl, rfl, rfl, by decide +kernel, rfl, by decide +kernel, by decide +kernel⟩
theorem bd_ins : ∀ (kV doc pm : Value) (an : Option Addr) (cdv ct : Value) (us : List Value), us.length = (["web", "piece"] : List Str).length → bindArgs (PySem.W.fnOf "ins" "ins" (defArgs s_ins) (defBody s_ins) (defScope s_ins) .none kV doc pm an cdv ct) ⟨us, []⟩ = pure ((["web", "piece"] : List Str).zip us) :=
  fun _ _ _ _ _ _ us hl => match us, hl with | [_, _], _ => rfl
abbrev s_excess : Stmt := top 20
theorem sc_excess : FnScope ["web", "some", "total", "piece"] ["web", "some"] (defScope s_excess) := ⟨rfl, rfl, rfl, by decide +kernel, rfl, by decide +kernel, by decide +kernel⟩
theorem bd_excess : ∀ (kV doc pm : Value) (an : Option Addr) (cdv ct : Value) (us : List Value), us.length = (["web", "some"] : List Str).length → bindArgs (PySem.W.fnOf "excess" "excess" (defArgs s_excess) (defBody s_excess) (defScope s_excess) .none kV doc pm an cdv ct) ⟨us, []⟩ = pure ((["web", "some"] : List Str).zip us) :=
  fun _ _ _ _ _ _ us hl => match us, hl with | [_, _], _ => rfl
abbrev s_hanging : Stmt := top 21
theorem sc_hanging : FnScope ["web", "piece", "met", "waiting", "here", "other", "word"] ["web", "piece"] (defScope s_hanging) := ⟨rfl, rfl, rfl, by decide +kernel, rfl, by decide +kernel, by decide +kernel⟩
theorem bd_hanging : ∀ (kV doc pm : Value) (an : Option Addr) (cdv ct : Value) (us : List Value), us.length = (["web", "piece"] : List Str).length → bindArgs (PySem.W.fnOf "hanging" "hanging" (defArgs s_hanging) (defBody s_hanging) (defScope s_hanging) .none kV doc pm an cdv ct) ⟨us, []⟩ = pure ((["web", "piece"] : List Str).zip us) :=
  fun _ _ _ _ _ _ us hl => match us, hl with | [_, _], _ => rfl
abbrev s_apart_paper : Stmt := top 23
theorem sc_apart_paper : FnScope ["web", "every", "found"] ["web"] (defScope s_apart_paper) := ⟨rfl, rfl, rfl, by decide +kernel, rfl, by decide +kernel, by decide +kernel⟩
theorem bd_apart_paper : ∀ (kV doc pm : Value) (an : Option Addr) (cdv ct : Value) (us : List Value), us.length = (["web"] : List Str).length → bindArgs (PySem.W.fnOf "apart_paper" "apart_paper" (defArgs s_apart_paper) (defBody s_apart_paper) (defScope s_apart_paper) .none kV doc pm an cdv ct) ⟨us, []⟩ = pure ((["web"] : List Str).zip us) :=
  fun _ _ _ _ _ _ us hl => match us, hl with | [_], _ => rfl
abbrev s_why_no_ring : Stmt := top 24
theorem sc_why_no_ring : FnScope ["web", "piece"] ["web"] (defScope s_why_no_ring) := ⟨rfl, rfl, rfl, by decide +kernel, rfl, by decide +kernel, by decide +kernel⟩
theorem bd_why_no_ring : ∀ (kV doc pm : Value) (an : Option Addr) (cdv ct : Value) (us : List Value), us.length = (["web"] : List Str).length → bindArgs (PySem.W.fnOf "why_no_ring" "why_no_ring" (defArgs s_why_no_ring) (defBody s_why_no_ring) (defScope s_why_no_ring) .none kV doc pm an cdv ct) ⟨us, []⟩ = pure ((["web"] : List Str).zip us) :=
  fun _ _ _ _ _ _ us hl => match us, hl with | [_], _ => rfl
abbrev s_windows : Stmt := top 26
theorem sc_windows : FnScope ["text", "length", "ring", "longer", "k"] ["text", "length", "ring"] (defScope s_windows) := ⟨rfl, rfl, rfl, by decide +kernel, rfl, by decide +kernel, by decide +kernel⟩
theorem bd_windows : ∀ (kV doc pm : Value) (an : Option Addr) (cdv ct : Value) (us : List Value), us.length = (["text", "length", "ring"] : List Str).length → bindArgs (PySem.W.fnOf "windows" "windows" (defArgs s_windows) (defBody s_windows) (defScope s_windows) .none kV doc pm an cdv ct) ⟨us, []⟩ = pure ((["text", "length", "ring"] : List Str).zip us) :=
  fun _ _ _ _ _ _ us hl => match us, hl with | [_, _, _], _ => rfl
abbrev s_has_all : Stmt := top 28
theorem sc_has_all : FnScope ["web", "found"] ["web", "found"] (defScope s_has_all) := ⟨rfl, rfl, rfl, by decide +kernel, rfl, by decide +kernel, by decide +kernel⟩
theorem bd_has_all : ∀ (kV doc pm : Value) (an : Option Addr) (cdv ct : Value) (us : List Value), us.length = (["web", "found"] : List Str).length → bindArgs (PySem.W.fnOf "has_all" "has_all" (defArgs s_has_all) (defBody s_has_all) (defScope s_has_all) .none kV doc pm an cdv ct) ⟨us, []⟩ = pure ((["web", "found"] : List Str).zip us) :=
  fun _ _ _ _ _ _ us hl => match us, hl with | [_, _], _ => rfl
abbrev s_is_ring : Stmt := top 29
theorem sc_is_ring : FnScope ["web", "text", "found"] ["web", "text"] (defScope s_is_ring) := ⟨rfl, rfl, rfl, by decide +kernel, rfl, by decide +kernel, by decide +kernel⟩
theorem bd_is_ring : ∀ (kV doc pm : Value) (an : Option Addr) (cdv ct : Value) (us : List Value), us.length = (["web", "text"] : List Str).length → bindArgs (PySem.W.fnOf "is_ring" "is_ring" (defArgs s_is_ring) (defBody s_is_ring) (defScope s_is_ring) .none kV doc pm an cdv ct) ⟨us, []⟩ = pure ((["web", "text"] : List Str).zip us) :=
  fun _ _ _ _ _ _ us hl => match us, hl with | [_, _], _ => rfl
abbrev s_swapped_in : Stmt := top 31
theorem sc_swapped_in : FnScope ["rows", "k", "at", "row"] ["rows", "k"] (defScope s_swapped_in) := ⟨rfl, rfl, rfl, by decide +kernel, rfl, by decide +kernel, by decide +kernel⟩
theorem bd_swapped_in : ∀ (kV doc pm : Value) (an : Option Addr) (cdv ct : Value) (us : List Value), us.length = (["rows", "k"] : List Str).length → bindArgs (PySem.W.fnOf "swapped_in" "swapped_in" (defArgs s_swapped_in) (defBody s_swapped_in) (defScope s_swapped_in) .none kV doc pm an cdv ct) ⟨us, []⟩ = pure ((["rows", "k"] : List Str).zip us) :=
  fun _ _ _ _ _ _ us hl => match us, hl with | [_, _], _ => rfl
abbrev s_determinant : Stmt := top 32
theorem sc_determinant : FnScope ["square", "rows", "many", "sign", "last", "k", "i", "j", "row"] ["square"] (defScope s_determinant) := ⟨rfl, rfl, rfl, by decide +kernel, rfl, by decide +kernel, by decide +kernel⟩
theorem bd_determinant : ∀ (kV doc pm : Value) (an : Option Addr) (cdv ct : Value) (us : List Value), us.length = (["square"] : List Str).length → bindArgs (PySem.W.fnOf "determinant" "determinant" (defArgs s_determinant) (defBody s_determinant) (defScope s_determinant) .none kV doc pm an cdv ct) ⟨us, []⟩ = pure ((["square"] : List Str).zip us) :=
  fun _ _ _ _ _ _ us hl => match us, hl with | [_], _ => rfl
abbrev s_ways_toward : Stmt := top 34
theorem sc_ways_toward : FnScope ["web", "piece", "every", "found", "other"] ["web", "piece"] (defScope s_ways_toward) := ⟨rfl, rfl, rfl, by decide +kernel, rfl, by decide +kernel, by decide +kernel⟩
theorem bd_ways_toward : ∀ (kV doc pm : Value) (an : Option Addr) (cdv ct : Value) (us : List Value), us.length = (["web", "piece"] : List Str).length → bindArgs (PySem.W.fnOf "ways_toward" "ways_toward" (defArgs s_ways_toward) (defBody s_ways_toward) (defScope s_ways_toward) .none kV doc pm an cdv ct) ⟨us, []⟩ = pure ((["web", "piece"] : List Str).zip us) :=
  fun _ _ _ _ _ _ us hl => match us, hl with | [_, _], _ => rfl
abbrev s_choices_counted : Stmt := top 35
theorem sc_choices_counted : FnScope ["ways", "order", "place", "k", "square", "text", "row", "word", "there"] ["ways"] (defScope s_choices_counted) := ⟨rfl, rfl, rfl, by decide +kernel, rfl, by decide +kernel, by decide +kernel⟩
theorem bd_choices_counted : ∀ (kV doc pm : Value) (an : Option Addr) (cdv ct : Value) (us : List Value), us.length = (["ways"] : List Str).length → bindArgs (PySem.W.fnOf "choices_counted" "choices_counted" (defArgs s_choices_counted) (defBody s_choices_counted) (defScope s_choices_counted) .none kV doc pm an cdv ct) ⟨us, []⟩ = pure ((["ways"] : List Str).zip us) :=
  fun _ _ _ _ _ _ us hl => match us, hl with | [_], _ => rfl
abbrev s_tree_count : Stmt := top 36
theorem sc_tree_count : FnScope ["web", "piece"] ["web", "piece"] (defScope s_tree_count) := ⟨rfl, rfl, rfl, by decide +kernel, rfl, by decide +kernel, by decide +kernel⟩
theorem bd_tree_count : ∀ (kV doc pm : Value) (an : Option Addr) (cdv ct : Value) (us : List Value), us.length = (["web", "piece"] : List Str).length → bindArgs (PySem.W.fnOf "tree_count" "tree_count" (defArgs s_tree_count) (defBody s_tree_count) (defScope s_tree_count) .none kV doc pm an cdv ct) ⟨us, []⟩ = pure ((["web", "piece"] : List Str).zip us) :=
  fun _ _ _ _ _ _ us hl => match us, hl with | [_, _], _ => rfl
abbrev s_is_tree : Stmt := top 37
theorem sc_is_tree : FnScope ["web", "piece", "tree", "ways", "chosen", "word", "text"] ["web", "piece", "tree"] (defScope s_is_tree) := ⟨rfl, rfl, rfl, by decide +kernel, rfl, by decide +kernel, by decide +kernel⟩
theorem bd_is_tree : ∀ (kV doc pm : Value) (an : Option Addr) (cdv ct : Value) (us : List Value), us.length = (["web", "piece", "tree"] : List Str).length → bindArgs (PySem.W.fnOf "is_tree" "is_tree" (defArgs s_is_tree) (defBody s_is_tree) (defScope s_is_tree) .none kV doc pm an cdv ct) ⟨us, []⟩ = pure ((["web", "piece", "tree"] : List Str).zip us) :=
  fun _ _ _ _ _ _ us hl => match us, hl with | [_, _, _], _ => rfl
abbrev s_comes_to : Stmt := top 38
theorem sc_comes_to : FnScope ["chosen", "text", "piece", "here", "step"] ["chosen", "text", "piece"] (defScope s_comes_to) := ⟨rfl, rfl, rfl, by decide +kernel, rfl, by decide +kernel, by decide +kernel⟩
theorem bd_comes_to : ∀ (kV doc pm : Value) (an : Option Addr) (cdv ct : Value) (us : List Value), us.length = (["chosen", "text", "piece"] : List Str).length → bindArgs (PySem.W.fnOf "comes_to" "comes_to" (defArgs s_comes_to) (defBody s_comes_to) (defScope s_comes_to) .none kV doc pm an cdv ct) ⟨us, []⟩ = pure ((["chosen", "text", "piece"] : List Str).zip us) :=
  fun _ _ _ _ _ _ us hl => match us, hl with | [_, _, _], _ => rfl
abbrev s_product_to : Stmt := top 40
theorem sc_product_to : FnScope ["many", "made", "k"] ["many"] (defScope s_product_to) := ⟨rfl, rfl, rfl, by decide +kernel, rfl, by decide +kernel, by decide +kernel⟩
theorem bd_product_to : ∀ (kV doc pm : Value) (an : Option Addr) (cdv ct : Value) (us : List Value), us.length = (["many"] : List Str).length → bindArgs (PySem.W.fnOf "product_to" "product_to" (defArgs s_product_to) (defBody s_product_to) (defScope s_product_to) .none kV doc pm an cdv ct) ⟨us, []⟩ = pure ((["many"] : List Str).zip us) :=
  fun _ _ _ _ _ _ us hl => match us, hl with | [_], _ => rfl
abbrev s_by_begins : Stmt := top 41
theorem sc_by_begins : FnScope ["words", "found", "word"] ["words"] (defScope s_by_begins) := ⟨rfl, rfl, rfl, by decide +kernel, rfl, by decide +kernel, by decide +kernel⟩
theorem bd_by_begins : ∀ (kV doc pm : Value) (an : Option Addr) (cdv ct : Value) (us : List Value), us.length = (["words"] : List Str).length → bindArgs (PySem.W.fnOf "by_begins" "by_begins" (defArgs s_by_begins) (defBody s_by_begins) (defScope s_by_begins) .none kV doc pm an cdv ct) ⟨us, []⟩ = pure ((["words"] : List Str).zip us) :=
  fun _ _ _ _ _ _ us hl => match us, hl with | [_], _ => rfl
abbrev s_is_even : Stmt := top 42
theorem sc_is_even : FnScope ["words", "one", "other", "left", "word", "many"] ["words", "one", "other"] (defScope s_is_even) := ⟨rfl, rfl, rfl, by decide +kernel, rfl, by decide +kernel, by decide +kernel⟩
theorem bd_is_even : ∀ (kV doc pm : Value) (an : Option Addr) (cdv ct : Value) (us : List Value), us.length = (["words", "one", "other"] : List Str).length → bindArgs (PySem.W.fnOf "is_even" "is_even" (defArgs s_is_even) (defBody s_is_even) (defScope s_is_even) .none kV doc pm an cdv ct) ⟨us, []⟩ = pure ((["words", "one", "other"] : List Str).zip us) :=
  fun _ _ _ _ _ _ us hl => match us, hl with | [_, _, _], _ => rfl
abbrev s_ways_on : Stmt := top 43
theorem sc_ways_on : FnScope ["words", "one", "other", "ways", "made", "text"] ["words", "one", "other"] (defScope s_ways_on) := ⟨rfl, rfl, rfl, by decide +kernel, rfl, by decide +kernel, by decide +kernel⟩
theorem bd_ways_on : ∀ (kV doc pm : Value) (an : Option Addr) (cdv ct : Value) (us : List Value), us.length = (["words", "one", "other"] : List Str).length → bindArgs (PySem.W.fnOf "ways_on" "ways_on" (defArgs s_ways_on) (defBody s_ways_on) (defScope s_ways_on) .none kV doc pm an cdv ct) ⟨us, []⟩ = pure ((["words", "one", "other"] : List Str).zip us) :=
  fun _ _ _ _ _ _ us hl => match us, hl with | [_, _, _], _ => rfl
abbrev s_ring_count : Stmt := top 44
theorem sc_ring_count : FnScope ["web", "made", "piece"] ["web"] (defScope s_ring_count) := ⟨rfl, rfl, rfl, by decide +kernel, rfl, by decide +kernel, by decide +kernel⟩
theorem bd_ring_count : ∀ (kV doc pm : Value) (an : Option Addr) (cdv ct : Value) (us : List Value), us.length = (["web"] : List Str).length → bindArgs (PySem.W.fnOf "ring_count" "ring_count" (defArgs s_ring_count) (defBody s_ring_count) (defScope s_ring_count) .none kV doc pm an cdv ct) ⟨us, []⟩ = pure ((["web"] : List Str).zip us) :=
  fun _ _ _ _ _ _ us hl => match us, hl with | [_], _ => rfl
abbrev s_without : Stmt := top 45
theorem sc_without : FnScope ["words", "word", "other"] ["words", "word"] (defScope s_without) := ⟨rfl, rfl, rfl, by decide +kernel, rfl, by decide +kernel, by decide +kernel⟩
theorem bd_without : ∀ (kV doc pm : Value) (an : Option Addr) (cdv ct : Value) (us : List Value), us.length = (["words", "word"] : List Str).length → bindArgs (PySem.W.fnOf "without" "without" (defArgs s_without) (defBody s_without) (defScope s_without) .none kV doc pm an cdv ct) ⟨us, []⟩ = pure ((["words", "word"] : List Str).zip us) :=
  fun _ _ _ _ _ _ us hl => match us, hl with | [_, _], _ => rfl
abbrev s_order_by : Stmt := top 46
theorem sc_order_by : FnScope ["words", "here", "goal", "number", "left", "found", "word", "many"] ["words", "here", "goal", "number"] (defScope s_order_by) := ⟨rfl, rfl, rfl, by decide +kernel, rfl, by decide +kernel, by decide +kernel⟩
theorem bd_order_by : ∀ (kV doc pm : Value) (an : Option Addr) (cdv ct : Value) (us : List Value), us.length = (["words", "here", "goal", "number"] : List Str).length → bindArgs (PySem.W.fnOf "order_by" "order_by" (defArgs s_order_by) (defBody s_order_by) (defScope s_order_by) .none kV doc pm an cdv ct) ⟨us, []⟩ = pure ((["words", "here", "goal", "number"] : List Str).zip us) :=
  fun _ _ _ _ _ _ us hl => match us, hl with | [_, _, _, _], _ => rfl
abbrev s_order_number : Stmt := top 47
theorem sc_order_number : FnScope ["words", "order", "goal", "left", "number", "mine", "word"] ["words", "order", "goal"] (defScope s_order_number) := ⟨rfl, rfl, rfl, by decide +kernel, rfl, by decide +kernel, by decide +kernel⟩
theorem bd_order_number : ∀ (kV doc pm : Value) (an : Option Addr) (cdv ct : Value) (us : List Value), us.length = (["words", "order", "goal"] : List Str).length → bindArgs (PySem.W.fnOf "order_number" "order_number" (defArgs s_order_number) (defBody s_order_number) (defScope s_order_number) .none kV doc pm an cdv ct) ⟨us, []⟩ = pure ((["words", "order", "goal"] : List Str).zip us) :=
  fun _ _ _ _ _ _ us hl => match us, hl with | [_, _, _], _ => rfl
abbrev s_ring_by : Stmt := top 48
theorem sc_ring_by : FnScope ["web", "number", "first", "order", "word"] ["web", "number"] (defScope s_ring_by) := ⟨rfl, rfl, rfl, by decide +kernel, rfl, by decide +kernel, by decide +kernel⟩
theorem bd_ring_by : ∀ (kV doc pm : Value) (an : Option Addr) (cdv ct : Value) (us : List Value), us.length = (["web", "number"] : List Str).length → bindArgs (PySem.W.fnOf "ring_by" "ring_by" (defArgs s_ring_by) (defBody s_ring_by) (defScope s_ring_by) .none kV doc pm an cdv ct) ⟨us, []⟩ = pure ((["web", "number"] : List Str).zip us) :=
  fun _ _ _ _ _ _ us hl => match us, hl with | [_, _], _ => rfl
abbrev s_ring_number : Stmt := top 49
theorem sc_ring_number : FnScope ["web", "ring", "order"] ["web", "ring"] (defScope s_ring_number) := ⟨rfl, rfl, rfl, by decide +kernel, rfl, by decide +kernel, by decide +kernel⟩
theorem bd_ring_number : ∀ (kV doc pm : Value) (an : Option Addr) (cdv ct : Value) (us : List Value), us.length = (["web", "ring"] : List Str).length → bindArgs (PySem.W.fnOf "ring_number" "ring_number" (defArgs s_ring_number) (defBody s_ring_number) (defScope s_ring_number) .none kV doc pm an cdv ct) ⟨us, []⟩ = pure ((["web", "ring"] : List Str).zip us) :=
  fun _ _ _ _ _ _ us hl => match us, hl with | [_, _], _ => rfl
abbrev s_Desk_init : Stmt := inClass (top 51) 0
theorem sc_Desk_init : FnScope ["self", "web", "paper"] ["self", "web"] (defScope s_Desk_init) := ⟨rfl, rfl, rfl, by decide +kernel, rfl, by decide +kernel, by decide +kernel⟩
theorem bd_Desk_init : ∀ (kV doc pm : Value) (an : Option Addr) (cdv ct : Value) (us : List Value), us.length = (["self", "web"] : List Str).length → bindArgs (PySem.W.fnOf "__init__" "Desk.__init__" (defArgs s_Desk_init) (defBody s_Desk_init) (defScope s_Desk_init) .none kV doc pm an cdv ct) ⟨us, []⟩ = pure ((["self", "web"] : List Str).zip us) :=
  fun _ _ _ _ _ _ us hl => match us, hl with | [_, _], _ => rfl
abbrev s_Desk_done : Stmt := inClass (top 51) 2
theorem sc_Desk_done : FnScope ["self"] ["self"] (defScope s_Desk_done) := ⟨rfl, rfl, rfl, by decide +kernel, rfl, by decide +kernel, by decide +kernel⟩
theorem bd_Desk_done : ∀ (kV doc pm : Value) (an : Option Addr) (cdv ct : Value) (us : List Value), us.length = (["self"] : List Str).length → bindArgs (PySem.W.fnOf "done" "Desk.done" (defArgs s_Desk_done) (defBody s_Desk_done) (defScope s_Desk_done) .none kV doc pm an cdv ct) ⟨us, []⟩ = pure ((["self"] : List Str).zip us) :=
  fun _ _ _ _ _ _ us hl => match us, hl with | [_], _ => rfl
abbrev s_Desk_ways_by : Stmt := inClass (top 51) 3
theorem sc_Desk_ways_by : FnScope ["self", "word", "rest", "one"] ["self", "word"] (defScope s_Desk_ways_by) := ⟨rfl, rfl, rfl, by decide +kernel, rfl, by decide +kernel, by decide +kernel⟩
theorem bd_Desk_ways_by : ∀ (kV doc pm : Value) (an : Option Addr) (cdv ct : Value) (us : List Value), us.length = (["self", "word"] : List Str).length → bindArgs (PySem.W.fnOf "ways_by" "Desk.ways_by" (defArgs s_Desk_ways_by) (defBody s_Desk_ways_by) (defScope s_Desk_ways_by) .none kV doc pm an cdv ct) ⟨us, []⟩ = pure ((["self", "word"] : List Str).zip us) :=
  fun _ _ _ _ _ _ us hl => match us, hl with | [_, _], _ => rfl
abbrev s_Desk_steps : Stmt := inClass (top 51) 4
theorem sc_Desk_steps : FnScope ["self", "here", "found", "word", "many"] ["self"] (defScope s_Desk_steps) := ⟨rfl, rfl, rfl, by decide +kernel, rfl, by decide +kernel, by decide +kernel⟩
theorem bd_Desk_steps : ∀ (kV doc pm : Value) (an : Option Addr) (cdv ct : Value) (us : List Value), us.length = (["self"] : List Str).length → bindArgs (PySem.W.fnOf "steps" "Desk.steps" (defArgs s_Desk_steps) (defBody s_Desk_steps) (defScope s_Desk_steps) .none kV doc pm an cdv ct) ⟨us, []⟩ = pure ((["self"] : List Str).zip us) :=
  fun _ _ _ _ _ _ us hl => match us, hl with | [_], _ => rfl
abbrev s_Desk_ahead : Stmt := inClass (top 51) 7
theorem sc_Desk_ahead : FnScope ["self"] ["self"] (defScope s_Desk_ahead) := ⟨rfl, rfl, rfl, by decide +kernel, rfl, by decide +kernel, by decide +kernel⟩
theorem bd_Desk_ahead : ∀ (kV doc pm : Value) (an : Option Addr) (cdv ct : Value) (us : List Value), us.length = (["self"] : List Str).length → bindArgs (PySem.W.fnOf "ahead" "Desk.ahead" (defArgs s_Desk_ahead) (defBody s_Desk_ahead) (defScope s_Desk_ahead) .none kV doc pm an cdv ct) ⟨us, []⟩ = pure ((["self"] : List Str).zip us) :=
  fun _ _ _ _ _ _ us hl => match us, hl with | [_], _ => rfl
abbrev s_Desk_write : Stmt := inClass (top 51) 8
theorem sc_Desk_write : FnScope ["self", "letter", "less", "word", "many"] ["self", "letter"] (defScope s_Desk_write) := ⟨rfl, rfl, rfl, by decide +kernel, rfl, by decide +kernel, by decide +kernel⟩
theorem bd_Desk_write : ∀ (kV doc pm : Value) (an : Option Addr) (cdv ct : Value) (us : List Value), us.length = (["self", "letter"] : List Str).length → bindArgs (PySem.W.fnOf "write" "Desk.write" (defArgs s_Desk_write) (defBody s_Desk_write) (defScope s_Desk_write) .none kV doc pm an cdv ct) ⟨us, []⟩ = pure ((["self", "letter"] : List Str).zip us) :=
  fun _ _ _ _ _ _ us hl => match us, hl with | [_, _], _ => rfl
abbrev s_ask_ring : Stmt := top 53
theorem sc_ask_ring : FnScope ["web", "ring"] ["web", "ring"] (defScope s_ask_ring) := ⟨rfl, rfl, rfl, by decide +kernel, rfl, by decide +kernel, by decide +kernel⟩
theorem bd_ask_ring : ∀ (kV doc pm : Value) (an : Option Addr) (cdv ct : Value) (us : List Value), us.length = (["web", "ring"] : List Str).length → bindArgs (PySem.W.fnOf "ask_ring" "ask_ring" (defArgs s_ask_ring) (defBody s_ask_ring) (defScope s_ask_ring) .none kV doc pm an cdv ct) ⟨us, []⟩ = pure ((["web", "ring"] : List Str).zip us) :=
  fun _ _ _ _ _ _ us hl => match us, hl with | [_, _], _ => rfl
abbrev s_pieces_along : Stmt := top 54
theorem sc_pieces_along : FnScope ["web", "ring", "found", "window"] ["web", "ring"] (defScope s_pieces_along) := ⟨rfl, rfl, rfl, by decide +kernel, rfl, by decide +kernel, by decide +kernel⟩
theorem bd_pieces_along : ∀ (kV doc pm : Value) (an : Option Addr) (cdv ct : Value) (us : List Value), us.length = (["web", "ring"] : List Str).length → bindArgs (PySem.W.fnOf "pieces_along" "pieces_along" (defArgs s_pieces_along) (defBody s_pieces_along) (defScope s_pieces_along) .none kV doc pm an cdv ct) ⟨us, []⟩ = pure ((["web", "ring"] : List Str).zip us) :=
  fun _ _ _ _ _ _ us hl => match us, hl with | [_, _], _ => rfl
abbrev s_done : Stmt := top 55
theorem sc_done : FnScope ["ring", "deed", "a", "b", "c", "d"] ["ring", "deed"] (defScope s_done) := ⟨rfl, rfl, rfl, by decide +kernel, rfl, by decide +kernel, by decide +kernel⟩
theorem bd_done : ∀ (kV doc pm : Value) (an : Option Addr) (cdv ct : Value) (us : List Value), us.length = (["ring", "deed"] : List Str).length → bindArgs (PySem.W.fnOf "done" "done" (defArgs s_done) (defBody s_done) (defScope s_done) .none kV doc pm an cdv ct) ⟨us, []⟩ = pure ((["ring", "deed"] : List Str).zip us) :=
  fun _ _ _ _ _ _ us hl => match us, hl with | [_, _], _ => rfl
abbrev s_next_deed : Stmt := top 56
theorem sc_next_deed : FnScope ["web", "now", "two", "here", "there", "a", "c", "along", "b", "d"] ["web", "now", "two"] (defScope s_next_deed) := ⟨rfl, rfl, rfl, by decide +kernel, rfl, by decide +kernel, by decide +kernel⟩
theorem bd_next_deed : ∀ (kV doc pm : Value) (an : Option Addr) (cdv ct : Value) (us : List Value), us.length = (["web", "now", "two"] : List Str).length → bindArgs (PySem.W.fnOf "next_deed" "next_deed" (defArgs s_next_deed) (defBody s_next_deed) (defScope s_next_deed) .none kV doc pm an cdv ct) ⟨us, []⟩ = pure ((["web", "now", "two"] : List Str).zip us) :=
  fun _ _ _ _ _ _ us hl => match us, hl with | [_, _, _], _ => rfl
abbrev s_led : Stmt := top 57
theorem sc_led : FnScope ["web", "one", "two", "deeds", "deed"] ["web", "one", "two"] (defScope s_led) := ⟨rfl, rfl, rfl, by decide +kernel, rfl, by decide +kernel, by decide +kernel⟩
theorem bd_led : ∀ (kV doc pm : Value) (an : Option Addr) (cdv ct : Value) (us : List Value), us.length = (["web", "one", "two"] : List Str).length → bindArgs (PySem.W.fnOf "led" "led" (defArgs s_led) (defBody s_led) (defScope s_led) .none kV doc pm an cdv ct) ⟨us, []⟩ = pure ((["web", "one", "two"] : List Str).zip us) :=
  fun _ _ _ _ _ _ us hl => match us, hl with | [_, _, _], _ => rfl
abbrev s_parts_of : Stmt := top 59
theorem sc_parts_of : FnScope ["web", "ring", "gone", "word", "home", "tree", "orders", "piece"] ["web", "ring"] (defScope s_parts_of) := ⟨rfl, rfl, rfl, by decide +kernel, rfl, by decide +kernel, by decide +kernel⟩
theorem bd_parts_of : ∀ (kV doc pm : Value) (an : Option Addr) (cdv ct : Value) (us : List Value), us.length = (["web", "ring"] : List Str).length → bindArgs (PySem.W.fnOf "parts_of" "parts_of" (defArgs s_parts_of) (defBody s_parts_of) (defScope s_parts_of) .none kV doc pm an cdv ct) ⟨us, []⟩ = pure ((["web", "ring"] : List Str).zip us) :=
  fun _ _ _ _ _ _ us hl => match us, hl with | [_, _], _ => rfl
abbrev s_ways_of : Stmt := top 60
theorem sc_ways_of : FnScope ["web", "tree", "orders", "every", "home", "last", "word", "found", "piece", "order"] ["web", "tree", "orders"] (defScope s_ways_of) := ⟨rfl, rfl, rfl, by decide +kernel, rfl, by decide +kernel, by decide +kernel⟩
theorem bd_ways_of : ∀ (kV doc pm : Value) (an : Option Addr) (cdv ct : Value) (us : List Value), us.length = (["web", "tree", "orders"] : List Str).length → bindArgs (PySem.W.fnOf "ways_of" "ways_of" (defArgs s_ways_of) (defBody s_ways_of) (defScope s_ways_of) .none kV doc pm an cdv ct) ⟨us, []⟩ = pure ((["web", "tree", "orders"] : List Str).zip us) :=
  fun _ _ _ _ _ _ us hl => match us, hl with | [_, _, _], _ => rfl
abbrev s_ring_of : Stmt := top 61
theorem sc_ring_of : FnScope ["web", "tree", "orders", "paper", "ways", "here", "ring", "step", "word"] ["web", "tree", "orders"] (defScope s_ring_of) := ⟨rfl, rfl, rfl, by decide +kernel, rfl, by decide +kernel, by decide +kernel⟩
theorem bd_ring_of : ∀ (kV doc pm : Value) (an : Option Addr) (cdv ct : Value) (us : List Value), us.length = (["web", "tree", "orders"] : List Str).length → bindArgs (PySem.W.fnOf "ring_of" "ring_of" (defArgs s_ring_of) (defBody s_ring_of) (defScope s_ring_of) .none kV doc pm an cdv ct) ⟨us, []⟩ = pure ((["web", "tree", "orders"] : List Str).zip us) :=
  fun _ _ _ _ _ _ us hl => match us, hl with | [_, _, _], _ => rfl
abbrev s__law_power : Stmt := top 63
theorem sc__law_power : FnScope ["base", "many", "made", "k"] ["base", "many"] (defScope s__law_power) := ⟨rfl, rfl, rfl, by decide +kernel, rfl, by decide +kernel, by decide +kernel⟩
theorem bd__law_power : ∀ (kV doc pm : Value) (an : Option Addr) (cdv ct : Value) (us : List Value), us.length = (["base", "many"] : List Str).length → bindArgs (PySem.W.fnOf "_law_power" "_law_power" (defArgs s__law_power) (defBody s__law_power) (defScope s__law_power) .none kV doc pm an cdv ct) ⟨us, []⟩ = pure ((["base", "many"] : List Str).zip us) :=
  fun _ _ _ _ _ _ us hl => match us, hl with | [_, _], _ => rfl
abbrev s__law_stir : Stmt := top 64
theorem sc__law_stir : FnScope ["cell", "k", "m"] ["cell", "k"] (defScope s__law_stir) := ⟨rfl, rfl, rfl, by decide +kernel, rfl, by decide +kernel, by decide +kernel⟩
theorem bd__law_stir : ∀ (kV doc pm : Value) (an : Option Addr) (cdv ct : Value) (us : List Value), us.length = (["cell", "k"] : List Str).length → bindArgs (PySem.W.fnOf "_law_stir" "_law_stir" (defArgs s__law_stir) (defBody s__law_stir) (defScope s__law_stir) .none kV doc pm an cdv ct) ⟨us, []⟩ = pure ((["cell", "k"] : List Str).zip us) :=
  fun _ _ _ _ _ _ us hl => match us, hl with | [_, _], _ => rfl
abbrev s__law_folded : Stmt := top 65
theorem sc__law_folded : FnScope ["script", "many", "found", "k", "cell"] ["script", "many"] (defScope s__law_folded) := ⟨rfl, rfl, rfl, by decide +kernel, rfl, by decide +kernel, by decide +kernel⟩
theorem bd__law_folded : ∀ (kV doc pm : Value) (an : Option Addr) (cdv ct : Value) (us : List Value), us.length = (["script", "many"] : List Str).length → bindArgs (PySem.W.fnOf "_law_folded" "_law_folded" (defArgs s__law_folded) (defBody s__law_folded) (defScope s__law_folded) .none kV doc pm an cdv ct) ⟨us, []⟩ = pure ((["script", "many"] : List Str).zip us) :=
  fun _ _ _ _ _ _ us hl => match us, hl with | [_, _], _ => rfl
abbrev s__law_words : Stmt := top 66
theorem sc__law_words : FnScope ["length", "kinds", "words", "k", "longer", "word", "letter"] ["length", "kinds"] (defScope s__law_words) := ⟨rfl, rfl, rfl, by decide +kernel, rfl, by decide +kernel, by decide +kernel⟩
theorem bd__law_words : ∀ (kV doc pm : Value) (an : Option Addr) (cdv ct : Value) (us : List Value), us.length = (["length", "kinds"] : List Str).length → bindArgs (PySem.W.fnOf "_law_words" "_law_words" (defArgs s__law_words) (defBody s__law_words) (defScope s__law_words) .none kV doc pm an cdv ct) ⟨us, []⟩ = pure ((["length", "kinds"] : List Str).zip us) :=
  fun _ _ _ _ _ _ us hl => match us, hl with | [_, _], _ => rfl
abbrev s__law_behind : Stmt := top 67
theorem sc__law_behind : FnScope ["script", "words", "length", "kinds", "ends", "cells", "behind", "j", "order", "part", "c", "word"] ["script", "words", "length", "kinds"] (defScope s__law_behind) := ⟨rfl, rfl, rfl, by decide +kernel, rfl, by decide +kernel, by decide +kernel⟩
theorem bd__law_behind : ∀ (kV doc pm : Value) (an : Option Addr) (cdv ct : Value) (us : List Value), us.length = (["script", "words", "length", "kinds"] : List Str).length → bindArgs (PySem.W.fnOf "_law_behind" "_law_behind" (defArgs s__law_behind) (defBody s__law_behind) (defScope s__law_behind) .none kV doc pm an cdv ct) ⟨us, []⟩ = pure ((["script", "words", "length", "kinds"] : List Str).zip us) :=
  fun _ _ _ _ _ _ us hl => match us, hl with | [_, _, _, _], _ => rfl
abbrev s__law_by_digits : Stmt := top 68
theorem sc__law_by_digits : FnScope ["words", "part", "some", "word"] ["words", "part"] (defScope s__law_by_digits) := ⟨rfl, rfl, rfl, by decide +kernel, rfl, by decide +kernel, by decide +kernel⟩
theorem bd__law_by_digits : ∀ (kV doc pm : Value) (an : Option Addr) (cdv ct : Value) (us : List Value), us.length = (["words", "part"] : List Str).length → bindArgs (PySem.W.fnOf "_law_by_digits" "_law_by_digits" (defArgs s__law_by_digits) (defBody s__law_by_digits) (defScope s__law_by_digits) .none kV doc pm an cdv ct) ⟨us, []⟩ = pure ((["words", "part"] : List Str).zip us) :=
  fun _ _ _ _ _ _ us hl => match us, hl with | [_, _], _ => rfl
abbrev s__law_even_words : Stmt := top 69
theorem sc__law_even_words : FnScope ["script", "n", "length", "kinds", "words", "behind", "kept", "met", "part", "word", "keep"] ["script", "n", "length", "kinds"] (defScope s__law_even_words) := ⟨rfl, rfl, rfl, by decide +kernel, rfl, by decide +kernel, by decide +kernel⟩
theorem bd__law_even_words : ∀ (kV doc pm : Value) (an : Option Addr) (cdv ct : Value) (us : List Value), us.length = (["script", "n", "length", "kinds"] : List Str).length → bindArgs (PySem.W.fnOf "_law_even_words" "_law_even_words" (defArgs s__law_even_words) (defBody s__law_even_words) (defScope s__law_even_words) .none kV doc pm an cdv ct) ⟨us, []⟩ = pure ((["script", "n", "length", "kinds"] : List Str).zip us) :=
  fun _ _ _ _ _ _ us hl => match us, hl with | [_, _, _, _], _ => rfl
abbrev s__law_size : Stmt := top 70
theorem sc__law_size : FnScope ["n", "sizes"] ["n"] (defScope s__law_size) := ⟨rfl, rfl, rfl, by decide +kernel, rfl, by decide +kernel, by decide +kernel⟩
theorem bd__law_size : ∀ (kV doc pm : Value) (an : Option Addr) (cdv ct : Value) (us : List Value), us.length = (["n"] : List Str).length → bindArgs (PySem.W.fnOf "_law_size" "_law_size" (defArgs s__law_size) (defBody s__law_size) (defScope s__law_size) .none kV doc pm an cdv ct) ⟨us, []⟩ = pure ((["n"] : List Str).zip us) :=
  fun _ _ _ _ _ _ us hl => match us, hl with | [_], _ => rfl
abbrev s__law_written : Stmt := top 71
theorem sc__law_written : FnScope ["web", "ring", "desk", "length", "round_text", "letter"] ["web", "ring"] (defScope s__law_written) := ⟨rfl, rfl, rfl, by decide +kernel, rfl, by decide +kernel, by decide +kernel⟩
theorem bd__law_written : ∀ (kV doc pm : Value) (an : Option Addr) (cdv ct : Value) (us : List Value), us.length = (["web", "ring"] : List Str).length → bindArgs (PySem.W.fnOf "_law_written" "_law_written" (defArgs s__law_written) (defBody s__law_written) (defScope s__law_written) .none kV doc pm an cdv ct) ⟨us, []⟩ = pure ((["web", "ring"] : List Str).zip us) :=
  fun _ _ _ _ _ _ us hl => match us, hl with | [_, _], _ => rfl
abbrev s__law_done : Stmt := top 72
theorem sc__law_done : FnScope ["web", "ring", "deed", "a", "b", "c", "d", "made"] ["web", "ring", "deed"] (defScope s__law_done) := ⟨rfl, rfl, rfl, by decide +kernel, rfl, by decide +kernel, by decide +kernel⟩
theorem bd__law_done : ∀ (kV doc pm : Value) (an : Option Addr) (cdv ct : Value) (us : List Value), us.length = (["web", "ring", "deed"] : List Str).length → bindArgs (PySem.W.fnOf "_law_done" "_law_done" (defArgs s__law_done) (defBody s__law_done) (defScope s__law_done) .none kV doc pm an cdv ct) ⟨us, []⟩ = pure ((["web", "ring", "deed"] : List Str).zip us) :=
  fun _ _ _ _ _ _ us hl => match us, hl with | [_, _, _], _ => rfl
abbrev s__law_led : Stmt := top 73
theorem sc__law_led : FnScope ["web", "one", "two", "deeds", "here", "deed"] ["web", "one", "two"] (defScope s__law_led) := ⟨rfl, rfl, rfl, by decide +kernel, rfl, by decide +kernel, by decide +kernel⟩
theorem bd__law_led : ∀ (kV doc pm : Value) (an : Option Addr) (cdv ct : Value) (us : List Value), us.length = (["web", "one", "two"] : List Str).length → bindArgs (PySem.W.fnOf "_law_led" "_law_led" (defArgs s__law_led) (defBody s__law_led) (defScope s__law_led) .none kV doc pm an cdv ct) ⟨us, []⟩ = pure ((["web", "one", "two"] : List Str).zip us) :=
  fun _ _ _ _ _ _ us hl => match us, hl with | [_, _, _], _ => rfl
abbrev s__law_count : Stmt := top 74
theorem sc__law_count : FnScope ["web", "made", "piece", "k"] ["web"] (defScope s__law_count) := ⟨rfl, rfl, rfl, by decide +kernel, rfl, by decide +kernel, by decide +kernel⟩
theorem bd__law_count : ∀ (kV doc pm : Value) (an : Option Addr) (cdv ct : Value) (us : List Value), us.length = (["web"] : List Str).length → bindArgs (PySem.W.fnOf "_law_count" "_law_count" (defArgs s__law_count) (defBody s__law_count) (defScope s__law_count) .none kV doc pm an cdv ct) ⟨us, []⟩ = pure ((["web"] : List Str).zip us) :=
  fun _ _ _ _ _ _ us hl => match us, hl with | [_], _ => rfl
abbrev s_law : Stmt := top 75
theorem sc_law : FnScope ["script", "n", "length", "kinds", "web", "many", "cells", "numbers", "cell", "some", "rings", "k", "tree", "orders", "number"] ["script"] (defScope s_law) := ⟨rfl, rfl, rfl, by decide +kernel, rfl, by decide +kernel, by decide +kernel⟩
theorem bd_law : ∀ (kV doc pm : Value) (an : Option Addr) (cdv ct : Value) (us : List Value), us.length = (["script"] : List Str).length → bindArgs (PySem.W.fnOf "law" "law" (defArgs s_law) (defBody s_law) (defScope s_law) .none kV doc pm an cdv ct) ⟨us, []⟩ = pure ((["script"] : List Str).zip us) :=
  fun _ _ _ _ _ _ us hl => match us, hl with | [_], _ => rfl

def GlV (mg : Str → Option Value) (x : Str) (v : V) : Prop := ∃ u, mg x = some u ∧ RelV v u
def MethAt (K : PySem.W.Frag) (C : Addr) (m qual : Str) (st : Stmt) : Prop := ∃ f fd, Fun K m qual st f fd ∧ Meth K C m f
def MkAt (K : PySem.W.Frag) (C : Addr) (qual : Str) (st : Stmt) : Prop := ∃ f fd, Fun K "__init__" qual st f fd ∧ Mk K C f
/-- what the walk asks of the top -/
structure Txt (K : PySem.W.Frag) (mg : Str → Option Value) (CW CD : Addr) : Prop where
  n_len : mg "len" = none
  n_sorted : mg "sorted" = none
  n_range : mg "range" = none
  n_set : mg "set" = none
  n_tuple : mg "tuple" = none
  n_list : mg "list" = none
  n_int : mg "int" = none
  n_all : mg "all" = none
  n_sum : mg "sum" = none
  n_zip : mg "zip" = none
  n_isinstance : mg "isinstance" = none
  cSIGNS : GlV mg "SIGNS" (.str "abcdef")
  cMOST_WORDS : GlV mg "MOST_WORDS" (.int 64)
  cMOST_LETTERS : GlV mg "MOST_LETTERS" (.int 8)
  d_begin_of : DefAt K mg "begin_of" s_begin_of
  d_end_of : DefAt K mg "end_of" s_end_of
  d_is_sound : DefAt K mg "is_sound" s_is_sound
  d_pieces : DefAt K mg "pieces" s_pieces
  d_outs : DefAt K mg "outs" s_outs
  d_ins : DefAt K mg "ins" s_ins
  d_excess : DefAt K mg "excess" s_excess
  d_hanging : DefAt K mg "hanging" s_hanging
  d_apart_paper : DefAt K mg "apart_paper" s_apart_paper
  d_why_no_ring : DefAt K mg "why_no_ring" s_why_no_ring
  d_windows : DefAt K mg "windows" s_windows
  d_has_all : DefAt K mg "has_all" s_has_all
  d_is_ring : DefAt K mg "is_ring" s_is_ring
  d_swapped_in : DefAt K mg "swapped_in" s_swapped_in
  d_determinant : DefAt K mg "determinant" s_determinant
  d_ways_toward : DefAt K mg "ways_toward" s_ways_toward
  d_choices_counted : DefAt K mg "choices_counted" s_choices_counted
  d_tree_count : DefAt K mg "tree_count" s_tree_count
  d_is_tree : DefAt K mg "is_tree" s_is_tree
  d_comes_to : DefAt K mg "comes_to" s_comes_to
  d_product_to : DefAt K mg "product_to" s_product_to
  d_by_begins : DefAt K mg "by_begins" s_by_begins
  d_is_even : DefAt K mg "is_even" s_is_even
  d_ways_on : DefAt K mg "ways_on" s_ways_on
  d_ring_count : DefAt K mg "ring_count" s_ring_count
  d_without : DefAt K mg "without" s_without
  d_order_by : DefAt K mg "order_by" s_order_by
  d_order_number : DefAt K mg "order_number" s_order_number
  d_ring_by : DefAt K mg "ring_by" s_ring_by
  d_ring_number : DefAt K mg "ring_number" s_ring_number
  d_ask_ring : DefAt K mg "ask_ring" s_ask_ring
  d_pieces_along : DefAt K mg "pieces_along" s_pieces_along
  d_done : DefAt K mg "done" s_done
  d_next_deed : DefAt K mg "next_deed" s_next_deed
  d_led : DefAt K mg "led" s_led
  d_parts_of : DefAt K mg "parts_of" s_parts_of
  d_ways_of : DefAt K mg "ways_of" s_ways_of
  d_ring_of : DefAt K mg "ring_of" s_ring_of
  d__law_power : DefAt K mg "_law_power" s__law_power
  d__law_stir : DefAt K mg "_law_stir" s__law_stir
  d__law_folded : DefAt K mg "_law_folded" s__law_folded
  d__law_words : DefAt K mg "_law_words" s__law_words
  d__law_behind : DefAt K mg "_law_behind" s__law_behind
  d__law_by_digits : DefAt K mg "_law_by_digits" s__law_by_digits
  d__law_even_words : DefAt K mg "_law_even_words" s__law_even_words
  d__law_size : DefAt K mg "_law_size" s__law_size
  d__law_written : DefAt K mg "_law_written" s__law_written
  d__law_done : DefAt K mg "_law_done" s__law_done
  d__law_led : DefAt K mg "_law_led" s__law_led
  d__law_count : DefAt K mg "_law_count" s__law_count
  d_law : DefAt K mg "law" s_law
  cWeb : Cls K CW
  gWeb : mg "Web" = some (.ref CW)
  mWeb : MkAt K CW "Web.__init__" s_Web_init
  aWeb_words : NoAttr K CW "words"
  aWeb_length : NoAttr K CW "length"
  cDesk : Cls K CD
  gDesk : mg "Desk" = some (.ref CD)
  mDesk : MkAt K CD "Desk.__init__" s_Desk_init
  aDesk_home : NoAttr K CD "home"
  aDesk_many : NoAttr K CD "many"
  aDesk_length : NoAttr K CD "length"
  aDesk_text : NoAttr K CD "text"
  aDesk_left : NoAttr K CD "left"
  aDesk_passed : NoAttr K CD "passed"
  mDesk_done : MethAt K CD "done" "Desk.done" s_Desk_done
  mDesk_ways_by : MethAt K CD "ways_by" "Desk.ways_by" s_Desk_ways_by
  mDesk_steps : MethAt K CD "steps" "Desk.steps" s_Desk_steps
  mDesk_ahead : MethAt K CD "ahead" "Desk.ahead" s_Desk_ahead
  mDesk_write : MethAt K CD "write" "Desk.write" s_Desk_write

/-- a method and its promise -/
structure Dm (P : Program) (w : World) (K : PySem.W.Frag) (mg : Str → Option Value) (base : Heap) (C : Addr) (k : Nat) (m : Str) (ps : List Str) (sp : Sp) : Prop where
  cl : Cls K C
  ex : ∃ f fd, Meth K C m f ∧ Binds K fd ps [] ∧ FnOk P w K mg base CX0 k f fd ps sp
/-- a class and its __init__'s promise -/
structure Dk (P : Program) (w : World) (K : PySem.W.Frag) (mg : Str → Option Value) (base : Heap) (C : Addr) (k : Nat) (x : Str) (ps : List Str) (sp : Sp) : Prop where
  gl : mg x = some (.ref C)
  ex : ∃ f fd, Mk K C f ∧ Binds K fd ps [] ∧ FnOk P w K mg base CX0 k f fd ps sp
section
variable {P : Program} {w : World} {K : PySem.W.Frag} {mg : Str → Option Value} {base : Heap} {C : Addr}
theorem dm_of {m qual : Str} {st : Stmt} {N ps : List Str} {k : Nat} {sp : Sp} (c : Cls K C) (d : MethAt K C m qual st) (S : FnScope N ps (defScope st))
    (hb : ∀ (kV doc pm : Value) (an : Option Addr) (cdv ct : Value) (us : List Value), us.length = ps.length → bindArgs (PySem.W.fnOf m qual (defArgs st) (defBody st) (defScope st) .none kV doc pm an cdv ct) ⟨us, []⟩ = pure (ps.zip us))
    (len : ∀ vs H Q E, sp vs H Q E → vs.length = ps.length)
    (hbody : ∀ (f : Addr) (cdv : Value) (A : Around) (outer : List Env) (s : Shared) (H : Hp) (vs : List V) (Q : VK) (E : XK), Room k (A.deeper (envOfC qual (defScope st) s.heap.objs.size f cdv)) → sp vs H Q E →
      ∃ t, PSs (cxOf CX0 P w K mg base N qual (defScope st) f cdv A outer s H E).nox (defBody st) t ∧ t { nx := fun _ H' => Q .non H', rt := Q } (start N vs) H) : Dm P w K mg base C (k + 1) m ps sp := by
  obtain ⟨f, fd, F, hm⟩ := d
  exact ⟨c, f, fd, hm, F.binds hb, F.ok S len fun cdv A outer s H vs Q E hr h => hbody f cdv A outer s H vs Q E hr h⟩
theorem dk_of {x qual : Str} {st : Stmt} {N ps : List Str} {k : Nat} {sp : Sp} (g : mg x = some (.ref C)) (d : MkAt K C qual st) (S : FnScope N ps (defScope st))
    (hb : ∀ (kV doc pm : Value) (an : Option Addr) (cdv ct : Value) (us : List Value), us.length = ps.length → bindArgs (PySem.W.fnOf "__init__" qual (defArgs st) (defBody st) (defScope st) .none kV doc pm an cdv ct) ⟨us, []⟩ = pure (ps.zip us))
    (len : ∀ vs H Q E, sp vs H Q E → vs.length = ps.length)
    (hbody : ∀ (f : Addr) (cdv : Value) (A : Around) (outer : List Env) (s : Shared) (H : Hp) (vs : List V) (Q : VK) (E : XK), Room k (A.deeper (envOfC qual (defScope st) s.heap.objs.size f cdv)) → sp vs H Q E →
      ∃ t, PSs (cxOf CX0 P w K mg base N qual (defScope st) f cdv A outer s H E).nox (defBody st) t ∧ t { nx := fun _ H' => Q .non H', rt := Q } (start N vs) H) : Dk P w K mg base C (k + 1) x ps sp := by
  obtain ⟨f, fd, F, hm⟩ := d
  exact ⟨g, f, fd, hm, F.binds hb, F.ok S len fun cdv A outer s H vs Q E hr h => hbody f cdv A outer s H vs Q E hr h⟩
end
section
variable {X : Cx} {C : Addr} {j k : Nat} {x m : Str} {ps : List Str} {sp : Sp} {p pos apos : Pos} {e o : Expr} {es : List Expr} {t : TA} {ta : TE}
theorem pe_gl {v : V} (h : GlV X.mg x v) (hg : Gl X x := by rfl) (hd : (x == ("__debug__" : Str)) = false := by decide) : PE X (.Name x p) (tC v) := by
  obtain ⟨u, h1, h2⟩ := h
  exact pe_glob hg h1 h2 hd
theorem pe_me {pl : Sem Bool} (he : PE X o ta) (G : Dm X.prog X.w X.K X.mg X.base C j m ps sp) (hr : Room k X.A) (ha : PA X (e :: es) t) (hk : j ≤ k := by decide)
    (hst : starEach (e :: es) X.env = (false, eval e X.env) :: starEach es X.env := by rfl) (hpl : (backTo pos (starEach es X.env)).any (·.1) = false := by rfl)
    (ht : eval (.Call (.Attribute o m apos) (e :: es) [] pos) X.env = (do
      let ov ← eval o X.env
      standAt apos.atName
      let (f, first) ← holding [ov] (getMethod ov m pl)
      callWith pos f first (backTo pos (starEach (e :: es) X.env)) (backToKw pos (keywordEach [] X.env))) := by rfl) : PE X (.Call (.Attribute o m apos) (e :: es) [] pos) (tMeth C m sp [] E0 ta t) := by
  obtain ⟨c, f, fd, h1, h2, h3⟩ := G
  exact pe_meth he c h1 h3 (hr.mono hk) h2 .nil pass0 ha hst hpl ht
theorem pe_me0 {pl : Sem Bool} (he : PE X o ta) (G : Dm X.prog X.w X.K X.mg X.base C j m ps sp) (hr : Room k X.A) (hk : j ≤ k := by decide)
    (ht : eval (.Call (.Attribute o m apos) [] [] pos) X.env = (do
      let ov ← eval o X.env
      standAt apos.atName
      let (f, first) ← holding [ov] (getMethod ov m pl)
      callWith pos f first (backTo pos (starEach [] X.env)) (backToKw pos (keywordEach [] X.env))) := by rfl) : PE X (.Call (.Attribute o m apos) [] [] pos) (tMeth C m sp [] E0 ta tNil) := by
  obtain ⟨c, f, fd, h1, h2, h3⟩ := G
  exact pe_meth0 he c h1 h3 (hr.mono hk) h2 .nil pass0 ht
theorem pe_mk (G : Dk X.prog X.w X.K X.mg X.base C j x ps sp) (hr : Room k X.A) (ha : PA X (e :: es) t) (hg : Gl X x := by rfl) (hk : j + 1 ≤ k := by decide) (hdb : (x == ("__debug__" : Str)) = false := by decide)
    (he : starEach (e :: es) X.env = (false, eval e X.env) :: starEach es X.env := by rfl) (hpl : (backTo pos (starEach es X.env)).any (·.1) = false := by rfl) : PE X (.Call (.Name x p) (e :: es) [] pos) (tMake C sp [] E0 t) := by
  obtain ⟨g, f, fd, h1, h2, h3⟩ := G
  exact pe_make h1 h3 (hr.mono hk) hg g h2 .nil pass0 ha hdb he hpl
end
end Tw
/-! Rules of our own: a chain of comparisons, len and list within a comprehension, remove of a text. -/
namespace Tw
open PySem PySem.Spec PyProof.Rows L2 MT
section
variable {X : Cx}
def rLenSeq (K : PySem.W.Frag) : List V → Hp → VK → Prop := fun xs H Q => ∃ p ys, xs = [.ref p] ∧ (SqL K H p ys ∨ SqT K H p ys) ∧ Q (.int ys.length) H
theorem len_K : CallR X (.builtin "len") (rLenSeq X.K) := call_len_seq
def rListOf (K : PySem.W.Frag) : List V → Hp → VK → Prop := fun xs H Q => ∃ p ys, xs = [.ref p] ∧ (SqL K H p ys ∨ SqT K H p ys) ∧ ∀ l, H l = none → Q (.ref l) (upd H l (.lst ys))
theorem list_K : CallR X (.type "list") (rListOf X.K) := call_list_of

/-! ### a chain of comparisons as a test -/
abbrev TLk := V → L2.St → Hp → (Bool → Hp → Prop) → Prop
structure Lk (X : Cx) (ops : List CmpOp) (es : List Expr) (t : TLk) : Prop where
  run : ∀ (pos : Pos) (pins : List (Addr × Obj)) (s : Shared) (σ : L2.St) (H : Hp) (x : V) (v : Value) (Q : Bool → Hp → Prop), Inv X pins σ H s → RelV x v → t x σ H Q →
    wpAny (model X.prog X.w) X.A (testChain pos v ops (evalEach es X.env)) (TP X pins σ Q) X.xe s
variable {op op1 op2 : CmpOp} {ops : List CmpOp} {a b c : Expr} {cs : List Expr} {r : R2} {ta tb : TE} {t : TLk} {pos : Pos}
theorem lk_one (ho : OpR X (compareOp op) r) (hb : PE X b tb) : Lk X [op] [b] (fun x σ H Q => tb σ H fun y H2 => r x y H2 fun z H3 => ∃ k, z = .bl k ∧ Q k H3) := by
  refine ⟨fun pos pins s σ H x v Q I rx h => ?_⟩
  refine test_last (thn (hb.run pins s σ H _ I h) fun u s2 hu => ?_)
  obtain ⟨y, H2, I2, ry, q2⟩ := hu
  refine thn (ho pins s2 σ H2 x y v u _ I2 rx ry q2) fun d s3 hd => ?_
  obtain ⟨z, H3, I3, rz, k, ez, q3⟩ := hd
  subst ez
  cases rz
  exact wpAny_truthy_bool ⟨H3, I3, q3⟩
theorem lk_cons (ho : OpR X (compareOp op) r) (hb : PE X b tb) (hl : Lk X (op1 :: ops) (c :: cs) t) :
    Lk X (op :: op1 :: ops) (b :: c :: cs) (fun x σ H Q => tb σ H fun y H2 => r x y H2 fun z H3 => ∃ k, z = .bl k ∧ if k = true then t y σ H3 Q else Q false H3) := by
  refine ⟨fun pos pins s σ H x v Q I rx h => ?_⟩
  refine test_link (thn (hb.run pins s σ H _ I h) fun u s2 hu => ?_)
  obtain ⟨y, H2, I2, ry, q2⟩ := hu
  refine thn (ho pins s2 σ H2 x y v u _ I2 rx ry q2) fun d s3 hd => ?_
  obtain ⟨z, H3, I3, rz, k, ez, q3⟩ := hd
  subst ez
  cases rz
  refine wpAny_truthy_bool ?_
  cases k with
  | false => exact ⟨H3, I3, q3⟩
  | true => exact hl.run pos pins s3 σ H3 y u Q I3 ry q3
theorem pt_chainN (ha : PE X a ta) (hl : Lk X (op1 :: op2 :: ops) (b :: c :: cs) t) (hm : lastMarks (op1 :: op2 :: ops) (b :: c :: cs) = false := by with_unfolding_all rfl) :
    PT X (.Compare a (op1 :: op2 :: ops) (b :: c :: cs) pos) (fun σ H Q => ta σ H fun x H1 => t x σ H1 Q) := by
  refine ⟨fun pins s σ H Q I h => ?_⟩
  refine isTrue_chain (thn (ha.run pins s σ H _ I h) fun v s1 hv => ?_) hm
  obtain ⟨x, H1, I1, rx, q⟩ := hv
  exact hl.run pos pins s1 σ H1 x v Q I1 rx q
end
end Tw
/-! Words, lists of words, dicts with words as keys, a web: as they stand in the heap. -/
namespace Tw
open PySem PySem.Spec PyProof.Rows L2 MT MW

abbrev stS (w : Wd) : Str := ⟨w.toArray⟩
theorem stS_inj {x y : Wd} (h : stS x = stS y) : x = y := by
  have := congrArg (fun z : Str => z.cps.toList) h
  simpa using this
theorem sL_str (ws : List Wd) : sL ws = (ws.map stS).map V.str := by rw [List.map_map]; rfl
theorem sL_len (ws : List Wd) : (sL ws).length = ws.length := List.length_map _
theorem sL_at {ws : List Wd} {i : Nat} {x : V} (h : (sL ws)[i]? = some x) : ∃ w, ws[i]? = some w ∧ x = sV w := by
  rw [List.getElem?_map] at h
  cases e : ws[i]? with
  | none => rw [e] at h; cases h
  | some w => rw [e] at h; exact ⟨w, rfl, (Option.some.inj h).symm⟩
theorem sL_get {ws : List Wd} {i : Nat} {w : Wd} (h : ws[i]? = some w) : (sL ws)[i]? = some (sV w) := by rw [List.getElem?_map, h]; rfl
theorem sL_app (a b : List Wd) : sL (a ++ b) = sL a ++ sL b := List.map_append
theorem take_snoc {α : Type} {l : List α} {i : Nat} {x : α} (h : l[i]? = some x) : l.take (i + 1) = l.take i ++ [x] := by
  rw [List.take_add_one, h]; rfl
theorem filter_snoc {α : Type} (p : α → Bool) (l : List α) (x : α) : (l ++ [x]).filter p = l.filter p ++ (if p x = true then [x] else []) := by
  rw [List.filter_append]; congr 1
  by_cases h : p x = true
  · rw [if_pos h, List.filter_cons_of_pos h]; rfl
  · rw [if_neg h, List.filter_cons_of_neg h]; rfl

/-! ### sorted -/
theorem rising_asc : ∀ (l : List Wd) (x : Wd), risingS (stS x) (l.map stS) = true → (x :: l).Nodup → Asc ltw (x :: l)
  | [], x, _, _ => List.pairwise_singleton ..
  | y :: l, x, h, hn => by
    have h' : (!ltCps y x && risingS (stS y) (l.map stS)) = true := by simpa [risingS] using h
    rw [Bool.and_eq_true] at h'
    have nd := List.nodup_cons.mp hn
    have ih := rising_asc l y h'.2 nd.2
    have hxy : ltw x y = true := by
      have h1 : ltCps y x = false := by simpa using h'.1
      rw [ltCps_eq] at h1
      rcases lin.tri x y (fun e => nd.1 (e ▸ List.mem_cons_self ..)) with g | g
      · exact g
      · unfold ltw at g; rw [h1] at g; cases g
    refine List.pairwise_cons.mpr ⟨fun z hz => ?_, ih⟩
    rcases List.mem_cons.mp hz with rfl | hz
    · exact hxy
    · exact lin.tr _ _ _ hxy ((List.pairwise_cons.mp ih).1 z hz)
theorem sorted_asc {l : List Wd} (h : sortedS (l.map stS) = true) (hn : l.Nodup) : Asc ltw l := by
  cases l with
  | nil => exact List.Pairwise.nil
  | cons x l => exact rising_asc l x h hn
theorem sorted_eq {xs : List Wd} {ys : List Str} (hp : ys.Perm (xs.map stS)) (hs : sortedS ys = true) (hn : xs.Nodup) : ys.map V.str = sL (srt xs) := by
  have e : ys = (ys.map fun y => y.cps.toList).map stS := by
    rw [List.map_map]
    conv => lhs; rw [← List.map_id ys]
    refine List.map_congr_left fun y _ => ?_
    show y = (⟨y.cps.toList.toArray⟩ : Str)
    simp
  generalize ys.map (fun y => y.cps.toList) = zs at e
  subst e
  have hz : zs.Perm xs := by
    have := hp.map (fun y : Str => y.cps.toList)
    rw [List.map_map, List.map_map] at this
    have id1 : ((fun y : Str => y.cps.toList) ∘ stS) = id := by funext w; simp
    rw [id1, List.map_id, List.map_id] at this
    exact this
  have as := sorted_asc hs (hz.nodup_iff.mpr hn)
  have : srt xs = zs := srt_eq as fun w => hz.mem_iff
  rw [this, ← sL_str]
section
variable {X : Cx}
def rSortW (K : PySem.W.Frag) : List V → Hp → VK → Prop := fun vs H Q => ∃ (a : Addr) (ws : List Wd), vs = [V.ref a] ∧ SqL K H a (sL ws) ∧ ws.Nodup ∧ ws.length < 64 ∧ ∀ p, H p = none → Q (.ref p) (upd H p (.lst (sL (srt ws))))
theorem cr_sortW : CallR X (.builtin "sorted") (rSortW X.K) := by
  intro pins s σ H xs us Q I r h
  obtain ⟨a, ws, rfl, hs, hn, hl, q⟩ := h
  refine cr_sortedS pins s σ H _ us Q I r ⟨a, ws.map stS, rfl, by rw [← sL_str]; exact hs, by rw [List.length_map]; exact hl, fun ys p hp hs np => ?_⟩
  rw [sorted_eq hp hs hn]
  exact q p np
end

/-! ### lists of words compared; a word among words -/
def Lo (ws : List Wd) : Prop := ∀ w ∈ ws, ∀ c ∈ w, c < 128
theorem strOk_lo {w : Wd} (h : ∀ c ∈ w, c < 128) : PyData.strOk (stS w) = true := by
  unfold PyData.strOk
  rw [← Array.all_toList, List.all_eq_true]
  intro c hc
  have : c ∈ w := by simpa using hc
  have := h c this
  exact decide_eq_true (by omega)
theorem lay_strs : ∀ ws : List Wd, Lo ws → PyData.canLayAll0 (ws.map fun w => PyData.str (stS w)) = true
  | [], _ => by simp [PyData.canLayAll0]
  | w :: r, h => by
    simp only [List.map_cons, PyData.canLayAll0, PyData.canLay0]
    rw [strOk_lo (h w (List.mem_cons_self ..)), lay_strs r fun x hx => h x (List.mem_cons_of_mem _ hx)]; rfl
theorem dep_strs : ∀ ws : List Wd, PyData.depthAll (ws.map fun w => PyData.str (stS w)) ≤ 1
  | [] => by simp [PyData.depthAll]
  | w :: r => by
    have := dep_strs r
    simp only [List.map_cons, PyData.depthAll, PyData.depth]
    omega
theorem shp_list (ws : List Wd) (hl : Lo ws) : SeqAt.shaped (.list (ws.map fun w => PyData.str (stS w))) = true := by
  have h1 := dep_strs ws
  unfold SeqAt.shaped
  rw [Bool.and_eq_true]
  exact ⟨by simp only [PyData.canLay0]; exact lay_strs ws hl, decide_eq_true (by simp only [PyData.depth]; omega)⟩
theorem shp_tup (ws : List Wd) (hl : Lo ws) : SeqAt.shaped (.tuple (ws.map fun w => PyData.str (stS w))) = true := by
  have h1 := dep_strs ws
  unfold SeqAt.shaped
  rw [Bool.and_eq_true]
  exact ⟨by simp only [PyData.canLay0]; exact lay_strs ws hl, decide_eq_true (by simp only [PyData.depth]; omega)⟩
theorem eqv_strs : ∀ us ws : List Wd, PyData.eqvAll (us.map fun w => PyData.str (stS w)) (ws.map fun w => PyData.str (stS w)) = decide (us = ws)
  | [], [] => by simp [PyData.eqvAll]
  | [], _ :: _ => by simp [PyData.eqvAll]
  | _ :: _, [] => by simp [PyData.eqvAll]
  | u :: us, w :: ws => by
    simp only [List.map_cons, PyData.eqvAll, PyData.eqv, eqv_strs us ws]
    by_cases e : u = w
    · subst e; simp
    · have : (stS u == stS w) = false := beq_eq_false_iff_ne.mpr fun z => e (stS_inj z)
      rw [this]; simp [e]
theorem dpAll_strs {K : PySem.W.Frag} {H : Hp} : ∀ ws : List Wd, DpAll K H (sL ws) (ws.map fun w => PyData.str (stS w))
  | [] => .nil
  | w :: ws => .cons (.str _) (dpAll_strs ws)
section
variable {X : Cx}
def rEqW (K : PySem.W.Frag) (neg : Bool) : R2 := fun x y H Q => ∃ (a b : Addr) (us ws : List Wd), x = .ref a ∧ y = .ref b ∧ ((SqL K H a (sL us) ∧ SqL K H b (sL ws)) ∨ (SqT K H a (sL us) ∧ SqT K H b (sL ws))) ∧ Lo us ∧ Lo ws ∧ Q (.bl (if neg = true then !decide (us = ws) else decide (us = ws))) H
theorem op_eqW (hu : X.A.units + 64 < cLine) : OpR X (compareOp .Eq) (rEqW X.K false) := by
  intro pins s σ H x y v u Q I rx ry h
  obtain ⟨a, b, us, ws, rfl, rfl, hh, l1, l2, q⟩ := h
  rcases hh with ⟨h1, h2⟩ | ⟨h1, h2⟩
  · refine op_eqD hu pins s σ H _ _ v u Q I rx ry ⟨_, _, .lst h1 (dpAll_strs us), .lst h2 (dpAll_strs ws), shp_list us l1, shp_list ws l2, ?_⟩
    simp only [PyData.eqv]; rw [eqv_strs]; exact q
  · refine op_eqD hu pins s σ H _ _ v u Q I rx ry ⟨_, _, .tup h1 (dpAll_strs us), .tup h2 (dpAll_strs ws), shp_tup us l1, shp_tup ws l2, ?_⟩
    simp only [PyData.eqv]; rw [eqv_strs]; exact q
theorem op_neW (hu : X.A.units + 64 < cLine) : OpR X (compareOp .NotEq) (rEqW X.K true) := by
  intro pins s σ H x y v u Q I rx ry h
  obtain ⟨a, b, us, ws, rfl, rfl, hh, l1, l2, q⟩ := h
  rcases hh with ⟨h1, h2⟩ | ⟨h1, h2⟩
  · refine op_neD hu pins s σ H _ _ v u Q I rx ry ⟨_, _, .lst h1 (dpAll_strs us), .lst h2 (dpAll_strs ws), shp_list us l1, shp_list ws l2, ?_⟩
    simp only [PyData.eqv]; rw [eqv_strs]; exact q
  · refine op_neD hu pins s σ H _ _ v u Q I rx ry ⟨_, _, .tup h1 (dpAll_strs us), .tup h2 (dpAll_strs ws), shp_tup us l1, shp_tup ws l2, ?_⟩
    simp only [PyData.eqv]; rw [eqv_strs]; exact q
theorem inV_strs (v : Wd) : ∀ ws : List Wd, inV (sV v) (sL ws) = decide (v ∈ ws)
  | [] => rfl
  | w :: ws => by
    have ih := inV_strs v ws
    show (eqV (sV w) (sV v) || inV (sV v) (sL ws)) = _
    rw [ih]
    have e : eqV (sV w) (sV v) = decide (w = v) := by
      show decide (_ = _) = _
      by_cases g : w = v
      · subst g; simp
      · rw [decide_eq_false g]; exact decide_eq_false fun z => g (by first | exact stS_inj z | exact sV_inj z)
    rw [e]
    by_cases g : w = v
    · subst g; simp
    · have g' : ¬ v = w := fun z => g z.symm
      simp [g, g']
theorem flat_strs (ws : List Wd) : (sL ws).all flatV = true := by
  rw [List.all_eq_true]
  intro x hx
  obtain ⟨w, _, rfl⟩ := List.mem_map.mp hx
  rfl
def rInW (K : PySem.W.Frag) (neg : Bool) : R2 := fun x y H Q => ∃ (v : Wd) (p : Addr) (ws : List Wd), x = sV v ∧ y = .ref p ∧ (SqL K H p (sL ws) ∨ SqT K H p (sL ws)) ∧ Q (.bl (if neg = true then !decide (v ∈ ws) else decide (v ∈ ws))) H
theorem op_inW : OpR X (compareOp .In) (rInW X.K false) := by
  intro pins s σ H x y v u Q I rx ry h
  obtain ⟨z, p, ws, rfl, rfl, hh, q⟩ := h
  refine op_in_seq pins s σ H _ _ v u Q I rx ry ⟨p, sL ws, rfl, hh, rfl, flat_strs ws, ?_⟩
  rw [inV_strs]; exact q
theorem op_notInW : OpR X (compareOp .NotIn) (rInW X.K true) := by
  intro pins s σ H x y v u Q I rx ry h
  obtain ⟨z, p, ws, rfl, rfl, hh, q⟩ := h
  refine op_notIn_seq pins s σ H _ _ v u Q I rx ry ⟨p, sL ws, rfl, hh, rfl, flat_strs ws, ?_⟩
  rw [inV_strs]; exact q
end

/-! ### dicts with words as keys -/
def dkv (ks : List Wd) (f : Wd → V) : List (Key × V) := ks.map fun k => (Sum.inr (stS k), f k)
def kadd (ks : List Wd) (k : Wd) : List Wd := if k ∈ ks then ks else ks ++ [k]
def fup {α : Type} (f : Wd → α) (k : Wd) (v : α) : Wd → α := fun j => if j = k then v else f j
theorem fup_same {α : Type} (f : Wd → α) (k : Wd) (v : α) : fup f k v k = v := by unfold fup; rw [if_pos rfl]
theorem fup_ne {α : Type} (f : Wd → α) {k j : Wd} (v : α) (h : j ≠ k) : fup f k v j = f j := by unfold fup; rw [if_neg h]
theorem mem_kadd {ks : List Wd} {k j : Wd} : j ∈ kadd ks k ↔ j ∈ ks ∨ j = k := by
  unfold kadd; split
  · rename_i h
    exact ⟨.inl, fun e => e.elim id fun e => by subst e; exact h⟩
  · simp
theorem kadd_nd {ks : List Wd} {k : Wd} (h : ks.Nodup) : (kadd ks k).Nodup := by
  unfold kadd; split
  · exact h
  · rename_i hk
    exact List.nodup_append.mpr ⟨h, List.nodup_cons.mpr ⟨by simp, List.nodup_nil⟩, fun x hx y hy e => by
      have : y = k := List.mem_singleton.mp hy
      subst this; subst e; exact hk hx⟩
theorem kadd_len {ks : List Wd} {k : Wd} : (kadd ks k).length ≤ ks.length + 1 := by
  unfold kadd; split
  · omega
  · rw [List.length_append]; exact Nat.le_refl _
theorem key_ne {j k : Wd} (h : j ≠ k) : ¬ ((Sum.inr (stS j) : Key) = Sum.inr (stS k)) := fun e => h (stS_inj (Sum.inr.inj e))
theorem dkv_len (ks : List Wd) (f : Wd → V) : (dkv ks f).length = ks.length := List.length_map _
theorem dkv_keys (ks : List Wd) (f : Wd → V) : (dkv ks f).map (·.1) = (ks.map stS).map Sum.inr := by unfold dkv; rw [List.map_map, List.map_map]; rfl
theorem dkv_val (f : Wd → V) (k : Wd) : ∀ ks : List Wd, valV (dkv ks f) (Sum.inr (stS k)) = if k ∈ ks then some (f k) else none
  | [] => rfl
  | j :: ks => by
    by_cases e : j = k
    · subst e
      rw [if_pos (List.mem_cons_self ..)]
      exact valV_pos (p := (Sum.inr (stS j), f j)) rfl
    · have h1 := dkv_val f k ks
      have h2 : valV (dkv (j :: ks) f) (Sum.inr (stS k)) = valV (dkv ks f) (Sum.inr (stS k)) := valV_neg (p := (Sum.inr (stS j), f j)) (key_ne e)
      rw [h2, h1]
      by_cases g : k ∈ ks
      · rw [if_pos g, if_pos (List.mem_cons_of_mem _ g)]
      · rw [if_neg g, if_neg fun z => by
          rcases List.mem_cons.mp z with z | z
          · exact e z.symm
          · exact g z]
theorem dkv_any (f : Wd → V) (k : Wd) (ks : List Wd) : ((dkv ks f).any fun kv => decide (kv.1 = (Sum.inr (stS k) : Key))) = decide (k ∈ ks) := by
  rw [valV_any, dkv_val]
  by_cases g : k ∈ ks
  · rw [if_pos g, decide_eq_true g]; rfl
  · rw [if_neg g, decide_eq_false g]; rfl
theorem dkv_put (ks : List Wd) (f : Wd → V) (k : Wd) (v : V) : putK (dkv ks f) (Sum.inr (stS k)) v = dkv (kadd ks k) (fup f k v) := by
  unfold putK
  rw [dkv_any]
  unfold kadd
  by_cases g : k ∈ ks
  · rw [if_pos (decide_eq_true g), if_pos g]
    unfold dkv
    rw [List.map_map]
    refine List.map_congr_left fun j _ => ?_
    show (if (Sum.inr (stS j) : Key) = Sum.inr (stS k) then ((Sum.inr (stS j) : Key), v) else (Sum.inr (stS j), f j)) = (Sum.inr (stS j), fup f k v j)
    by_cases e : j = k
    · subst e; rw [if_pos rfl, fup_same]
    · rw [if_neg (key_ne e), fup_ne _ _ e]
  · rw [if_neg (by simpa using g), if_neg g]
    unfold dkv
    rw [List.map_append]
    congr 1
    · refine List.map_congr_left fun j hj => ?_
      rw [fup_ne _ _ (fun e : j = k => g (by rw [← e]; exact hj))]
    · show [((Sum.inr (stS k) : Key), v)] = [(Sum.inr (stS k), fup f k v k)]
      rw [fup_same]
theorem dkv_drop (ks : List Wd) (f : Wd → V) (k : Wd) : dropK (dkv ks f) (Sum.inr (stS k)) = dkv (wo ks k) f := by
  unfold dropK dkv wo
  rw [List.filter_map]
  congr 1
  refine List.filter_congr fun j _ => ?_
  show decide ((Sum.inr (stS j) : Key) ≠ Sum.inr (stS k)) = decide (j ≠ k)
  by_cases e : j = k
  · subst e; simp
  · rw [decide_eq_true e, decide_eq_true (key_ne e)]
theorem dkv_congr {ks : List Wd} {f g : Wd → V} (h : ∀ k ∈ ks, f k = g k) : dkv ks f = dkv ks g := List.map_congr_left fun k hk => by rw [h k hk]
theorem dkv_at {ks : List Wd} {f : Wd → V} {i : Nat} {k : Key} {v : V} (h : (dkv ks f)[i]? = some (k, v)) : ∃ w, ks[i]? = some w ∧ k = Sum.inr (stS w) ∧ v = f w := by
  unfold dkv at h
  rw [List.getElem?_map] at h
  cases e : ks[i]? with
  | none => rw [e] at h; cases h
  | some w =>
    rw [e] at h
    have := Option.some.inj h
    injection this with h1 h2
    exact ⟨w, rfl, h1.symm, h2.symm⟩
theorem dget_rd {H : Hp} {d : Addr} {ks : List Wd} {f : Wd → V} {k : Wd} (h : Rd H d (.dK (dkv ks f))) : DGet H d (sV k) (if k ∈ ks then some (f k) else none) :=
  .inl ⟨dkv ks f, Sum.inr (stS k), h, rfl, (dkv_val f k ks).symm⟩
theorem dget_w {H : Hp} {d : Addr} {ks : List Wd} {f : Wd → V} {k : Wd} (h : H d = some (.dK (dkv ks f))) : DGet H d (sV k) (if k ∈ ks then some (f k) else none) := dget_rd (.of h)
theorem dget_in {H : Hp} {d : Addr} {ks : List Wd} {f : Wd → V} {k : Wd} (h : Rd H d (.dK (dkv ks f))) (hk : k ∈ ks) : DGet H d (sV k) (some (f k)) := by
  have := dget_rd (k := k) h
  rw [if_pos hk] at this
  exact this
theorem dput_w {H : Hp} {d : Addr} {ks : List Wd} {f : Wd → V} {k : Wd} {v : V} (h : H d = some (.dK (dkv ks f))) (hl : ks.length ≤ 1000) : DPut H d (sV k) v (upd H d (.dK (dkv (kadd ks k) (fup f k v)))) := by
  have := DPut.k (k := Sum.inr (stS k)) (v := v) h (by rw [dkv_len]; exact small1000 hl)
  rw [dkv_put] at this
  exact this
section
variable {X : Cx}
def rSortDW : List V → Hp → VK → Prop := fun vs H Q => ∃ (d : Addr) (ks : List Wd) (f : Wd → V), vs = [V.ref d] ∧ Rd H d (.dK (dkv ks f)) ∧ ks.Nodup ∧ ks.length < 64 ∧ ∀ p, H p = none → Q (.ref p) (upd H p (.lst (sL (srt ks))))
theorem cr_sortDW (hc : X.calm = true) : CallR X (.builtin "sorted") rSortDW := by
  intro pins s σ H xs us Q I r h
  obtain ⟨d, ks, f, rfl, hs, hn, hl, q⟩ := h
  refine call_sortedD hc pins s σ H _ us Q I r ⟨d, dkv ks f, ks.map stS, rfl, hs, dkv_keys ks f, by rw [List.length_map]; exact hl, fun ys p hp hs np => ?_⟩
  rw [sorted_eq hp hs hn]
  exact q p np
end

/-! ### a web -/
theorem nWL : ¬ (("words" : Str) = "length") := by decide +kernel
def webF (t : Addr) (L : Int) : List (Str × V) := putF "length" (.int L) (putF "words" (.ref t) [])
theorem webF_words (t : Addr) (L : Int) : (webF t L).lookup ("words" : Str) = some (.ref t) := by
  unfold webF; rw [lookup_putF, if_neg nWL, lookup_putF, if_pos rfl]
theorem webF_length (t : Addr) (L : Int) : (webF t L).lookup ("length" : Str) = some (.int L) := by
  unfold webF; rw [lookup_putF, if_pos rfl]
structure WebAt (CW : Addr) (H : Hp) (p : Addr) (ws : List Wd) (L : Nat) (t : Addr) : Prop where
  ob : ∃ dx, H p = some (.ins CW dx (webF t L))
  tp : H t = some (.tup (sL ws))
  ok : WebOk ws L
theorem WebAt.same {CW : Addr} {H H' : Hp} {p t : Addr} {ws : List Wd} {L : Nat} (h : WebAt CW H p ws L t) (s : Same H H') : WebAt CW H' p ws L t :=
  ⟨let ⟨dx, e⟩ := h.ob; ⟨dx, s _ _ e⟩, s _ _ h.tp, h.ok⟩
/-- a new list is changed: what was ahead stays -/
theorem same_chg {H H1 : Hp} {p : Addr} {o : HO} (s : Same H H1) (h : H p = none) : Same H (upd H1 p o) := fun b x e => by
  rw [upd_ne (ne_of_none e h)]
  exact s _ _ e
end Tw
/-! Rules of our own: the size of a set of unlike texts; a text out of a list; a text many times. -/
namespace Tw
open PySem PySem.Spec PyProof.Rows L2 MT
section
variable {prog : Program} {w : World} {A : Around} {E : Value → Shared → Prop} {R : Result → Shared → Prop} {I : Addr} {fp wr : List Addr} {G : Array GenState → Array GenState → Prop} {n : Nat} {Pv : Nat → Value → Prop} {St : Nat → Shared → Prop}
/-- a text at a place of a list of texts -/
theorem txt_at {us : List Value} {xs : List Str} (r : StrsAre us xs) {i : Nat} {v : Value} (h : us[i]? = some v) : ∃ x t, xs[i]? = some x ∧ v = .str x t := by
  induction r generalizing i with
  | nil => cases h
  | cons y t r ih =>
    cases i with
    | zero => exact ⟨y, t, rfl, (Option.some.inj h).symm⟩
    | succ i => exact ih h
/-- the set's texts: the first i of a list -/
abbrev FirstIn (prog : Program) (w : World) (h : Heap) (S : Addr) (xs : List Str) (i : Nat) : Prop := h.SetOf (strKind prog w) S (fun y => decide (y ∈ xs.take i)) i
theorem FirstIn.keep {h h' : Heap} {S : Addr} {xs : List Str} {i : Nat} (F : FirstIn prog w h S xs i) (k : ∀ o, h.get? S = some o → h'.get? S = some o) : FirstIn prog w h' S xs i :=
  let ⟨o, es, ep, t, ho, rest⟩ := F
  ⟨o, es, ep, t, k o ho, rest⟩
theorem fill_txt (W : WalksS prog w A.in1 I fp wr G n Pv St) (S : Addr) (far : S ∉ fp) (xs : List Str) (hn : n = xs.length) (nd : xs.Nodup) (few : n + 1 < scanBound)
    (hv : ∀ i v, Pv i v → ∃ x t, xs[i]? = some x ∧ v = .str x t) (left : Nat) : ∀ (i : Nat) (s : Shared), n - i = left → i ≤ n → St i s → FirstIn prog w s.heap S xs i →
      (∀ s', Moved (S :: wr) G s s' → FirstIn prog w s'.heap S xs n → R (.ok (.ret .none)) s') → codeAny (model prog w) A (.builtin "set.update.loop" ⟨[.ref S, .ref I], []⟩) R s := by
  have off : S ∉ wr := fun z => far (W.sub _ z)
  have more : ∀ b ∈ wr, b ∈ S :: wr := fun b z => List.mem_cons_of_mem _ z
  induction left with
  | zero =>
    intro i s e1 e2 st F out
    obtain rfl : i = n := by omega
    refine codeAny_builtin PyProof.Rows.F.entry_set_update_loop (by
      rw [Around.under_plainId PyProof.Rows.F.plain_set_update_loop _]
      show wpAny _ A.in1 (pyNext (.ref I) >>= _) _ _ s
      exact wpAny_bind (W.done s _ _ st fun s' mv => by
        show wpAny _ A.in1 (ret Value.none) _ _ s'
        exact wpAny_pure (out s' (mv.mono more) (F.keep fun o z => mv.heap S o off z))))
  | succ left ih =>
    intro i s e1 e2 st F out
    have lt : i < n := by omega
    refine codeAny_builtin PyProof.Rows.F.entry_set_update_loop (by
      rw [Around.under_plainId PyProof.Rows.F.plain_set_update_loop _]
      show wpAny _ A.in1 (pyNext (.ref I) >>= _) _ _ s
      refine wpAny_bind (W.item i s _ _ lt st fun v s' pv st' mv => ?_)
      obtain ⟨x, t, hx, rfl⟩ := hv i v pv
      have F' : FirstIn prog w s'.heap S xs i := F.keep fun o z => mv.heap S o off z
      have fresh : decide (x ∈ xs.take i) = false := decide_eq_false fun z => by
        obtain ⟨j, hj, ej⟩ := List.getElem_of_mem z
        rw [List.length_take] at hj
        rw [List.getElem_take] at ej
        obtain ⟨hi, ei⟩ := List.getElem?_eq_some_iff.mp hx
        exact absurd (ej.trans ei.symm) (List.pairwise_iff_getElem.mp nd j i (by omega) hi (by omega))
      show wpAny _ A.in1 (holding [Value.str x t] (setAdd S (.str x t)) >>= _) _ _ s'
      unfold setAdd
      refine wpAny_bind (wpAny_holding (wpAny_holding (wpAny_bind ((strKind prog w).pyHash (k := x) (strKind_is _ _ _ _) ?_))))
      refine wpAny_setAddHashed_of (knd := strKind prog w) (s := { s' with toks := s'.toks + 1 }) (strKind_is _ _ _ _) rfl F' (by omega) fun h' only F2 => ?_
      have F3 : FirstIn prog w h' S xs (i + 1) := SetOf_congr F2 (fun y => by
        rw [List.take_add_one, hx]
        simp) (by rw [fresh]; rfl)
      refine wpAny_pure ⟨plainId_quiet PyProof.Rows.F.plain_set_update_loop _, ih (i + 1) _ (by omega) lt (W.frame _ s' _ _ st' (Nat.le_succ _) fun b hb o z => ?_) F3 fun s2 mv2 F4 => ?_⟩
      · exact (only.2 b fun z2 : b = S => far (by rw [← z2]; exact hb)).trans z
      · exact out s2 (Moved.trans W.gtrans ((mv.mono more).then_heap (Nat.le_succ _) fun b o hb z => (only.2 b fun z2 : b = S => hb (by rw [z2]; exact List.mem_cons_self)).trans z) mv2) F4)
end
section
variable {prog : Program} {w : World} {A : Around} {E : Value → Shared → Prop} {s : Shared}
/-- an empty set, just made -/
abbrev setNew (led : Bool) : Obj := { cls := .type "set", dict := none, data := .set #[] 0 (.fresh 0 0 led) }
abbrev withSet (h : Heap) (led : Bool) : Heap := h.push (setNew led)
open PySem.F in
set_option maxHeartbeats 3200000 in
theorem set_txt {l : Addr} {items : Array Value} {xs : List Str} {Q : Value → Shared → Prop} (calm : A.handled = none) (li : s.heap.IsList l items) (sa : StrsAre items.toList xs) (nd : xs.Nodup) (few : xs.length + 1 < scanBound)
    (q : ∀ (h' : Heap) (tk : Nat), FirstIn prog w h' s.heap.objs.size xs xs.length → (∀ b o, b < s.heap.objs.size → s.heap.get? b = some o → h'.get? b = some o) → Q (.ref s.heap.objs.size) { s with heap := h', toks := tk }) :
    wpAny (model prog w) A (call (.type "set") [.ref l]) Q E s := by
  have len : items.size = xs.length := by rw [← StrsAre.len_eq sa, Array.length_toList]
  obtain ⟨c, tl, way⟩ := called_set.mro
  have f1 := called_set.made
  have f2 := called_set.sub
  have f3 := called_set.notType
  have f4 := called_set.canCreate
  have f5 := typeCall_set_1 (.ref l)
  refine wpAny_call (codeAny_of_tree (by
    show wpAny _ _ (callAny (.type "set") _) _ _ _
    refine wpAny_pure ⟨Code.quiet_builtin _ (by decide +kernel), codeAny_builtin PySem.F.entry_type_call ?_⟩
    rw [Around.under_plain (weight_type_call_type "set" [.ref l] []) rfl]
    repeat (any_goals (first | assumption | wp_step))
    refine codeAny_mono (code_set_new_1 (.ref l) (E := E) (Q₁ := fun obj t => ∃ led, obj = .ref s.heap.objs.size ∧ t = { s with heap := withSet s.heap led }) fun led => ⟨led, rfl, rfl⟩) fun r t hr => ?_
    match r, hr with
    | .error _, hr => exact hr
    | .ok (.ret obj), hr =>
      obtain ⟨led, rfl, rfl⟩ := hr
      have at1 : (withSet s.heap led).get? s.heap.objs.size = some (setNew led) := Heap.get?_push_size _ rfl
      have ty1 : Shared.TypeIs { s with heap := withSet s.heap led } (.ref s.heap.objs.size) "set" := ⟨_, at1, rfl⟩
      have g1 := called_set.init.lookup
      have g2 := called_set.init.bind (.ref s.heap.objs.size)
      repeat (any_goals (first | assumption | wp_step))
      refine codeAny_mono (codeAny_call_builtin (R := wants (fun r t => r = .none ∧ ∃ h' tk, t = { s with heap := h', toks := tk } ∧ FirstIn prog w h' s.heap.objs.size xs xs.length ∧ ∀ b o, b < s.heap.objs.size → s.heap.get? b = some o → h'.get? b = some o) E)
        called_set.init.plain entry_set_init (check_set_init_1 ty1 ?_)) fun r2 t2 hr2 => ?_
      · obtain ⟨⟨ocls, odict, odata, oslots⟩, at2, hcl, nl, hdl⟩ := li
        simp only at hcl hdl
        subst hcl hdl
        have at3 : (withSet s.heap led).get? l = some { cls := .type "list", dict := odict, data := .seq items nl, slots := oslots } := Heap.get?_push_of_some _ at2
        have g3 := sub_list_set
        have g4 := sub_list_frozenset
        have g5 : (Value.type "list" == Value.type "dict") = false := by decide
        have li2 : (withSet s.heap led).IsList l items := ⟨_, at3, rfl, nl, rfl⟩
        have below : l < s.heap.objs.size := Heap.lt_size at2
        have big : (withSet s.heap led).objs.size = s.heap.objs.size + 1 := Heap.size_push ..
        unfold Builtin.«set.__init__» noKeywords Builtin.Frozenset.updateFrom
        generalize hPI : pyIter = PI
        wp_walk
        subst hPI
        refine wpAny_pyIter_list li2 (wpAny_bind (wpAny_runValue ?_))
        refine fill_txt ((Walks.list (by simp [calm]) _ l (by rw [big]; exact Nat.ne_of_lt (Nat.lt_succ_of_lt below)) items).toS) s.heap.objs.size (by
            rw [big]
            simp only [List.mem_cons, List.not_mem_nil, or_false, not_or]
            exact ⟨Nat.ne_of_lt (Nat.lt_succ_self _), Nat.ne_of_gt below⟩) xs len nd (by omega) (fun i v hv => txt_at sa (by rw [Array.getElem?_toList]; exact hv)) (items.size - 0) 0 _ (by omega) (Nat.zero_le _) ⟨⟨_, Heap.get?_push_size _ rfl, rfl, rfl⟩, li2.push _⟩ ?_ ?_
        · have at4 : ((withSet s.heap led).push { cls := .type "list_iterator", data := .fields #[.ref l, .int 0 0] }).get? s.heap.objs.size = some (setNew led) := Heap.get?_push_of_some _ at1
          exact SetOf_congr ((setObjOf_fresh (knd := strKind prog w) led).setOf at4 (by unfold scanBound; omega)) (fun _ => rfl) rfl
        · rintro ⟨h', g', d', tk', os'⟩ mv F
          obtain rfl : g' = s.gens := mv.gens
          obtain rfl : d' = s.drawn := mv.drawn
          obtain rfl : os' = s.os := mv.os
          rw [len] at F
          refine wpAny_pure ?_
          show wpAny _ _ (ret Value.none) _ _ _
          refine wpAny_pure ⟨rfl, h', tk', rfl, F, fun b o hb z => ?_⟩
          refine mv.heap b o ?_ (Heap.get?_push_of_some _ (Heap.get?_push_of_some _ z))
          rw [big]
          simp only [List.mem_cons, List.not_mem_nil, or_false, not_or]
          exact ⟨Nat.ne_of_lt hb, Nat.ne_of_lt (Nat.lt_succ_of_lt hb)⟩
      · match r2, hr2 with
        | .error _, hr2 => exact hr2
        | .ok (.ret r), hr2 =>
          obtain ⟨rfl, h', tk, rfl, F, kp⟩ := hr2
          repeat (any_goals (first | assumption | wp_step))
          exact q _ _ F kp))
end
section
variable {X : Cx}
def tLenSetS (K : PySem.W.Frag) (ta : TE) : TE := fun σ H Q => ta σ H fun x H1 => ∃ (l : Addr) (ws : List Wd), x = V.ref l ∧ SqL K H1 l (sL ws) ∧ ws.length < 64 ∧ ws.Nodup ∧ Q (.int ws.length) H1
theorem pe_lenSetS {a : Expr} {ta : TE} {p p2 q pos : Pos} (hc : X.calm = true) (hg : Gl X "len") (hm : X.mg "len" = none) (hg2 : Gl X "set") (hm2 : X.mg "set" = none) (ha : PE X a ta)
    (na : starEach [a] X.env = (false, eval a X.env) :: starEach [] X.env := by rfl) : PE X (.Call (.Name "len" p) [.Call (.Name "set" p2) [a] [] q] [] pos) (tLenSetS X.K ta) := by
  refine ⟨fun pins s σ H Q I h => Call_ (ld_blt I hg hm PySem.boot_len (callWith_builtin1 (args_cons ?_ rfl) rfl rfl))⟩
  refine Call_ (ld_blt I hg2 hm2 boot_set (callWith_type1 (args_cons (thn (ha.run pins s σ H _ I h) fun v s1 ⟨x, H1, I1, r1, q1⟩ => args_nil ?_) na) na rfl))
  obtain ⟨l, ws, rfl, sq, few, nd, q1⟩ := q1
  cases r1
  obtain ⟨its, r, pl, _⟩ := I1.list sq
  rw [sL_str] at r
  have nd2 : (ws.map stS).Nodup := List.pairwise_map.mpr (nd.imp fun ne e => ne (stS_inj e))
  refine set_txt (I1.ok.hd hc) pl.isList (by simpa using strs_of_vals r) nd2 (by rw [List.length_map]; unfold scanBound; omega) fun h' tk F kp => args_nil ?_
  obtain ⟨o, es, ep, t, ho, hex, hd, _, _, _, hf, hn⟩ := F
  rw [List.length_map] at hn
  have I2 : Inv X pins σ H1 { s1 with heap := h', toks := tk } := I1.kept fun b o z => kp b o (Heap.lt_size z) z
  exact call_len_set ho hex hd hf (by rw [hn]; omega) ⟨.int ws.length, H1, I2.tok _, ⟨_, by rw [hn]⟩, q1⟩

/-! ### list.remove of a text -/
def isW (k : Wd) (v : Value) : Bool := match v with
  | .str z _ => z.cps.toList == k
  | _ => false
theorem isW_gives {k : Wd} {t : Tok} {us : List Value} {ys : List Str} (r : StrsAre us ys) : ∀ y ∈ us, MeetsSeq.EqGives y (.str (stS k) t) (isW k y) := by
  induction r with
  | nil => exact fun y hy => by cases hy
  | cons z u r ih =>
    intro y hy
    rcases List.mem_cons.mp hy with e | e
    · rw [e]
      exact SeqRoads2.EqGives.str z (stS k) u t
    · exact ih y e
theorem erase_mapW : ∀ (l : List Wd) (k : Wd), k ∈ l → ∃ j, l[j]? = some k ∧ (∀ m, m < j → l[m]? ≠ some k) ∧ l.eraseIdx j = l.erase k
  | [], k, h => by cases h
  | x :: l, k, h => by
    by_cases e : x = k
    · subst e
      exact ⟨0, rfl, fun m hm => by omega, by simp⟩
    · obtain ⟨j, h1, h2, h3⟩ := erase_mapW l k ((List.mem_cons.mp h).resolve_left fun z => e z.symm)
      refine ⟨j + 1, h1, fun m hm hk => ?_, ?_⟩
      · match m, hk with
        | 0, hk => exact e (Option.some.inj hk)
        | m + 1, hk => exact h2 m (by omega) hk
      · rw [List.eraseIdx_cons_succ, h3, List.erase_cons_tail (by simpa using e)]
theorem erase_sL : ∀ (l : List Wd) (j : Nat), (sL l).eraseIdx j = sL (l.eraseIdx j)
  | [], _ => rfl
  | x :: l, 0 => rfl
  | x :: l, j + 1 => congrArg (sV x :: ·) (erase_sL l j)
def rRemW : V → List V → Hp → VK → Prop := fun x vs H Q => ∃ (l : Addr) (xs : List Wd) (k : Wd), x = .ref l ∧ vs = [sV k] ∧ H l = some (.lst (sL xs)) ∧ k ∈ xs ∧ Q .non (upd H l (.lst (sL (xs.erase k))))
theorem mt_removeS : MtM X "list.remove" rRemW := by
  intro pins s σ H x vs v us Q I rx rv h
  obtain ⟨l, xs, k, rfl, rfl, at1, hk, q⟩ := h
  cases rx
  obtain ⟨u, rfl, ru⟩ := rv.one
  obtain ⟨t, rfl⟩ := ru
  obtain ⟨z, its, n, r, hl, e⟩ := I.lstM at1
  have r2 := r
  rw [sL_str] at r2
  have sa := strs_of_vals r2
  have len : its.length = xs.length := by rw [← r.length, sL_len]
  rw [sL_len] at z
  obtain ⟨j, h1, h2, h3⟩ := erase_mapW xs k hk
  have hj : j < xs.length := (List.getElem?_eq_some_iff.mp h1).1
  have at2 : ∀ (m : Nat) (hm : m < its.toArray.size) (hm2 : m < xs.length), isW k its.toArray[m] = decide (xs[m] = k) := fun m hm hm2 => by
    obtain ⟨y, tm, hy, ev⟩ := txt_at sa (i := m) (v := its.toArray[m]) (by rw [List.getElem?_eq_getElem (by simpa using hm)]; simp)
    rw [ev]
    rw [List.getElem?_map, List.getElem?_eq_getElem hm2] at hy
    have ey := Option.some.inj hy
    subst ey
    show ((stS xs[m]).cps.toList == k) = _
    rw [show (stS xs[m]).cps.toList = xs[m] by simp]
    by_cases g : xs[m] = k
    · rw [g]; simp
    · rw [decide_eq_false g]; exact beq_eq_false_iff_ne.mpr g
  refine call_meets PySem.F.slot_list_remove ⟨_, e, rfl⟩ PySem.F.entry_list_remove (PySem.F.args_list_remove_2 _ _)
    (MeetsSeq.list_remove l its.toArray n (.str (stS k) t) (isW k) (fun y hy => isW_gives sa y (by simpa using hy)) j (by simp; omega) ?_ (fun m hm mj => ?_) (by rw [List.size_toArray]; omega)) ⟨e, ?_⟩
  · rw [at2 j (by simp; omega) hj]
    rw [List.getElem?_eq_getElem hj] at h1
    exact decide_eq_true (Option.some.inj h1)
  · have hm2 : m < xs.length := by omega
    rw [at2 m hm hm2]
    exact decide_eq_false fun g => h2 m mj (by rw [List.getElem?_eq_getElem hm2, g])
  · have rr := r.eraseIdx j
    have e4 : (sL xs).eraseIdx j = sL (xs.erase k) := by
      rw [← h3]
      exact (erase_sL xs j)
    rw [e4] at rr
    refine ⟨.non, _, I.lset (its' := its.eraseIdx j) (t' := s.toks) at1 e ?_ rr ?_, rfl, q⟩
    · show its.toArray.eraseIdxIfInBounds j = (its.eraseIdx j).toArray
      rw [List.eraseIdxIfInBounds_toArray]
    · rw [sL_len]
      have := List.length_erase_of_mem hk
      omega

/-! ### a text many times -/
theorem rep_cps (z : Str) : ∀ k : Nat, ((List.replicate k z.cps).foldl (· ++ ·) #[]).toList = rpt k z.cps.toList := by
  have gen : ∀ (k : Nat) (acc : Array Nat), ((List.replicate k z.cps).foldl (· ++ ·) acc).toList = acc.toList ++ rpt k z.cps.toList := by
    intro k
    induction k with
    | zero => intro acc; simp [rpt]
    | succ k ih => intro acc; rw [List.replicate_succ, List.foldl_cons, ih, rpt_succ, Array.toList_append, List.append_assoc]
  intro k
  rw [gen]; simp
theorem op_repS : OpR X (binaryOp .Mult) (fun x y H Q => ∃ (w : Wd) (k : Nat), x = sV w ∧ y = .int k ∧ 2 ≤ k ∧ k ≤ 1000 ∧ 1 ≤ w.length ∧ w.length * k ≤ 1000 ∧ Q (sV (rpt k w)) H) := by
  intro pins s σ H x y v u Q I rx ry ⟨w, k, e1, e2, k1, k2, w1, w2, q⟩
  subst e1 e2
  obtain ⟨t, rfl⟩ := rx
  obtain ⟨t2, rfl⟩ := ry
  have ne : ((k : Int) == 1 || (stS w).length == 0) = false := by
    rw [S_len, Bool.or_eq_false_iff]
    exact ⟨beq_eq_false_iff_ne.mpr (by omega), beq_eq_false_iff_ne.mpr (by omega)⟩
  have w3 : w.length ≤ w.length * k := Nat.le_mul_of_pos_right _ (by omega)
  refine PySem.P.mul_str (by rw [decide_eq_false (by omega), decide_eq_false (by omega)]; rfl) (fun _ _ => ?_) (fun _ _ => ?_) ?_
  · rw [S_len]
    have : (1000 : Int) ≤ (2 ^ 63 - 1) / (k : Int) := (Int.le_ediv_iff_mul_le (by omega)).mpr (by omega)
    omega
  · rw [S_len, Int.toNat_natCast]
    exact decide_eq_false (Nat.not_lt.mpr (Nat.le_of_lt (small1000 w2)))
  · rw [if_neg (by omega), if_neg (by rw [ne]; decide), Int.toNat_natCast]
    have e : (⟨(List.replicate k (stS w).cps).foldl (· ++ ·) #[]⟩ : Str) = stS (rpt k w) := by
      have := rep_cps (stS w) k
      show (⟨_⟩ : Str) = ⟨(rpt k w).toArray⟩
      congr 1
      apply Array.ext'
      rw [this]
    rw [e]
    exact ⟨(by rw [S_len, rpt_len, Nat.mul_comm]; exact Nat.le_of_lt (small1000 w2)), .str (stS (rpt k w)), H, I.tok _, ⟨_, rfl⟩, q⟩
end
end Tw
/-! One more rule of our own: two lists put together, each of any standing. -/
namespace Tw
open PySem PySem.Spec PyProof.Rows L2 MT
section
variable {X : Cx}
theorem op_catK : OpR X (binaryOp .Add) (fun x y H Q => ∃ (l b : Addr) (xs zs : List V), x = .ref l ∧ y = .ref b ∧ SqL X.K H l xs ∧ SqL X.K H b zs ∧ xs.length + zs.length ≤ sizeLine ∧ ∀ p, H p = none → Q (.ref p) (upd H p (.lst (xs ++ zs)))) := by
  intro pins s σ H x y v u Q I rx ry ⟨l, b, xs, zs, e1, e2, h1, h2, few, q⟩
  subst e1 e2
  cases rx
  cases ry
  obtain ⟨i1, r1, ⟨⟨c1, d1, dat1, sl1⟩, n1, at1, hc1, hd1, hs1⟩, _⟩ := I.list h1
  obtain ⟨i2, r2, ⟨⟨c2, d2, dat2, sl2⟩, n2, at2, hc2, hd2, hs2⟩, _⟩ := I.list h2
  simp only at hc1 hs1 hc2 hs2
  subst hc1 hs1 hc2 hs2
  have few2 : i1.toArray.size + i2.toArray.size ≤ sizeLine := by rw [List.size_toArray, List.size_toArray, ← r1.length, ← r2.length]; exact few
  refine concat_meets ⟨_, at1, rfl⟩ ⟨_, at2, rfl⟩ noFill_list_add seq_list_add PySem.F.slot_list_add PySem.F.entry_list_add (PySem.F.args_list_add_2 _ _) (list_addW l b i1.toArray i2.toArray n1 n2 d1 d2 sl1 sl2 few2) ⟨at1, at2, ?_⟩
  have e : i1.toArray ++ i2.toArray = (i1 ++ i2).toArray := by simp
  rw [e]
  exact ⟨.ref _, _, I.lnew (t' := s.toks) (r1.append r2) (by rw [List.length_append]; exact few), rfl, q _ I.fresh⟩
end
end Tw
namespace Tw
open PySem PySem.Spec PyProof.Rows L2 MT MW
section
variable {P : Program} {w : World} {K : PySem.W.Frag} {mg : Str → Option Value} {base : Heap} {CW CD : Addr}
/-! ### words -/
def spBegin : Sp := fun vs H Q _ => ∃ w : Wd, vs = [sV w] ∧ w.length ≤ 1000 ∧ Q (sV (bgn w)) H
theorem ok_begin_of (T : Txt K mg CW CD) : Df P w K mg base 1 "begin_of" ["word"] spBegin := by
  refine df_of T.d_begin_of sc_begin_of bd_begin_of (fun vs H Q E h => ?_) (fun f cdv A outer s H vs Q E hr h => ?_)
  · obtain ⟨w, rfl, _⟩ := h
    rfl
  · obtain ⟨w, rfl, hl, q⟩ := h
    refine ⟨_, (pss_one (ps_ret (pe_slice sl_str (pv 0) po_none (po_some (pe_un un_neg pe_int))))), ?_⟩
    refine ⟨_, rfl, _, rfl, _, rfl, _, rfl, ?_, ?_⟩
    · rw [S_len]; exact Nat.le_of_lt (small1000 hl)
    · have e := cut_bgn w
      show Q (.str (cutS ⟨w.toArray⟩ none (some (-1)))) H
      rw [e]
      exact q
def spEnd : Sp := fun vs H Q _ => ∃ w : Wd, vs = [sV w] ∧ w.length ≤ 1000 ∧ Q (sV (enn w)) H
theorem ok_end_of (T : Txt K mg CW CD) : Df P w K mg base 1 "end_of" ["word"] spEnd := by
  refine df_of T.d_end_of sc_end_of bd_end_of (fun vs H Q E h => ?_) (fun f cdv A outer s H vs Q E hr h => ?_)
  · obtain ⟨w, rfl, _⟩ := h
    rfl
  · obtain ⟨w, rfl, hl, q⟩ := h
    refine ⟨_, (pss_one (ps_ret (pe_slice sl_str (pv 0) (po_some pe_int) po_none))), ?_⟩
    refine ⟨_, rfl, _, rfl, _, rfl, ?_, ?_⟩
    · rw [S_len]; exact Nat.le_of_lt (small1000 hl)
    · have e := cut_enn w
      show Q (.str (cutS ⟨w.toArray⟩ (some 1) none)) H
      rw [e]
      exact q
def spSound : Sp := fun vs H Q _ => ∃ w : Wd, vs = [sV w] ∧ 1 ≤ w.length ∧ w.length ≤ 8 ∧ (∀ c ∈ w, 97 ≤ c ∧ c < 103) ∧ Q (.bl true) H
theorem signs6 : ("abcdef" : Str).cps.toList = [97, 98, 99, 100, 101, 102] := by decide +kernel
theorem ok_is_sound (T : Txt K mg CW CD) : Df P w K mg base 1 "is_sound" ["word"] spSound := by
  refine df_of T.d_is_sound sc_is_sound bd_is_sound (fun vs H Q E h => ?_) (fun f cdv A outer s H vs Q E hr h => ?_)
  · obtain ⟨w, rfl, _⟩ := h
    rfl
  · obtain ⟨w, rfl, h1, h8, hc, q⟩ := h
    refine ⟨_, (pss_cons (ps_if (PW.pt (pw_or (pt_cmpR op_lt (pe_callB call_len_str (by rfl) T.n_len PySem.boot_len (pa_cons (pv 0) pa_nil)) pe_int (nomark _)) (pw_or1 (pt_cmpR op_gt (pe_callB call_len_str (by rfl) T.n_len PySem.boot_len (pa_cons (pv 0) pa_nil)) (pe_gl T.cMOST_LETTERS) (nomark _)))))
    (pss_one (ps_ret pe_bl))
    pss_nil)
    (pss_cons (ps_for PassesOwn.never rfl (pi_str (pv 0)) (pg_name (i := 1) sc_is_sound.nd rfl (Or.inl rfl))
    (pss_one (ps_if (pt_cmpR op_notIn_sign (pv 1) (pe_gl T.cSIGNS) rfl)
    (pss_one (ps_ret pe_bl))
    pss_nil)))
    (pss_one (ps_ret pe_bl)))), ?_⟩
    have hlen : (⟨w.toArray⟩ : Str).length ≤ sizeLine := by rw [S_len]; exact Nat.le_of_lt (small1000 (by omega))
    refine ⟨_, rfl, _, rfl, hlen, _, _, rfl, rfl, _, rfl, ?_⟩
    rw [decide_eq_false (by rw [S_len]; omega)]
    refine iteF ?_
    refine ⟨_, rfl, _, rfl, hlen, _, _, rfl, rfl, _, rfl, ?_⟩
    rw [decide_eq_false (by rw [S_len]; omega)]
    refine iteF ?_
    refine ⟨_, rfl, _, rfl, ?_⟩
    refine ⟨fun i m σ H' => m = w.length - i ∧ i ≤ w.length ∧ H' = H ∧ ∃ z, σ = [some (sV w), z], ⟨_, rfl, Nat.zero_le _, rfl, none, rfl⟩, ?_⟩
    rintro i m σ H' ⟨rfl, hi, rfl, z, rfl⟩
    have hsz : (⟨w.toArray⟩ : Str).cps.size = w.length := by simp
    by_cases hlt : i < w.length
    · refine .inr ⟨by show i < (⟨w.toArray⟩ : Str).cps.size; rw [hsz]; exact hlt, fun σ' H2 => H2 = H' ∧ ∃ z, σ' = [some (sV w), z], fun σ' H2 ⟨e, z, ez⟩ => ⟨w.length - (i + 1), by omega, rfl, hlt, e, z, ez⟩, fun x H2 hy => ?_⟩
      obtain ⟨rfl, c, ec, rfl⟩ := hy
      have hcw : c ∈ w := by
        have : w[i]? = some c := by simpa using ec
        exact List.mem_of_getElem? this
      have hin : c ∈ ("abcdef" : Str).cps.toList := by
        rw [signs6]
        have := hc c hcw
        have : c = 97 ∨ c = 98 ∨ c = 99 ∨ c = 100 ∨ c = 101 ∨ c = 102 := by omega
        rcases this with rfl | rfl | rfl | rfl | rfl | rfl <;> decide
      refine ⟨_, rfl, c, _, rfl, rfl, _, rfl, ?_⟩
      rw [decide_eq_true hin]
      exact iteF ⟨rfl, _, rfl⟩
    · refine .inl ⟨by show (⟨w.toArray⟩ : Str).cps.size ≤ i; rw [hsz]; omega, ?_⟩
      exact q

/-! ### the web's words -/
def spOuts (CW : Addr) : Sp := fun vs H Q _ => ∃ (p t : Addr) (ws : List Wd) (L : Nat) (v : Wd), vs = [.ref p, sV v] ∧ WebAt CW H p ws L t ∧ ∀ q H', Same H H' → H q = none → H' q = some (.lst (sL (gone bgn ws v))) → Q (.ref q) H'
def cameBy (l : List Wd) (v : Wd) : List Wd := l.filter fun x => decide (enn x = v)
def spIns (CW : Addr) : Sp := fun vs H Q _ => ∃ (p t : Addr) (ws : List Wd) (L : Nat) (v : Wd), vs = [.ref p, sV v] ∧ WebAt CW H p ws L t ∧ ∀ q H', Same H H' → H q = none → H' q = some (.lst (sL (cameBy ws v))) → Q (.ref q) H'
theorem w1000 {ws : List Wd} {L : Nat} (h : WebOk ws L) {x : Wd} (hx : x ∈ ws) : x.length ≤ 1000 := by have := h.len x hx; have := h.hi; omega
theorem ok_outs (T : Txt K mg CW CD) : Df P w K mg base 2 "outs" ["web", "piece"] (spOuts CW) := by
  refine df_of T.d_outs sc_outs bd_outs (fun vs H Q E h => ?_) (fun f cdv A outer s H vs Q E hr h => ?_)
  · obtain ⟨p, t, ws, L, v, rfl, _⟩ := h
    rfl
  · obtain ⟨p, t, ws, L, v, rfl, W, q⟩ := h
    obtain ⟨dx, hob⟩ := W.ob
    refine ⟨_, (pss_one (ps_ret (pe_lc (own := [("word", 2)]) (g := gName 2) rfl sc_outs.nd (pi_tup (pe_fld (pv 0) rfl)) (blkOk_by (own := [("word", 2)]) (N := ["web", "piece", "word"]) (sc := defScope s_outs) (by decide +kernel)) (fun _ _ _ _ _ => pg_name (i := 2) sc_outs.nd rfl (Or.inl rfl)) (fun _ _ _ _ _ => (pts_one (pt_cmpR op_eq (pe_fn (ok_begin_of T) hr (pa_cons (pv 2) pa_nil)) (pv 1) (nomark _)))) (fun _ _ _ _ _ => (pv 2))))), ?_⟩
    refine ⟨_, rfl, p, CW, dx, _, _, rfl, hob, T.cWeb, T.aWeb_words, webF_words _ _, t, rfl, ⟨_, SqT.of W.tp⟩, fun D nD => ?_⟩
    refine lc_tup (K := K) (a := t) (xs := sL ws) (fun i H' => Same H H' ∧ H' D = some (.lst (sL (gone bgn (ws.take i) v)))) ⟨same_upd nD, upd_same⟩ (fun i H' _ h => SqT.of (h.1 _ _ W.tp)) (fun i x H' hx ⟨hs, hD⟩ => ?_) (fun H' ⟨hs, hD⟩ => ?_)
    · obtain ⟨x, hx', rfl⟩ := sL_at hx
      have hxm := List.mem_of_getElem? hx'
      refine ⟨rfl, _, rfl, x, rfl, w1000 W.ok hxm, _, rfl, rfl, _, rfl, ?_⟩
      rw [dec_sV, take_snoc hx']
      unfold gone
      rw [filter_snoc]
      by_cases e : bgn x = v
      · rw [decide_eq_true e]
        refine iteT ⟨_, rfl, _, hD, ?_, same_chg hs nD, ?_⟩
        · rw [sL_len]
          refine small1000 (Nat.le_trans (List.length_filter_le ..) ?_)
          rw [List.length_take]; have := W.ok.few; omega
        · rw [upd_same, if_pos rfl, sL_app]; rfl
      · rw [decide_eq_false e]
        refine iteF ⟨hs, ?_⟩
        rw [hD, if_neg (by decide), List.append_nil]; rfl
    · rw [sL_len, List.take_length] at hD
      exact q D H' hs nD hD
theorem ok_ins (T : Txt K mg CW CD) : Df P w K mg base 2 "ins" ["web", "piece"] (spIns CW) := by
  refine df_of T.d_ins sc_ins bd_ins (fun vs H Q E h => ?_) (fun f cdv A outer s H vs Q E hr h => ?_)
  · obtain ⟨p, t, ws, L, v, rfl, _⟩ := h
    rfl
  · obtain ⟨p, t, ws, L, v, rfl, W, q⟩ := h
    obtain ⟨dx, hob⟩ := W.ob
    refine ⟨_, (pss_one (ps_ret (pe_lc (own := [("word", 2)]) (g := gName 2) rfl sc_ins.nd (pi_tup (pe_fld (pv 0) rfl)) (blkOk_by (own := [("word", 2)]) (N := ["web", "piece", "word"]) (sc := defScope s_ins) (by decide +kernel)) (fun _ _ _ _ _ => pg_name (i := 2) sc_ins.nd rfl (Or.inl rfl)) (fun _ _ _ _ _ => (pts_one (pt_cmpR op_eq (pe_fn (ok_end_of T) hr (pa_cons (pv 2) pa_nil)) (pv 1) (nomark _)))) (fun _ _ _ _ _ => (pv 2))))), ?_⟩
    refine ⟨_, rfl, p, CW, dx, _, _, rfl, hob, T.cWeb, T.aWeb_words, webF_words _ _, t, rfl, ⟨_, SqT.of W.tp⟩, fun D nD => ?_⟩
    refine lc_tup (K := K) (a := t) (xs := sL ws) (fun i H' => Same H H' ∧ H' D = some (.lst (sL (cameBy (ws.take i) v)))) ⟨same_upd nD, upd_same⟩ (fun i H' _ h => SqT.of (h.1 _ _ W.tp)) (fun i x H' hx ⟨hs, hD⟩ => ?_) (fun H' ⟨hs, hD⟩ => ?_)
    · obtain ⟨x, hx', rfl⟩ := sL_at hx
      have hxm := List.mem_of_getElem? hx'
      refine ⟨rfl, _, rfl, x, rfl, w1000 W.ok hxm, _, rfl, rfl, _, rfl, ?_⟩
      rw [dec_sV, take_snoc hx']
      unfold cameBy
      rw [filter_snoc]
      by_cases e : enn x = v
      · rw [decide_eq_true e]
        refine iteT ⟨_, rfl, _, hD, ?_, same_chg hs nD, ?_⟩
        · rw [sL_len]
          refine small1000 (Nat.le_trans (List.length_filter_le ..) ?_)
          rw [List.length_take]; have := W.ok.few; omega
        · rw [upd_same, if_pos rfl, sL_app]; rfl
      · rw [decide_eq_false e]
        refine iteF ⟨hs, ?_⟩
        rw [hD, if_neg (by decide), List.append_nil]; rfl
    · rw [sL_len, List.take_length] at hD
      exact q D H' hs nD hD
end
end Tw
namespace Tw
open PySem PySem.Spec PyProof.Rows L2 MT MW
section
variable {P : Program} {w : World} {K : PySem.W.Frag} {mg : Str → Option Value} {base : Heap} {CW CD : Addr}
theorem sg_lo {ws : List Wd} {L : Nat} (h : WebOk ws L) : Lo ws := fun w hw c hc => by have := h.sg w hw c hc; omega
theorem mem_take_succ {ws : List Wd} {i : Nat} {x : Wd} (h : ws[i]? = some x) (y : Wd) : y ∈ ws.take (i + 1) ↔ y ∈ ws.take i ∨ y = x := by
  rw [take_snoc h, List.mem_append, List.mem_singleton]
def spPieces (CW : Addr) : Sp := fun vs H Q _ => ∃ (p t : Addr) (ws : List Wd) (L : Nat), vs = [.ref p] ∧ WebAt CW H p ws L t ∧ ∀ q H', Same H H' → H q = none → H' q = some (.lst (sL (pcs ws))) → Q (.ref q) H'
theorem ok_pieces (T : Txt K mg CW CD) : Df P w K mg base 2 "pieces" ["web"] (spPieces CW) := by
  refine df_of T.d_pieces sc_pieces bd_pieces (fun vs H Q E h => ?_) (fun f cdv A outer s H vs Q E hr h => ?_)
  · obtain ⟨p, t, ws, L, rfl, _⟩ := h
    rfl
  · obtain ⟨p, t, ws, L, rfl, W, q⟩ := h
    have hu := hu_of hr
    refine ⟨_, (pss_cons (ps_set (i := 1) sc_pieces.nd rfl (Or.inl rfl) pe_dnewK)
    (pss_cons (ps_for PassesOwn.never rfl (pi_tup (pe_fld (pv 0) rfl)) (pg_name (i := 2) sc_pieces.nd rfl (Or.inl rfl))
    (pss_cons (ps_dput hu (pv 1) (pe_fn (ok_begin_of T) hr (pa_cons (pv 2) pa_nil)) pe_bl rfl)
    (pss_one (ps_dput hu (pv 1) (pe_fn (ok_end_of T) hr (pa_cons (pv 2) pa_nil)) pe_bl rfl))))
    (pss_one (ps_ret (pe_callB (cr_sortDW rfl) (by rfl) T.n_sorted (by decide +kernel) (pa_cons (pv 1) pa_nil)))))), ?_⟩
    intro d nd
    have W1 := W.same (same_upd (o := .dK []) nd)
    obtain ⟨dx, hob⟩ := W1.ob
    refine ⟨_, rfl, p, CW, dx, _, _, rfl, hob, T.cWeb, T.aWeb_words, webF_words _ _, t, rfl, ⟨_, SqT.of W1.tp⟩, ?_⟩
    refine for_tup (K := K) (a := t) (xs := sL ws) (fun i σ H' => ∃ ks f z, σ = [some (.ref p), some (.ref d), z] ∧ Same H H' ∧ H' d = some (.dK (dkv ks f)) ∧ ks.Nodup ∧ ks.length ≤ 2 * i ∧ ∀ k, k ∈ ks ↔ ∃ x ∈ ws.take i, bgn x = k ∨ enn x = k)
      ⟨[], fun _ => .non, none, rfl, same_upd nd, upd_same, List.nodup_nil, Nat.zero_le _, fun k => by simp⟩ (fun i σ H' _ h => ?_) (fun i x σ H' hx h => ?_) (fun σ H' h => ?_)
    · obtain ⟨_, _, _, _, hs, _⟩ := h
      exact SqT.of (hs _ _ W.tp)
    · obtain ⟨ks, fv, z, rfl, hs, hd, hn, hl, hm⟩ := h
      obtain ⟨y, hy, rfl⟩ := sL_at hx
      have hym := List.mem_of_getElem? hy
      have hi : i < 16 := by
        have := W.ok.few
        by_cases g : i < ws.length
        · omega
        · rw [List.getElem?_eq_none (by omega)] at hy; cases hy
      refine ⟨_, rfl, _, rfl, y, rfl, w1000 W.ok hym, d, _, rfl, dput_w hd (by omega), ?_⟩
      refine ⟨_, rfl, _, rfl, y, rfl, w1000 W.ok hym, d, _, rfl, dput_w upd_same (Nat.le_trans kadd_len (by omega)), ?_⟩
      refine ⟨_, _, _, rfl, same_chg (same_chg hs nd) nd, upd_same, kadd_nd (kadd_nd hn), ?_, fun k => ?_⟩
      · have h1 := kadd_len (ks := ks) (k := bgn y)
        have h2 := kadd_len (ks := kadd ks (bgn y)) (k := enn y)
        omega
      · rw [mem_kadd, mem_kadd, hm]
        constructor
        · rintro ((⟨x, hx, e⟩ | e) | e)
          · exact ⟨x, (mem_take_succ hy x).mpr (.inl hx), e⟩
          · exact ⟨y, (mem_take_succ hy y).mpr (.inr rfl), .inl e.symm⟩
          · exact ⟨y, (mem_take_succ hy y).mpr (.inr rfl), .inr e.symm⟩
        · rintro ⟨x, hx, e⟩
          rcases (mem_take_succ hy x).mp hx with hx | rfl
          · exact .inl (.inl ⟨x, hx, e⟩)
          · rcases e with e | e
            · exact .inl (.inr e.symm)
            · exact .inr e.symm
    · obtain ⟨ks, fv, z, rfl, hs, hd, hn, hl, hm⟩ := h
      rw [sL_len] at hl hm
      rw [List.take_length] at hm
      have hfew := W.ok.few
      refine ⟨_, rfl, d, ks, fv, rfl, .of hd, hn, by omega, fun r nr => ?_⟩
      have e : srt ks = pcs ws := srt_eq (pcs_asc ws) fun k => by
        rw [mem_pcs, hm]
        constructor
        · rintro (⟨x, hx, e⟩ | ⟨x, hx, e⟩)
          · exact ⟨x, hx, .inl e⟩
          · exact ⟨x, hx, .inr e⟩
        · rintro ⟨x, hx, e | e⟩
          · exact .inl ⟨x, hx, e⟩
          · exact .inr ⟨x, hx, e⟩
      rw [e]
      exact q r _ (hs.trans (same_upd nr)) (hs.free nr) upd_same

def spExcess (CW : Addr) : Sp := fun vs H Q _ => ∃ (p t a : Addr) (ws : List Wd) (L : Nat) (v : Wd), vs = [.ref p, .ref a] ∧ WebAt CW H p ws L t ∧ H a = some (.lst [sV v]) ∧ ∀ H', Same H H' → Q (.int ((outd bgn ws v : Int) - (ind enn ws v : Int))) H'
theorem ok_excess (T : Txt K mg CW CD) : Df P w K mg base 3 "excess" ["web", "some"] (spExcess CW) := by
  refine df_of T.d_excess sc_excess bd_excess (fun vs H Q E h => ?_) (fun f cdv A outer s H vs Q E hr h => ?_)
  · obtain ⟨p, t, a, ws, L, v, rfl, _⟩ := h
    rfl
  · obtain ⟨p, t, a, ws, L, v, rfl, W, ha, q⟩ := h
    refine ⟨_, (pss_cons (ps_set (i := 2) sc_excess.nd rfl (Or.inl rfl) pe_int)
    (pss_cons (ps_for PassesOwn.never rfl (pi_list (pv 1)) (pg_name (i := 3) sc_excess.nd rfl (Or.inl rfl))
    (pss_one (ps_set (i := 2) sc_excess.nd rfl (Or.inl rfl) (pe_op op_sub (pe_op op_add (pv 2) (pe_callB call_len_seq (by rfl) T.n_len PySem.boot_len (pa_cons (pe_fn (ok_outs T) hr (pa_cons (pv 0) (pa_cons (pv 3) pa_nil))) pa_nil))) (pe_callB call_len_seq (by rfl) T.n_len PySem.boot_len (pa_cons (pe_fn (ok_ins T) hr (pa_cons (pv 0) (pa_cons (pv 3) pa_nil))) pa_nil))))))
    (pss_one (ps_ret (pv 2))))), ?_⟩
    refine ⟨_, rfl, a, rfl, ⟨_, SqL.of ha⟩, ?_⟩
    refine for_list (K := K) (a := a) (xs := [sV v]) (fun i σ H' => ∃ z, σ = [some (.ref p), some (.ref a), some (.int (if i = 0 then 0 else (outd bgn ws v : Int) - (ind enn ws v : Int))), z] ∧ Same H H')
      ⟨none, rfl, Same.refl H⟩ (fun i σ H' _ h => ?_) (fun i x σ H' hx h => ?_) (fun σ H' h => ?_)
    · obtain ⟨_, _, hs⟩ := h
      exact SqL.of (hs _ _ ha)
    · obtain ⟨z, rfl, hs⟩ := h
      obtain ⟨rfl, rfl⟩ : i = 0 ∧ x = sV v := by
        match i, hx with
        | 0, hx => exact ⟨rfl, (Option.some.inj hx).symm⟩
        | i + 1, hx => exact (by simp at hx)
      refine ⟨_, rfl, _, rfl, _, rfl, p, t, ws, L, v, rfl, W.same hs, fun q1 H1 s1 n1 e1 => ?_⟩
      refine ⟨q1, _, rfl, .inl (SqL.of e1), _, _, rfl, rfl, ?_⟩
      refine ⟨_, rfl, _, rfl, p, t, ws, L, v, rfl, W.same (hs.trans s1), fun q2 H2 s2 n2 e2 => ?_⟩
      refine ⟨q2, _, rfl, .inl (SqL.of e2), _, _, rfl, rfl, some (sV v), ?_, (hs.trans s1).trans s2⟩
      have l1 : (sL (gone bgn ws v)).length = outd bgn ws v := by rw [sL_len]; exact filter_len
      have l2 : (sL (cameBy ws v)).length = ind enn ws v := by rw [sL_len]; unfold cameBy ind; rw [List.countP_eq_length_filter]
      rw [l1, l2]
      show [some (V.ref p), some (V.ref a), some (V.int (0 + (outd bgn ws v : Int) - (ind enn ws v : Int))), some (sV v)] = [some (V.ref p), some (V.ref a), some (V.int (if (0 : Nat) + 1 = 0 then 0 else (outd bgn ws v : Int) - (ind enn ws v : Int))), some (sV v)]
      rw [if_neg (by omega), Int.zero_add]
    · obtain ⟨z, rfl, hs⟩ := h
      refine ⟨_, rfl, ?_⟩
      exact q H' hs
end
end Tw
namespace Tw
open PySem PySem.Spec PyProof.Rows L2 MT MW
section
variable {P : Program} {w : World} {K : PySem.W.Frag} {mg : Str → Option Value} {base : Heap} {CW CD : Addr}
/-- a comprehension that makes a word of each word -/
theorem lc_mapw {a D : Addr} {us : List Wd} {f : Wd → Wd} {i0 : Nat} {te : TE} {vs : List Nat} {σ : L2.St} {H1 : Hp} {Qd : Hp → Prop} (ha : SqL K H1 a (sL us)) (nD : H1 D = none) (hl : us.length ≤ 1000)
    (hw : ∀ w : Wd, wipe ((wipe σ vs).set i0 (some (sV w))) vs = wipe σ vs)
    (hte : ∀ (w : Wd) (H' : Hp) (Q : VK), w ∈ us → Same H1 H' → (∀ H2, Same H' H2 → Q (sV (f w)) H2) → te ((wipe σ vs).set i0 (some (sV w))) H' Q)
    (hd : ∀ H', Same H1 H' → H' D = some (.lst (sL (us.map f))) → Qd H') :
    ∃ W : Nat → Nat → Hp → Prop, (∃ m, W 0 m (upd H1 D (.lst []))) ∧ ∀ i m H, W i m H →
      ((Itl K a).stop i H ∧ Qd H) ∨ ((Itl K a).go i H ∧ ∃ Nx : Hp → Prop, (∀ H', Nx H' → ∃ m', m' < m ∧ W (i + 1) m' H') ∧ ∀ x H', (Itl K a).yld i H x H' → gName i0 x (wipe σ vs) H' fun σ2 H2 => wipe σ2 vs = wipe σ vs ∧ tYes σ2 H2 fun b H3 =>
        if b = true then te σ2 H3 fun y H4 => ∃ acc, H4 D = some (.lst acc) ∧ acc.length < sizeLine ∧ Nx (upd H4 D (.lst (acc ++ [y]))) else Nx H3) := by
  refine lc_list (K := K) (a := a) (xs := sL us) (fun i H' => Same H1 H' ∧ H' D = some (.lst (sL ((us.take i).map f)))) ⟨same_upd nD, upd_same⟩ (fun i H' _ h => h.1.seq ha) (fun i x H' hx ⟨hs, hD⟩ => ?_) (fun H' ⟨hs, hD⟩ => ?_)
  · obtain ⟨y, hy, rfl⟩ := sL_at hx
    refine ⟨hw y, ?_⟩
    unfold tYes; dsimp only
    rw [if_pos rfl]
    refine hte y H' _ (List.mem_of_getElem? hy) hs fun H2 s2 => ⟨_, s2 _ _ hD, ?_, same_chg (hs.trans s2) nD, ?_⟩
    · rw [sL_len, List.length_map, List.length_take]; exact small1000 (by omega)
    · rw [upd_same, take_snoc hy, List.map_append, sL_app]; rfl
  · rw [sL_len, List.take_length] at hD
    exact hd H' hs hD

/-- met pieces, waiting ones; ex: whose neighbours are looked at -/
structure HJ (ws : List Wd) (v : Wd) (ms wt ex : List Wd) : Prop where
  nd : ms.Nodup
  sub : ∀ z ∈ ms, z ∈ pcs ws
  self : v ∈ ms
  wsub : ∀ z ∈ wt, z ∈ ms
  wl : wt.length ≤ ms.length
  clo : ∀ z ∈ ms, z ∉ wt → z ∉ ex → ∀ x ∈ ws, (bgn x = z → enn x ∈ ms) ∧ (enn x = z → bgn x ∈ ms)
  snd : ∀ P : Wd → Prop, (∀ x ∈ ws, P (bgn x) ↔ P (enn x)) → P v → ∀ z ∈ ms, P z
theorem nd_len_le {α : Type} [DecidableEq α] : ∀ {l k : List α}, l.Nodup → k.Nodup → (∀ x ∈ l, x ∈ k) → l.length ≤ k.length
  | [], _, _, _, _ => Nat.zero_le _
  | x :: l, k, hl, hk, h => by
    have hl' := List.nodup_cons.mp hl
    have hx := h x (List.mem_cons_self ..)
    have := nd_len_le hl'.2 (wo_nodup (x := x) hk) fun y hy => mem_wo.mpr ⟨h y (List.mem_cons_of_mem _ hy), fun e => hl'.1 (e ▸ hy)⟩
    have := wo_length hk hx
    rw [List.length_cons]; omega
/-- what hanging tells -/
structure HangOk (ws : List Wd) (v : Wd) (hs : List Wd) : Prop where
  nd : hs.Nodup
  sub : ∀ z ∈ hs, z ∈ pcs ws
  self : v ∈ hs
  clo : ∀ x ∈ ws, bgn x ∈ hs ↔ enn x ∈ hs
  snd : ∀ P : Wd → Prop, (∀ x ∈ ws, P (bgn x) ↔ P (enn x)) → P v → ∀ z ∈ hs, P z
def spHang (CW : Addr) : Sp := fun vs H Q _ => ∃ (p t : Addr) (ws : List Wd) (L : Nat) (v : Wd), vs = [.ref p, sV v] ∧ WebAt CW H p ws L t ∧ v ∈ pcs ws ∧
  ∀ q H' hs, Same H H' → H q = none → H' q = some (.lst (sL hs)) → HangOk ws v hs → Q (.ref q) H'
theorem w1000p {ws : List Wd} {L : Nat} (h : WebOk ws L) {z : Wd} (hz : z ∈ pcs ws) : z.length ≤ 1000 := by
  rcases mem_pcs.mp hz with ⟨x, hx, rfl⟩ | ⟨x, hx, rfl⟩
  · have := (bg_en_len (w := x)).1; have := w1000 h hx; omega
  · have := (bg_en_len (w := x)).2; have := w1000 h hx; omega
theorem ok_hanging (T : Txt K mg CW CD) : Df P w K mg base 3 "hanging" ["web", "piece"] (spHang CW) := by
  refine df_of T.d_hanging sc_hanging bd_hanging (fun vs H Q E h => ?_) (fun f cdv A outer s H vs Q E hr h => ?_)
  · obtain ⟨p, t, ws, L, v, rfl, _⟩ := h
    rfl
  · obtain ⟨p, t, ws, L, v, rfl, W, hv, q⟩ := h
    have hu := hu_of hr
    have hpc := W.ok.pc
    have hfew := W.ok.few
    refine ⟨_, (pss_cons (ps_if (pt_cmpR op_notInW (pv 1) (pe_fn (ok_pieces T) hr (pa_cons (pv 0) pa_nil)) rfl)
    (pss_one ps_never)
    pss_nil)
    (pss_cons (ps_set (i := 2) sc_hanging.nd rfl (Or.inl rfl) (pe_disp (pps_cons (pv 1) pe_bl pps_nil) (by rfl) (by rfl) (fun z => by cases z) (by decide)))
    (pss_cons (ps_set (i := 3) sc_hanging.nd rfl (Or.inl rfl) (pe_lst (pa_cons (pv 1) pa_nil)))
    (pss_cons (ps_while PassesOwn.never (pt_cmpR op_gt (pe_callB call_len_seq (by rfl) T.n_len PySem.boot_len (pa_cons (pv 3) pa_nil)) pe_int (nomark _))
    (pss_cons (ps_set (i := 4) sc_hanging.nd rfl (Or.inl rfl) (pe_bm0 PySem.F.plainAttrs_list PySem.F.slot_list_pop PySem.F.type_list_pop mt_pop (pv 3)))
    (pss_one (ps_for PassesOwn.never rfl (pi_list (pe_op op_cat (pe_lc (own := [("word", 6)]) (g := gName 6) rfl sc_hanging.nd (pi_list (pe_fn (ok_outs T) hr (pa_cons (pv 0) (pa_cons (pv 4) pa_nil)))) (blkOk_by (own := [("word", 6)]) (N := ["web", "piece", "met", "waiting", "here", "other", "word"]) (sc := defScope s_hanging) (by decide +kernel)) (fun _ _ _ _ _ => pg_name (i := 6) sc_hanging.nd rfl (Or.inl rfl)) (fun _ _ _ _ _ => pts_nil) (fun _ _ _ _ _ => (pe_fn (ok_end_of T) hr (pa_cons (pv 6) pa_nil)))) (pe_lc (own := [("word", 6)]) (g := gName 6) rfl sc_hanging.nd (pi_list (pe_fn (ok_ins T) hr (pa_cons (pv 0) (pa_cons (pv 4) pa_nil)))) (blkOk_by (own := [("word", 6)]) (N := ["web", "piece", "met", "waiting", "here", "other", "word"]) (sc := defScope s_hanging) (by decide +kernel)) (fun _ _ _ _ _ => pg_name (i := 6) sc_hanging.nd rfl (Or.inl rfl)) (fun _ _ _ _ _ => pts_nil) (fun _ _ _ _ _ => (pe_fn (ok_begin_of T) hr (pa_cons (pv 6) pa_nil)))))) (pg_name (i := 5) sc_hanging.nd rfl (Or.inl rfl))
    (pss_one (ps_if (pt_cmp (pc_dnotin hu (pv 5) (pv 2)))
    (pss_cons (ps_dput hu (pv 2) (pv 5) pe_bl rfl)
    (pss_one (ps_expr (pe_bm PySem.F.plainAttrs_list PySem.F.slot_list_append PySem.F.type_list_append mt_append (pv 3) (pa_cons (pv 5) pa_nil)))))
    pss_nil))))))
    (pss_one (ps_ret (pe_callB (cr_sortDW rfl) (by rfl) T.n_sorted (by decide +kernel) (pa_cons (pv 2) pa_nil)))))))), ?_⟩
    refine ⟨_, rfl, _, rfl, p, t, ws, L, rfl, W, fun q1 H1 s1 n1 e1 => ⟨v, q1, pcs ws, rfl, rfl, .inl (SqL.of e1), _, rfl, ?_⟩⟩
    rw [if_pos rfl, decide_eq_true hv]
    refine iteF ?_
    intro d nd
    refine ⟨_, rfl, upd_same, [(Sum.inr (stS v), .bl true)], rfl, (by show 1 ≤ 15; decide), ?_⟩
    rw [upd_upd]
    refine ⟨_, rfl, (by show 1 ≤ sizeLine; decide), fun l nl => ?_⟩
    have nd1 : H1 d = none := nd
    have nld : l ≠ d := fun e => by rw [e, upd_same] at nl; cases nl
    have nl1 : H1 l = none := by rw [upd_ne nld] at nl; exact nl
    have nd0 : H d = none := s1.free nd1
    have nl0 : H l = none := s1.free nl1
    refine ⟨fun m σ H' => ∃ ms fv wt y4 y5 y6, σ = [some (.ref p), some (sV v), some (.ref d), some (.ref l), y4, y5, y6] ∧ Same H H' ∧ H' d = some (.dK (dkv ms fv)) ∧ H' l = some (.lst (sL wt)) ∧ HJ ws v ms wt [] ∧ m = 2 * ((pcs ws).length - ms.length) + wt.length,
      ⟨_, [v], fun _ => .bl true, [v], none, none, none, rfl, same_chg (same_chg s1 nd0) nl0, by rw [upd_ne nld.symm, upd_same]; rfl, upd_same,
        ⟨List.nodup_cons.mpr ⟨by simp, List.nodup_nil⟩, fun z hz => by rw [List.mem_singleton.mp hz]; exact hv, List.mem_singleton.mpr rfl, fun z hz => hz, Nat.le_refl _, fun z hz hz2 => absurd hz hz2, fun P _ hP z hz => by rw [List.mem_singleton.mp hz]; exact hP⟩, rfl⟩, ?_⟩
    rintro m σ H' ⟨ms, fv, wt, y4, y5, y6, rfl, hs, hd, hl, J, rfl⟩
    have W' := W.same hs
    have hms : ms.length ≤ (pcs ws).length := nd_len_le J.nd (pcs_nd ws) J.sub
    refine ⟨_, rfl, l, _, rfl, .inl (SqL.of hl), _, _, rfl, rfl, _, rfl, ?_⟩
    rw [sL_len]
    rcases List.eq_nil_or_concat wt with rfl | ⟨wt', hh, rfl⟩
    · refine iteF ?_
      refine ⟨_, rfl, d, ms, fv, rfl, .of hd, J.nd, by omega, fun r nr => ?_⟩
      refine q r _ (srt ms) (hs.trans (same_upd nr)) (hs.free nr) upd_same ⟨srt_nd ms, fun z hz => J.sub z (mem_srt.mp hz), mem_srt.mpr J.self, fun x hx => ?_, fun P hP hPv z hz => J.snd P hP hPv z (mem_srt.mp hz)⟩
      rw [mem_srt, mem_srt]
      exact ⟨fun hz => (J.clo _ hz (by simp) (by simp) x hx).1 rfl, fun hz => (J.clo _ hz (by simp) (by simp) x hx).2 rfl⟩
    · rw [List.concat_eq_append] at hl J ⊢
      have hlen : (wt' ++ [hh]).length = wt'.length + 1 := by rw [List.length_append]; rfl
      rw [decide_eq_true (by rw [hlen]; omega)]
      refine iteT ?_
      have hhm : hh ∈ ms := J.wsub hh (by simp)
      have hhp := J.sub hh hhm
      refine ⟨fun σ' H2 => ∃ m', m' < 2 * ((pcs ws).length - ms.length) + (wt' ++ [hh]).length ∧ ∃ ms fv wt y4 y5 y6, σ' = [some (.ref p), some (sV v), some (.ref d), some (.ref l), y4, y5, y6] ∧ Same H H2 ∧ H2 d = some (.dK (dkv ms fv)) ∧ H2 l = some (.lst (sL wt)) ∧ HJ ws v ms wt [] ∧ m' = 2 * ((pcs ws).length - ms.length) + wt.length, fun σ' H2 h => h, ?_⟩
      -- here = waiting.pop()
      refine ⟨_, rfl, .inl ⟨rfl, _, SqL.of hl⟩, l, _, sV hh, rfl, rfl, hl, ?_, ?_⟩
      · rw [sL_len, hlen, Nat.add_sub_cancel]
        exact sL_get (by rw [List.getElem?_append_right (Nat.le_refl _), Nat.sub_self]; rfl)
      have e0 : (sL (wt' ++ [hh])).dropLast = sL wt' := by rw [sL_app]; exact List.dropLast_concat
      rw [e0]
      generalize hH2 : upd H' l (.lst (sL wt')) = H2
      have s2 : Same H H2 := by rw [← hH2]; exact same_chg hs nl0
      have hd2 : H2 d = some (.dK (dkv ms fv)) := by rw [← hH2, upd_ne nld.symm]; exact hd
      have hl2 : H2 l = some (.lst (sL wt')) := by rw [← hH2, upd_same]
      have W2 := W.same s2
      refine ⟨_, rfl, _, rfl, p, t, ws, L, hh, rfl, W2, fun q3 H3 s3 n3 e3 => ⟨q3, rfl, ⟨_, SqL.of e3⟩, fun D1 nD1 => ?_⟩⟩
      have glen : (gone bgn ws hh).length ≤ 1000 := Nat.le_trans (List.length_filter_le ..) (by omega)
      have clen : (cameBy ws hh).length ≤ 1000 := Nat.le_trans (List.length_filter_le ..) (by omega)
      refine lc_mapw (us := gone bgn ws hh) (f := enn) (SqL.of e3) nD1 glen (fun _ => rfl) (fun x H' Q hx hs' hQ => ⟨_, rfl, x, rfl, w1000 W.ok (mem_gone.mp hx).1, hQ H' (Same.refl _)⟩) fun H4 s4 e4 => ?_
      have s24 : Same H2 H4 := s3.trans s4
      refine ⟨_, rfl, _, rfl, p, t, ws, L, hh, rfl, W2.same s24, fun q5 H5 s5 n5 e5 => ⟨q5, rfl, ⟨_, SqL.of e5⟩, fun D2 nD2 => ?_⟩⟩
      refine lc_mapw (us := cameBy ws hh) (f := bgn) (SqL.of e5) nD2 clen (fun _ => rfl) (fun x H' Q hx hs' hQ => ⟨_, rfl, x, rfl, w1000 W.ok (List.mem_filter.mp hx).1, hQ H' (Same.refl _)⟩) fun H6 s6 e6 => ?_
      have s26 : Same H2 H6 := s24.trans (s5.trans s6)
      refine ⟨D1, D2, _, _, rfl, rfl, (s5.trans s6) _ _ e4, e6, ?_, fun r nr => ⟨r, rfl, ⟨_, SqL.of upd_same⟩, ?_⟩⟩
      · rw [sL_len, sL_len, List.length_map, List.length_map]
        have : (gone bgn ws hh).length ≤ 16 := Nat.le_trans (List.length_filter_le ..) (by omega)
        have : (cameBy ws hh).length ≤ 16 := Nat.le_trans (List.length_filter_le ..) (by omega)
        exact Nat.le_of_lt (small1000 (by omega))
      rw [← sL_app]
      generalize hnb : (gone bgn ws hh).map enn ++ (cameBy ws hh).map bgn = nb
      have nbp : ∀ z ∈ nb, ∃ x ∈ ws, (bgn x = hh ∧ z = enn x) ∨ (enn x = hh ∧ z = bgn x) := fun z hz => by
        rw [← hnb] at hz
        rcases List.mem_append.mp hz with hz | hz
        · obtain ⟨x, hx, rfl⟩ := List.mem_map.mp hz
          exact ⟨x, (mem_gone.mp hx).1, .inl ⟨(mem_gone.mp hx).2, rfl⟩⟩
        · obtain ⟨x, hx, rfl⟩ := List.mem_map.mp hz
          have := List.mem_filter.mp hx
          exact ⟨x, this.1, .inr ⟨of_decide_eq_true this.2, rfl⟩⟩
      have nrd : r ≠ d := (ne_of_none (s26 _ _ hd2) nr).symm
      have nrl : r ≠ l := (ne_of_none (s26 _ _ hl2) nr).symm
      have nr0 : H r = none := (s2.trans s26).free nr
      refine for_list (K := K) (a := r) (xs := sL nb) (fun i σ H7 => ∃ ms' fv' wt2 y5', σ = [some (.ref p), some (sV v), some (.ref d), some (.ref l), some (sV hh), y5', y6] ∧ Same H H7 ∧ H7 d = some (.dK (dkv ms' fv')) ∧ H7 l = some (.lst (sL wt2)) ∧ H7 r = some (.lst (sL nb)) ∧
          HJ ws v ms' wt2 [hh] ∧ hh ∈ ms' ∧ (∀ z ∈ nb.take i, z ∈ ms') ∧ 2 * ((pcs ws).length - ms'.length) + wt2.length ≤ 2 * ((pcs ws).length - ms.length) + wt'.length)
        ⟨ms, fv, wt', y5, rfl, (s2.trans s26).trans (same_upd nr), by rw [upd_ne nrd.symm]; exact s26 _ _ hd2, by rw [upd_ne nrl.symm]; exact s26 _ _ hl2, upd_same,
          ⟨J.nd, J.sub, J.self, fun z hz => J.wsub z (List.mem_append_left _ hz), (by have := J.wl; rw [hlen] at this; omega), fun z hz h1 h2 => J.clo z hz (fun h3 => by
            rcases List.mem_append.mp h3 with h3 | h3
            · exact h1 h3
            · exact h2 h3) (by simp), J.snd⟩, hhm, by simp, Nat.le_refl _⟩
        (fun i σ H' _ h => ?_) (fun i x σ H7 hx h => ?_) (fun σ H7 h => ?_)
      · obtain ⟨_, _, _, _, _, _, _, _, hr7, _⟩ := h
        exact SqL.of hr7
      · obtain ⟨ms', fv', wt2, y5', rfl, hs7, hd7, hl7, hr7, J7, hh7, hnb7, hm7⟩ := h
        obtain ⟨z, hz, rfl⟩ := sL_at hx
        have hms7 : ms'.length ≤ (pcs ws).length := nd_len_le J7.nd (pcs_nd ws) J7.sub
        refine ⟨_, rfl, _, rfl, d, _, rfl, dget_w hd7, _, rfl, ?_⟩
        by_cases hzm : z ∈ ms'
        · rw [if_pos hzm]
          refine iteF ?_
          refine ⟨ms', fv', wt2, _, rfl, hs7, hd7, hl7, hr7, J7, hh7, fun y hy => ?_, hm7⟩
          rcases (mem_take_succ hz y).mp hy with hy | rfl
          · exact hnb7 y hy
          · exact hzm
        · rw [if_neg hzm]
          refine iteT ?_
          obtain ⟨x, hx1, hx2⟩ := nbp z (List.mem_of_getElem? hz)
          have hzp : z ∈ pcs ws := by
            rcases hx2 with ⟨_, rfl⟩ | ⟨_, rfl⟩
            · exact enn_pcs hx1
            · exact bgn_pcs hx1
          have ek : kadd ms' z = ms' ++ [z] := by unfold kadd; rw [if_neg hzm]
          have lk : (kadd ms' z).length = ms'.length + 1 := by rw [ek, List.length_append]; rfl
          have hms8 : (kadd ms' z).length ≤ (pcs ws).length := nd_len_le (kadd_nd J7.nd) (pcs_nd ws) fun y hy => by
            rcases mem_kadd.mp hy with hy | rfl
            · exact J7.sub y hy
            · exact hzp
          refine ⟨_, rfl, _, rfl, d, _, rfl, dput_w hd7 (by omega), ?_⟩
          have hl8 : ∀ o, (upd H7 d o) l = some (.lst (sL wt2)) := fun o => by rw [upd_ne nld]; exact hl7
          refine ⟨_, rfl, .inl ⟨rfl, _, SqL.of (hl8 _)⟩, _, rfl, l, _, _, rfl, rfl, hl8 _, ?_, ?_⟩
          · rw [sL_len]
            have := J7.wl
            exact small1000 (by omega)
          refine ⟨kadd ms' z, fup fv' z (.bl true), wt2 ++ [z], _, rfl, same_chg (same_chg hs7 nd0) nl0, by rw [upd_ne nld.symm, upd_same], by rw [upd_same, sL_app]; rfl, by rw [upd_ne nrl, upd_ne nrd]; exact hr7, ⟨kadd_nd J7.nd, fun y hy => ?_, mem_kadd.mpr (.inl J7.self), fun y hy => ?_, (by have := J7.wl; rw [lk, List.length_append]; exact Nat.succ_le_succ this), fun y hy h1 h2 x' hx' => ?_, fun P hP hPv y hy => ?_⟩, mem_kadd.mpr (.inl hh7), fun y hy => ?_, ?_⟩
          · rcases mem_kadd.mp hy with hy | rfl
            · exact J7.sub y hy
            · exact hzp
          · rcases List.mem_append.mp hy with hy | hy
            · exact mem_kadd.mpr (.inl (J7.wsub y hy))
            · exact mem_kadd.mpr (.inr (List.mem_singleton.mp hy))
          · rcases mem_kadd.mp hy with hy | rfl
            · have := J7.clo y hy (fun h3 => h1 (List.mem_append_left _ h3)) h2 x' hx'
              exact ⟨fun e => mem_kadd.mpr (.inl (this.1 e)), fun e => mem_kadd.mpr (.inl (this.2 e))⟩
            · exact absurd (List.mem_append_right wt2 (List.mem_singleton.mpr rfl)) h1
          · rcases mem_kadd.mp hy with hy | rfl
            · exact J7.snd P hP hPv y hy
            · have hPh := J7.snd P hP hPv hh hh7
              rcases hx2 with ⟨e1, rfl⟩ | ⟨e1, rfl⟩
              · exact (hP x hx1).mp (by rw [e1]; exact hPh)
              · exact (hP x hx1).mpr (by rw [e1]; exact hPh)
          · rcases (mem_take_succ hz y).mp hy with hy | rfl
            · exact mem_kadd.mpr (.inl (hnb7 y hy))
            · exact mem_kadd.mpr (.inr rfl)
          · rw [List.length_append, lk]
            show 2 * ((pcs ws).length - (ms'.length + 1)) + (wt2.length + 1) ≤ _
            omega
      · obtain ⟨ms', fv', wt2, y5', rfl, hs7, hd7, hl7, hr7, J7, hh7, hnb7, hm7⟩ := h
        rw [sL_len, List.take_length] at hnb7
        refine ⟨_, ?_, ms', fv', wt2, _, _, _, rfl, hs7, hd7, hl7, ⟨J7.nd, J7.sub, J7.self, J7.wsub, J7.wl, fun z hz h1 _ x hx => ?_, J7.snd⟩, rfl⟩
        · rw [hlen]; omega
        · by_cases e : z = hh
          · subst e
            refine ⟨fun e => hnb7 _ ?_, fun e => hnb7 _ ?_⟩
            · rw [← hnb]; exact List.mem_append_left _ (List.mem_map.mpr ⟨x, mem_gone.mpr ⟨hx, e⟩, rfl⟩)
            · rw [← hnb]; exact List.mem_append_right _ (List.mem_map.mpr ⟨x, List.mem_filter.mpr ⟨hx, decide_eq_true e⟩, rfl⟩)
          · exact J7.clo z hz h1 (by simpa using e) x hx
end
end Tw
namespace Tw
open PySem PySem.Spec PyProof.Rows L2 MT MW
section
variable {P : Program} {w : World} {K : PySem.W.Frag} {mg : Str → Option Value} {base : Heap} {CW CD : Addr}
/-- all words hang together just where all pieces are met -/
theorem conn_of {ws hs : List Wd} {v : Wd} (h : HangOk ws v hs) (hl : ¬ hs.length < (pcs ws).length) : Conn bgn enn ws := by
  have all : ∀ z ∈ pcs ws, z ∈ hs := by
    intro z hz
    refine Classical.byContradiction fun no => ?_
    have h1 := nd_len_le (l := z :: hs) (k := pcs ws) (List.nodup_cons.mpr ⟨no, h.nd⟩) (pcs_nd ws) fun y hy => by
      rcases List.mem_cons.mp hy with rfl | hy
      · exact hz
      · exact h.sub y hy
    rw [List.length_cons] at h1
    omega
  intro P hP x hx y hy hPx
  have hPv : P v := by
    refine Classical.byContradiction fun no => ?_
    exact h.snd (fun z => ¬ P z) (fun x hx => not_congr (hP x hx)) no _ (all _ (bgn_pcs hx)) hPx
  exact h.snd P hP hPv _ (all _ (bgn_pcs hy))
theorem not_conn_of {ws hs : List Wd} {v : Wd} (h : HangOk ws v hs) (hl : hs.length < (pcs ws).length) : ¬ Conn bgn enn ws := by
  intro hc
  obtain ⟨x0, hx0, hb⟩ : ∃ x0 ∈ ws, bgn x0 ∈ hs := by
    rcases mem_pcs.mp (h.sub v h.self) with ⟨x, hx, rfl⟩ | ⟨x, hx, rfl⟩
    · exact ⟨x, hx, h.self⟩
    · exact ⟨x, hx, (h.clo x hx).mpr h.self⟩
  have all : ∀ z ∈ pcs ws, z ∈ hs := fun z hz => by
    rcases mem_pcs.mp hz with ⟨x, hx, rfl⟩ | ⟨x, hx, rfl⟩
    · exact hc (fun z => z ∈ hs) h.clo x0 hx0 x hx hb
    · exact (h.clo x hx).mp (hc (fun z => z ∈ hs) h.clo x0 hx0 x hx hb)
  have := nd_len_le (pcs_nd ws) h.nd all
  omega
theorem pcs_ne {ws : List Wd} (h : ws ≠ []) : ∃ v r, pcs ws = v :: r := by
  obtain ⟨x, hx⟩ := List.exists_mem_of_ne_nil ws h
  have := bgn_pcs hx
  match e : pcs ws, this with
  | v :: r, _ => exact ⟨v, r, rfl⟩
def spApart (CW : Addr) : Sp := fun vs H Q _ => ∃ (p t : Addr) (ws : List Wd) (L : Nat), vs = [.ref p] ∧ WebAt CW H p ws L t ∧ (Conn bgn enn ws → ∀ H', Same H H' → Q .non H') ∧ (¬ Conn bgn enn ws → ∀ q H', Same H H' → Q (.ref q) H')
theorem ok_apart_paper (T : Txt K mg CW CD) : Df P w K mg base 4 "apart_paper" ["web"] (spApart CW) := by
  refine df_of T.d_apart_paper sc_apart_paper bd_apart_paper (fun vs H Q E h => ?_) (fun f cdv A outer s H vs Q E hr h => ?_)
  · obtain ⟨p, t, ws, L, rfl, _⟩ := h
    rfl
  · obtain ⟨p, t, ws, L, rfl, W, qc, qn⟩ := h
    refine ⟨_, (pss_cons (ps_set (i := 1) sc_apart_paper.nd rfl (Or.inl rfl) (pe_fn (ok_pieces T) hr (pa_cons (pv 0) pa_nil)))
    (pss_cons (ps_set (i := 2) sc_apart_paper.nd rfl (Or.inl rfl) (pe_fn (ok_hanging T) hr (pa_cons (pv 0) (pa_cons (pe_ix ix_list (pv 1) pe_int (fun _ _ => rfl)) pa_nil))))
    (pss_cons (ps_if (pt_cmpR op_lt (pe_callB call_len_seq (by rfl) T.n_len PySem.boot_len (pa_cons (pv 2) pa_nil)) (pe_callB call_len_seq (by rfl) T.n_len PySem.boot_len (pa_cons (pv 1) pa_nil)) (nomark _))
    (pss_one (ps_ret (pe_tup (pa_cons pe_str (pa_cons (pe_callTy call_tuple_of (by rfl) T.n_tuple (by decide +kernel) (pa_cons (pv 2) pa_nil)) pa_nil)))))
    pss_nil)
    (pss_one (ps_ret pe_non))))), ?_⟩
    obtain ⟨v, r, ev⟩ := pcs_ne W.ok.ne
    have hv : v ∈ pcs ws := by rw [ev]; exact List.mem_cons_self ..
    refine ⟨_, rfl, p, t, ws, L, rfl, W, fun q1 H1 s1 n1 e1 => ?_⟩
    refine ⟨_, rfl, _, rfl, q1, sL (pcs ws), 0, sV v, rfl, rfl, SqL.of e1, at_of (j := 0) rfl (by rw [ev]; rfl), p, t, ws, L, v, rfl, W.same s1, hv, fun q2 H2 hs s2 n2 e2 hh => ?_⟩
    refine ⟨_, rfl, q2, _, rfl, .inl (SqL.of e2), _, rfl, q1, _, rfl, .inl (SqL.of (s2 _ _ e1)), _, _, rfl, rfl, _, rfl, ?_⟩
    rw [sL_len, sL_len]
    refine ite2 (fun hlt => ?_) (fun hlt => ?_)
    · have hlt := of_decide_eq_true hlt
      refine ⟨_, rfl, q2, _, rfl, .inl ⟨SqL.of e2, fun l nl => ?_⟩⟩
      refine ⟨by show 2 ≤ sizeLine; decide, fun u nu => ?_⟩
      exact qn (not_conn_of hh (by omega)) u _ ((s1.trans s2).trans ((same_upd nl).trans (same_upd nu)))
    · have hlt : ¬ ((hs.length : Int) < ((pcs ws).length : Int)) := fun z => hlt (decide_eq_true z)
      exact qc (conn_of hh (by omega)) H2 (s1.trans s2)
def spWhy (CW : Addr) : Sp := fun vs H Q _ => ∃ (p t : Addr) (ws : List Wd) (L : Nat), vs = [.ref p] ∧ WebAt CW H p ws L t ∧ (RingOk ws → ∀ H', Same H H' → Q .non H') ∧ (¬ RingOk ws → ∀ q H', Same H H' → Q (.ref q) H')
theorem ok_why_no_ring (T : Txt K mg CW CD) : Df P w K mg base 5 "why_no_ring" ["web"] (spWhy CW) := by
  refine df_of T.d_why_no_ring sc_why_no_ring bd_why_no_ring (fun vs H Q E h => ?_) (fun f cdv A outer s H vs Q E hr h => ?_)
  · obtain ⟨p, t, ws, L, rfl, _⟩ := h
    rfl
  · obtain ⟨p, t, ws, L, rfl, W, qc, qn⟩ := h
    refine ⟨_, (pss_cons (ps_for PassesOwn.never rfl (pi_list (pe_fn (ok_pieces T) hr (pa_cons (pv 0) pa_nil))) (pg_name (i := 1) sc_why_no_ring.nd rfl (Or.inl rfl))
    (pss_one (ps_if (pt_cmpR op_ne (pe_fn (ok_excess T) hr (pa_cons (pv 0) (pa_cons (pe_lst (pa_cons (pv 1) pa_nil)) pa_nil))) pe_int (nomark _))
    (pss_one (ps_ret (pe_tup (pa_cons pe_str (pa_cons (pe_tup (pa_cons (pv 1) pa_nil)) pa_nil)))))
    pss_nil)))
    (pss_one (ps_ret (pe_fn (ok_apart_paper T) hr (pa_cons (pv 0) pa_nil))))), ?_⟩
    refine ⟨_, rfl, p, t, ws, L, rfl, W, fun q1 H1 s1 n1 e1 => ⟨q1, rfl, ⟨_, SqL.of e1⟩, ?_⟩⟩
    refine for_list (K := K) (a := q1) (xs := sL (pcs ws)) (fun i σ H' => ∃ z, σ = [some (.ref p), z] ∧ Same H1 H' ∧ ∀ v ∈ (pcs ws).take i, outd bgn ws v = ind enn ws v)
      ⟨none, rfl, Same.refl _, by simp⟩ (fun i σ H' _ h => ?_) (fun i x σ H' hx h => ?_) (fun σ H' h => ?_)
    · obtain ⟨_, _, hs, _⟩ := h
      exact SqL.of (hs _ _ e1)
    · obtain ⟨z, rfl, hs, hb⟩ := h
      obtain ⟨v, hv, rfl⟩ := sL_at hx
      have hvm := List.mem_of_getElem? hv
      refine ⟨_, rfl, _, rfl, (by show 1 ≤ sizeLine; decide), fun a na => ?_⟩
      have W2 : WebAt CW (upd H' a (.lst [sV v])) p ws L t := (W.same (s1.trans hs)).same (same_upd na)
      refine ⟨p, t, a, ws, L, v, rfl, W2, upd_same, fun H2 s2 => ⟨rfl, _, rfl, ?_⟩⟩
      have s3 : Same H1 H2 := hs.trans ((same_upd na).trans s2)
      by_cases e : outd bgn ws v = ind enn ws v
      · have e' : (V.int ((outd bgn ws v : Int) - (ind enn ws v : Int))) = V.int 0 := by rw [e, Int.sub_self]
        rw [decide_eq_true e']
        refine iteF ⟨_, rfl, s3, fun u hu => ?_⟩
        rcases (mem_take_succ hv u).mp hu with hu | rfl
        · exact hb u hu
        · exact e
      · have e' : ¬ (V.int ((outd bgn ws v : Int) - (ind enn ws v : Int))) = V.int 0 := fun z => e (by
          injection z with z
          omega)
        rw [decide_eq_false e']
        refine iteT ?_
        refine ⟨_, rfl, (by show 1 ≤ sizeLine; decide), fun u nu => ⟨(by show 2 ≤ sizeLine; decide), fun y ny => ?_⟩⟩
        exact qn (fun ok => e (ok.1 v)) y _ ((s1.trans s3).trans ((same_upd nu).trans (same_upd ny)))
    · obtain ⟨z, rfl, hs, hb⟩ := h
      rw [sL_len, List.take_length] at hb
      have hball : ∀ v, outd bgn ws v = ind enn ws v := fun v => by
        by_cases hv : v ∈ pcs ws
        · exact hb v hv
        · have o : ¬ 0 < outd bgn ws v := fun z => by
            obtain ⟨x, hx, e⟩ := outd_pos.mp z
            exact hv (e ▸ bgn_pcs hx)
          have i : ¬ 0 < ind enn ws v := fun z => by
            obtain ⟨x, hx, e⟩ := ind_pos.mp z
            exact hv (e ▸ enn_pcs hx)
          omega
      refine ⟨_, rfl, p, t, ws, L, rfl, W.same (s1.trans hs), fun hc H2 s2 => ?_, fun hc r H2 s2 => ?_⟩
      · exact qc ⟨hball, hc⟩ H2 ((s1.trans hs).trans s2)
      · exact qn (fun ok => hc ok.2) r H2 ((s1.trans hs).trans s2)
end
end Tw
namespace Tw
open PySem PySem.Spec PyProof.Rows L2 MT MW
section
variable {P : Program} {w : World} {K : PySem.W.Frag} {mg : Str → Option Value} {base : Heap} {CW CD : Addr}
theorem sIx0 {n k : Nat} (h : k ≤ n) (d : Nat) : HT.sIx n d (some (k : Int)) = k := by rw [HT.sIx_nat]; omega
theorem cut_nat {t : Wd} {a b : Nat} (ha : a ≤ t.length) (hb : b ≤ t.length) : cutS ⟨t.toArray⟩ (some (a : Int)) (some (b : Int)) = ⟨((t.drop a).take (b - a)).toArray⟩ := by
  rw [cut_S, sIx0 ha, sIx0 hb]
theorem cut_from {t : Wd} {a : Nat} (ha : a ≤ t.length) : cutS ⟨t.toArray⟩ (some (a : Int)) none = ⟨(t.drop a).toArray⟩ := by
  rw [cut_S, sIx0 ha, HT.sIx_none, List.take_of_length_le (by rw [List.length_drop]; exact Nat.le_refl _)]
theorem cut_to {t : Wd} {b : Nat} (hb : b ≤ t.length) : cutS ⟨t.toArray⟩ none (some (b : Int)) = ⟨(t.take b).toArray⟩ := by
  rw [cut_S, sIx0 hb, HT.sIx_none]; rfl
theorem emp_toList : ("" : Str).cps.toList = [] := by decide +kernel
theorem ne_emp {t : Wd} (h : t ≠ []) : ¬ (sV t = V.str "") := fun e => by
  injection e with e
  have := congrArg (fun z : Str => z.cps.toList) e
  rw [emp_toList] at this
  exact h (by simpa using this)
/-- a ring's order of words: closed, of one length -/
structure Rg (l : List Wd) (h : Wd) (L : Nat) : Prop where
  walk : isWalk bgn enn h l h
  len : ∀ w ∈ l, w.length = L
  lo : 1 ≤ L
  hi : L ≤ 8
  ne : l ≠ []
  few : l.length ≤ 16
def spWin : Sp := fun vs H Q _ => ∃ (l : List Wd) (h : Wd) (L : Nat), vs = [sV (rtx l), .int L, .bl true] ∧ Rg l h L ∧ ∀ q H', Same H H' → H q = none → H' q = some (.lst (sL l)) → Q (.ref q) H'
theorem ok_windows (T : Txt K mg CW CD) : Df P w K mg base 1 "windows" ["text", "length", "ring"] spWin := by
  refine df_of T.d_windows sc_windows bd_windows (fun vs H Q E h => ?_) (fun f cdv A outer s H vs Q E hr h => ?_)
  · obtain ⟨l, h, L, rfl, _⟩ := h
    rfl
  · obtain ⟨l, hm, L, rfl, R, q⟩ := h
    have hlen := rtx_len l
    have hpos : 0 < l.length := List.length_pos_iff.mpr R.ne
    have hfew := R.few
    have hL := R.hi
    have tlen : (⟨(rtx l).toArray⟩ : Str).length = l.length := by rw [S_len, hlen]
    have tsz : (⟨(rtx l).toArray⟩ : Str).length ≤ sizeLine := by rw [tlen]; exact Nat.le_of_lt (small1000 (by omega))
    refine ⟨_, (pss_cons (ps_if (pt_not (pt_val (pv 2)))
    (pss_one (ps_ret (pe_lc (own := [("k", 4)]) (g := gName 4) rfl sc_windows.nd (pi_range1 (by rfl) T.n_range (pa_cons (pe_op op_add (pe_op op_sub (pe_callB call_len_str (by rfl) T.n_len PySem.boot_len (pa_cons (pv 0) pa_nil)) (pv 1)) pe_int) pa_nil)) (blkOk_by (own := [("k", 4)]) (N := ["text", "length", "ring", "longer", "k"]) (sc := defScope s_windows) (by decide +kernel)) (fun _ _ _ _ _ => pg_name (i := 4) sc_windows.nd rfl (Or.inl rfl)) (fun _ _ _ _ _ => pts_nil) (fun _ _ _ _ _ => (pe_slice sl_str (pv 0) (po_some (pv 4)) (po_some (pe_op op_add (pv 4) (pv 1))))))))
    pss_nil)
    (pss_cons (ps_if (pt_cmpR op_eq (pv 0) pe_str (nomark _))
    (pss_one (ps_ret (pe_lst pa_nil)))
    pss_nil)
    (pss_cons (ps_set (i := 3) sc_windows.nd rfl (Or.inr rfl) (pv 0))
    (pss_cons (ps_while PassesOwn.never (pt_cmpR op_lt (pe_callB call_len_str (by rfl) T.n_len PySem.boot_len (pa_cons (pv 3) pa_nil)) (pe_op op_add (pe_callB call_len_str (by rfl) T.n_len PySem.boot_len (pa_cons (pv 0) pa_nil)) (pv 1)) (nomark _))
    (pss_one (ps_set (i := 3) sc_windows.nd rfl (Or.inr rfl) (pe_op op_add_str (pv 3) (pv 0)))))
    (pss_one (ps_ret (pe_lc (own := [("k", 4)]) (g := gName 4) rfl sc_windows.nd (pi_range1 (by rfl) T.n_range (pa_cons (pe_callB call_len_str (by rfl) T.n_len PySem.boot_len (pa_cons (pv 0) pa_nil)) pa_nil)) (blkOk_by (own := [("k", 4)]) (N := ["text", "length", "ring", "longer", "k"]) (sc := defScope s_windows) (by decide +kernel)) (fun _ _ _ _ _ => pg_name (i := 4) sc_windows.nd rfl (Or.inl rfl)) (fun _ _ _ _ _ => pts_nil) (fun _ _ _ _ _ => (pe_slice sl_str (pv 3) (po_some (pv 4)) (po_some (pe_op op_add (pv 4) (pv 1)))))))))))), ?_⟩
    refine ⟨_, rfl, true, rfl, ?_⟩
    refine iteF ?_
    refine ⟨_, rfl, rfl, _, rfl, ?_⟩
    rw [decide_eq_false (ne_emp (fun e => by rw [e] at hlen; simp at hlen; omega))]
    refine iteF ?_
    refine ⟨_, rfl, ?_⟩
    refine ⟨fun m σ H' => ∃ k : Nat, σ = [some (sV (rtx l)), some (.int L), some (.bl true), some (sV (rpt k (rtx l))), none] ∧ 1 ≤ k ∧ k * l.length ≤ 100 ∧ H' = H ∧ m = l.length + L - k * l.length,
      ⟨_, 1, by show _ = [some (sV (rtx l)), some (.int L), some (.bl true), some (sV (rpt 1 (rtx l))), none]; rw [rpt_succ]; simp [rpt]; rfl, Nat.le_refl _, by omega, rfl, rfl⟩, ?_⟩
    rintro m σ H' ⟨k, rfl, hk, hk2, rfl, rfl⟩
    have klen : (⟨(rpt k (rtx l)).toArray⟩ : Str).length = k * l.length := by rw [S_len, rpt_len, hlen]
    have ksz : (⟨(rpt k (rtx l)).toArray⟩ : Str).length ≤ sizeLine := by rw [klen]; exact Nat.le_of_lt (small1000 (by omega))
    refine ⟨_, rfl, _, rfl, ksz, _, rfl, _, rfl, tsz, _, rfl, _, _, rfl, rfl, _, _, rfl, rfl, _, rfl, ?_⟩
    rw [klen, tlen]
    by_cases hlt : k * l.length < l.length + L
    · rw [decide_eq_true (by omega)]
      refine iteT ?_
      refine ⟨fun σ' H2 => ∃ m', m' < l.length + L - k * l.length ∧ ∃ k : Nat, σ' = [some (sV (rtx l)), some (.int L), some (.bl true), some (sV (rpt k (rtx l))), none] ∧ 1 ≤ k ∧ k * l.length ≤ 100 ∧ H2 = H' ∧ m' = l.length + L - k * l.length, fun σ' H2 h => h, ?_⟩
      refine ⟨_, rfl, _, rfl, _, _, rfl, rfl, ?_, ?_⟩
      · rw [klen, tlen]; exact Nat.le_of_lt (small1000 (by omega))
      · have e1 : (k + 1) * l.length = k * l.length + l.length := by rw [Nat.succ_mul]
        refine ⟨_, ?_, k + 1, ?_, by omega, by omega, rfl, rfl⟩
        · rw [e1]; omega
        · rw [S_cat]
          show [some (sV (rtx l)), some (V.int L), some (V.bl true), some (sV (rpt k (rtx l) ++ rtx l)), none] = _
          have : rpt k (rtx l) ++ rtx l = rpt (k + 1) (rtx l) := by
            unfold rpt
            rw [List.replicate_succ', List.flatten_append]; simp
          rw [this]
    · rw [decide_eq_false (by omega)]
      refine iteF ?_
      refine ⟨_, rfl, _, rfl, tsz, _, rfl, ?_, ?_, fun D nD => ?_⟩
      · rw [tlen]; omega
      · rw [tlen]; omega
      refine lc_range (lo := 0) (fun i H2 => Same H' H2 ∧ H2 D = some (.lst (sL (l.take i)))) ⟨same_upd nD, upd_same⟩ (fun i H2 hi ⟨hs, hD⟩ => ?_) (fun H2 ⟨hs, hD⟩ => ?_)
      · have hi' : i < l.length := by
          rw [tlen] at hi
          omega
        have hx : l[i]? = some l[i] := List.getElem?_eq_getElem hi'
        refine ⟨rfl, ?_⟩
        unfold tYes; dsimp only
        rw [if_pos rfl]
        refine ⟨_, rfl, _, rfl, _, rfl, _, rfl, _, rfl, _, _, rfl, rfl, _, rfl, _, rfl, ksz, _, hD, ?_, same_chg hs nD, ?_⟩
        · rw [sL_len, List.length_take]; exact small1000 (by omega)
        · have ew := win_at (q := k) R.walk R.len hx (by omega)
          have ec : cutS ⟨(rpt k (rtx l)).toArray⟩ (some ((i : Nat) : Int)) (some (((i + L : Nat)) : Int)) = ⟨(l[i]).toArray⟩ := by
            rw [cut_nat (by rw [rpt_len, hlen]; omega) (by rw [rpt_len, hlen]; omega), show i + L - i = L by omega, ew]
          have e1 : (0 : Int) + (i : Int) = ((i : Nat) : Int) := by omega
          have e2 : (0 : Int) + (i : Int) + (L : Int) = ((i + L : Nat) : Int) := by omega
          rw [e2, e1, ec, upd_same, take_snoc hx, sL_app]; rfl
      · rw [tlen] at hD
        have e : ((l.length : Int)).toNat = l.length := by omega
        rw [e, List.take_length] at hD
        exact q D H2 hs nD hD

/-! ### rings -/
theorem rg_of {ws l : List Wd} {L : Nat} (o : RingOrd ws l) (W : WebOk ws L) : ∃ x r, l = x :: r ∧ ws.head? = some x ∧ Rg l (bgn x) L := by
  have hne : l ≠ [] := fun e => by
    have := o.perm
    rw [e] at this
    exact W.ne (List.nil_perm.mp this)
  match l, o, hne with
  | x :: r, o, hne =>
    exact ⟨x, r, rfl, o.head.symm, o.walk x rfl, fun w hw => W.len w (o.perm.mem_iff.mp hw), W.lo, W.hi, hne, by rw [o.perm.length_eq]; exact W.few⟩
def spHas (CW : Addr) : Sp := fun vs H Q _ => ∃ (p t a : Addr) (ws l : List Wd) (L : Nat), vs = [.ref p, .ref a] ∧ WebAt CW H p ws L t ∧ SqL K H a (sL l) ∧ l.Perm ws ∧ ∀ H', Same H H' → Q (.bl true) H'
theorem ok_has_all (T : Txt K mg CW CD) : Df P w K mg base 1 "has_all" ["web", "found"] (spHas (K := K) CW) := by
  refine df_of T.d_has_all sc_has_all bd_has_all (fun vs H Q E h => ?_) (fun f cdv A outer s H vs Q E hr h => ?_)
  · obtain ⟨p, t, a, ws, l, L, rfl, _⟩ := h
    rfl
  · obtain ⟨p, t, a, ws, l, L, rfl, W, ha, hp, q⟩ := h
    have hfew := W.ok.few
    refine ⟨_, (pss_one (ps_ret (pe_cmpR (op_eqW hr.units) (pe_callTy call_tuple_of (by rfl) T.n_tuple (by decide +kernel) (pa_cons (pe_callB cr_sortW (by rfl) T.n_sorted (by decide +kernel) (pa_cons (pv 1) pa_nil)) pa_nil)) (pe_fld (pv 0) rfl) (nomark _)))), ?_⟩
    refine ⟨_, rfl, a, l, rfl, ha, hp.nodup_iff.mpr W.ok.nd, by rw [hp.length_eq]; omega, fun r nr => ⟨r, _, rfl, .inl ⟨SqL.of upd_same, fun u nu => ?_⟩⟩⟩
    have s2 := (same_upd (o := .lst (sL (srt l))) nr).trans (same_upd (o := .tup (sL (srt l))) nu)
    have W2 := W.same s2
    obtain ⟨dx, hob⟩ := W2.ob
    refine ⟨_, rfl, p, CW, dx, _, _, rfl, hob, T.cWeb, T.aWeb_words, webF_words _ _, u, t, srt l, ws, rfl, rfl, .inr ⟨SqT.of upd_same, SqT.of W2.tp⟩, fun w hw c hc => ?_, sg_lo W.ok, ?_⟩
    · exact sg_lo W.ok w (hp.mem_iff.mp (mem_srt.mp hw)) c hc
    · have e : srt l = ws := srt_eq W.ok.asc fun z => hp.mem_iff.symm
      rw [decide_eq_true e]
      exact q _ s2
def spIsRing (CW : Addr) : Sp := fun vs H Q _ => ∃ (p t : Addr) (ws l : List Wd) (L : Nat), vs = [.ref p, sV (rtx l)] ∧ WebAt CW H p ws L t ∧ RingOrd ws l ∧ ∀ H', Same H H' → Q (.bl true) H'
theorem ok_is_ring (T : Txt K mg CW CD) : Df P w K mg base 2 "is_ring" ["web", "text"] (spIsRing CW) := by
  refine df_of T.d_is_ring sc_is_ring bd_is_ring (fun vs H Q E h => ?_) (fun f cdv A outer s H vs Q E hr h => ?_)
  · obtain ⟨p, t, ws, l, L, rfl, _⟩ := h
    rfl
  · obtain ⟨p, t, ws, l, L, rfl, W, o, q⟩ := h
    obtain ⟨x, r, e, hx, R⟩ := rg_of o W.ok
    obtain ⟨dx, hob⟩ := W.ob
    refine ⟨_, (pss_cons (ps_set (i := 2) sc_is_ring.nd rfl (Or.inl rfl) (pe_fn (ok_windows T) hr (pa_cons (pv 1) (pa_cons (pe_fld (pv 0) rfl) (pa_cons pe_bl pa_nil)))))
    (pss_one (ps_ret (pe_and (pe_fn (ok_has_all T) hr (pa_cons (pv 0) (pa_cons (pv 2) pa_nil))) (pe_one (pe_cmpR op_eq (pe_ix ix_list (pv 2) pe_int (fun _ _ => rfl)) (pe_ix ix_tup (pe_fld (pv 0) rfl) pe_int (fun _ _ => rfl)) (nomark _))))))), ?_⟩
    refine ⟨_, rfl, _, rfl, p, CW, dx, _, _, rfl, hob, T.cWeb, T.aWeb_length, webF_length _ _, l, bgn x, L, rfl, R, fun q1 H1 s1 n1 e1 => ?_⟩
    have W1 := W.same s1
    refine ⟨_, rfl, _, rfl, p, t, q1, ws, l, L, rfl, W1, SqL.of e1, o.perm, fun H2 s2 => ⟨true, rfl, iteT ?_⟩⟩
    have W2 := W1.same s2
    obtain ⟨dx2, hob2⟩ := W2.ob
    have a1 : (sL l)[0]? = some (sV x) := by rw [e]; rfl
    have a2 : (sL ws)[0]? = some (sV x) := by
      match ws, hx with
      | y :: _, hx => rw [Option.some.inj hx]; rfl
    refine ⟨_, rfl, q1, sL l, 0, sV x, rfl, rfl, SqL.of (s2 _ _ e1), at_of (j := 0) rfl a1, ?_⟩
    refine ⟨_, rfl, p, CW, dx2, _, _, rfl, hob2, T.cWeb, T.aWeb_words, webF_words _ _, t, sL ws, 0, sV x, rfl, rfl, SqT.of W2.tp, at_of (j := 0) rfl a2, rfl, ?_⟩
    rw [decide_eq_true rfl]
    exact q H2 (s1.trans s2)
end
end Tw
namespace Tw
open PySem PySem.Spec PyProof.Rows L2 MT MW
section
variable {P : Program} {w : World} {K : PySem.W.Frag} {mg : Str → Option Value} {base : Heap} {CW CD : Addr}
open MD
theorem ixN_nat {n i : Nat} {z : Int} (e : z = i) (h : i < n) : ixN n z = some i := by
  unfold ixN
  rw [e, if_pos (by omega), if_pos (by omega), Int.toNat_natCast]
/-! ### squares of numbers -/
def rowV (n : Nat) (f : Nat → Int) : List V := (List.range n).map fun j => V.int (f j)
theorem rowV_len (n : Nat) (f : Nat → Int) : (rowV n f).length = n := by unfold rowV; rw [List.length_map, List.length_range]
theorem rowV_get {n j : Nat} (f : Nat → Int) (h : j < n) : (rowV n f)[j]? = some (.int (f j)) := by
  unfold rowV; rw [List.getElem?_map, List.getElem?_range h]; rfl
theorem rowV_set {n j : Nat} (f : Nat → Int) (v : Int) : (rowV n f).set j (.int v) = rowV n (fun c => if c = j then v else f c) := by
  refine List.ext_getElem? fun i => ?_
  rw [List.getElem?_set]
  by_cases h : i < n
  · rw [rowV_get _ h, rowV_get _ h, rowV_len]
    by_cases e : j = i
    · subst e; rw [if_pos rfl, if_pos h, if_pos rfl]
    · rw [if_neg e, if_neg fun z => e z.symm]
  · have h1 : ∀ g, (rowV n g)[i]? = none := fun g => List.getElem?_eq_none (by rw [rowV_len]; omega)
    rw [h1, h1, rowV_len]
    by_cases e : j = i
    · subst e; rw [if_pos rfl, if_neg h]
    · rw [if_neg e]
theorem rowV_congr {n : Nat} {f g : Nat → Int} (h : ∀ j, j < n → f j = g j) : rowV n f = rowV n g :=
  List.map_congr_left fun j hj => by rw [h j (List.mem_range.mp hj)]
structure MatAt (H : Hp) (q : Addr) (rs : List Addr) (n : Nat) (R : Nat → Nat → Int) : Prop where
  top : H q = some (.lst (rs.map V.ref))
  len : rs.length = n
  nd : rs.Nodup
  out : q ∉ rs
  row : ∀ i r, rs[i]? = some r → H r = some (.lst (rowV n (R i)))
theorem MatAt.at {H : Hp} {q : Addr} {rs : List Addr} {n : Nat} {R : Nat → Nat → Int} (M : MatAt H q rs n R) {i : Nat} (h : i < n) : ∃ r, rs[i]? = some r ∧ (rs.map V.ref)[i]? = some (.ref r) ∧ H r = some (.lst (rowV n (R i))) := by
  have h' : i < rs.length := by rw [M.len]; exact h
  have e : rs[i]? = some rs[i] := List.getElem?_eq_getElem h'
  exact ⟨rs[i], e, by rw [List.getElem?_map, e]; rfl, M.row i _ e⟩
theorem MatAt.congr {H : Hp} {q : Addr} {rs : List Addr} {n : Nat} {R R' : Nat → Nat → Int} (M : MatAt H q rs n R) (h : ∀ i j, i < n → j < n → R i j = R' i j) : MatAt H q rs n R' :=
  ⟨M.top, M.len, M.nd, M.out, fun i r hr => by
    have hi : i < n := by
      by_cases g : i < rs.length
      · rw [M.len] at g; exact g
      · rw [List.getElem?_eq_none (by omega)] at hr; cases hr
    rw [M.row i r hr, rowV_congr fun j hj => h i j hi hj]⟩
theorem MatAt.same {H H' : Hp} {q : Addr} {rs : List Addr} {n : Nat} {R : Nat → Nat → Int} (M : MatAt H q rs n R) (s : Same H H') : MatAt H' q rs n R :=
  ⟨s _ _ M.top, M.len, M.nd, M.out, fun i r hr => s _ _ (M.row i r hr)⟩
/-- a number stored -/
theorem MatAt.put {H : Hp} {q : Addr} {rs : List Addr} {n : Nat} {R : Nat → Nat → Int} (M : MatAt H q rs n R) {i j : Nat} {r : Addr} (hr : rs[i]? = some r) (v : Int) :
    MatAt (upd H r (.lst ((rowV n (R i)).set j (.int v)))) q rs n (fun a b => if a = i ∧ b = j then v else R a b) := by
  have hq : q ≠ r := fun e => M.out (by rw [e]; exact List.mem_of_getElem? hr)
  refine ⟨by rw [upd_ne hq]; exact M.top, M.len, M.nd, M.out, fun a b hb => ?_⟩
  by_cases e : a = i
  · subst e
    have : b = r := Option.some.inj (hb.symm.trans hr)
    subst this
    rw [upd_same, rowV_set]
    congr 2
    exact rowV_congr fun c _ => by
      by_cases g : c = j
      · rw [if_pos g, if_pos ⟨rfl, g⟩]
      · rw [if_neg g, if_neg fun z => g z.2]
  · have hbr : b ≠ r := fun z => e (nd_ix M.nd hb (by rw [z]; exact hr))
    rw [upd_ne hbr, M.row a b hb]
    congr 2
    exact rowV_congr fun c _ => by rw [if_neg fun z => e z.1]
/-- two rows exchanged -/
theorem MatAt.swap {H : Hp} {q : Addr} {rs : List Addr} {n : Nat} {R : Nat → Nat → Int} (M : MatAt H q rs n R) {k t : Nat} {rk rt : Addr} (hk : rs[k]? = some rk) (ht : rs[t]? = some rt) (hkt : k ≠ t) :
    MatAt (upd H q (.lst (((rs.set t rk).set k rt).map V.ref))) q ((rs.set t rk).set k rt) n (fun a b => if a = k then R t b else if a = t then R k b else R a b) ∧ ∀ x, x ∈ (rs.set t rk).set k rt → x ∈ rs := by
  have lk : k < rs.length := by
    by_cases g : k < rs.length
    · exact g
    · rw [List.getElem?_eq_none (by omega)] at hk; cases hk
  have lt : t < rs.length := by
    by_cases g : t < rs.length
    · exact g
    · rw [List.getElem?_eq_none (by omega)] at ht; cases ht
  have get : ∀ a, ((rs.set t rk).set k rt)[a]? = if a = k then some rt else if a = t then some rk else rs[a]? := fun a => by
    rw [List.getElem?_set, List.length_set]
    by_cases e1 : k = a
    · subst e1; rw [if_pos rfl, if_pos lk, if_pos rfl]
    · rw [if_neg e1, if_neg (fun z : a = k => e1 z.symm), List.getElem?_set]
      by_cases e2 : t = a
      · subst e2; rw [if_pos rfl, if_pos lt, if_pos rfl]
      · rw [if_neg e2, if_neg (fun z : a = t => e2 z.symm)]
  have sub : ∀ x, x ∈ (rs.set t rk).set k rt → x ∈ rs := fun x hx => by
    obtain ⟨a, ha, e⟩ := List.getElem_of_mem hx
    have e' : ((rs.set t rk).set k rt)[a]? = some x := by rw [List.getElem?_eq_getElem ha, e]
    rw [get] at e'
    split at e'
    · cases e'; exact List.mem_of_getElem? ht
    · split at e'
      · cases e'; exact List.mem_of_getElem? hk
      · exact List.mem_of_getElem? e'
  refine ⟨⟨upd_same, by rw [List.length_set, List.length_set]; exact M.len, ?_, fun z => M.out (sub _ z), fun a r hr => ?_⟩, sub⟩
  · -- still no address twice
    let tau : Nat → Nat := fun a => if a = k then t else if a = t then k else a
    have get2 : ∀ a, ((rs.set t rk).set k rt)[a]? = rs[tau a]? := fun a => by
      rw [get]
      show _ = rs[if a = k then t else if a = t then k else a]?
      split
      · exact ht.symm
      · split
        · exact hk.symm
        · rfl
    refine List.pairwise_iff_getElem.mpr fun a b ha hb hab e => ?_
    have ea := get2 a
    have eb := get2 b
    rw [List.getElem?_eq_getElem ha] at ea
    rw [List.getElem?_eq_getElem hb, ← e] at eb
    have := nd_ix M.nd ea.symm eb.symm
    have inj : tau a = tau b → a = b := fun h => by
      have h : (if a = k then t else if a = t then k else a) = (if b = k then t else if b = t then k else b) := h
      split at h <;> split at h <;> (try split at h) <;> (try split at h) <;> omega
    have := inj this
    omega
  · have hrq : r ≠ q := fun e => M.out (by rw [← e]; exact sub _ (List.mem_of_getElem? hr))
    rw [upd_ne hrq]
    rw [get] at hr
    split at hr
    · rename_i e; cases hr
      rw [M.row t _ ht]
      congr 2; exact rowV_congr fun c _ => by rw [if_pos e]
    · rename_i e1
      split at hr
      · rename_i e; cases hr
        rw [M.row k _ hk]
        congr 2; exact rowV_congr fun c _ => by rw [if_neg e1, if_pos e]
      · rename_i e2
        rw [M.row a _ hr]
        congr 2; exact rowV_congr fun c _ => by rw [if_neg e1, if_neg e2]
section
variable {σ : L2.St} {H : Hp} {D : Addr} {rs : List Addr} {n : Nat} {R : Nat → Nat → Int} {Q : VK}
/-- rows[i][j] read -/
theorem rd2 {ti tj : TE} {a i j : Nat} {zi zj : Int} (M : MatAt H D rs n R) (ha : σ[a]? = some (some (.ref D))) (ei : zi = i) (ej : zj = j) (hi : i < n) (hj : j < n)
    (hti : ∀ Q : VK, Q (.int zi) H → ti σ H Q) (htj : ∀ Q : VK, Q (.int zj) H → tj σ H Q) (q : Q (.int (R i j)) H) : tOp (rIxL K) (tOp (rIxL K) (tVar a) ti) tj σ H Q := by
  obtain ⟨r, hr, hr2, hrow⟩ := M.at hi
  refine ⟨_, ha, hti _ ?_⟩
  refine ⟨D, rs.map V.ref, zi, .ref r, rfl, rfl, SqL.of M.top, at_of ei hr2, htj _ ?_⟩
  exact ⟨r, rowV n (R i), zj, _, rfl, rfl, SqL.of hrow, at_of ej (rowV_get _ hj), q⟩
end
def spSwap : Sp := fun vs H Q _ => ∃ (q : Addr) (rs : List Addr) (n k : Nat) (R : Nat → Nat → Int), vs = [.ref q, .int k] ∧ MatAt H q rs n R ∧ k < n ∧ n ≤ 100 ∧
  (R k k ≠ 0 → Q (.int 1) H) ∧
  (R k k = 0 → ∀ t rs' H', k < t → t < n → R t k ≠ 0 → MatAt H' q rs' n (fun a b => if a = k then R t b else if a = t then R k b else R a b) → (∀ x ∈ rs', x ∈ rs) → (∀ b, b ≠ q → H' b = H b) → Q (.int (-1)) H') ∧
  ((∀ t, k ≤ t → t < n → R t k = 0) → Q (.int 0) H)
theorem ok_swapped_in (T : Txt K mg CW CD) : Df P w K mg base 1 "swapped_in" ["rows", "k"] spSwap := by
  refine df_of T.d_swapped_in sc_swapped_in bd_swapped_in (fun vs H Q E h => ?_) (fun f cdv A outer s H vs Q E hr h => ?_)
  · obtain ⟨q, rs, n, k, R, rfl, _⟩ := h
    rfl
  · obtain ⟨q, rs, n, k, R, rfl, M, hk, hn, q1, q2, q3⟩ := h
    refine ⟨_, (pss_cons (ps_if (pt_cmpR op_ne (pe_ix ix_list (pe_ix ix_list (pv 0) (pv 1) (fun _ _ => rfl)) (pv 1) (fun _ _ => rfl)) pe_int (nomark _))
    (pss_one (ps_ret pe_int))
    pss_nil)
    (pss_cons (ps_for PassesOwn.never rfl (pi_range2 (by rfl) T.n_range (pa_cons (pe_op op_add (pv 1) pe_int) (pa_cons (pe_callB call_len_seq (by rfl) T.n_len PySem.boot_len (pa_cons (pv 0) pa_nil)) pa_nil))) (pg_name (i := 2) sc_swapped_in.nd rfl (Or.inl rfl))
    (pss_one (ps_if (pt_cmpR op_ne (pe_ix ix_list (pe_ix ix_list (pv 0) (pv 2) (fun _ _ => rfl)) (pv 1) (fun _ _ => rfl)) pe_int (nomark _))
    (pss_cons (ps_set (i := 3) sc_swapped_in.nd rfl (Or.inl rfl) (pe_ix ix_list (pv 0) (pv 2) (fun _ _ => rfl)))
    (pss_cons (ps_asg (pe_ix ix_list (pv 0) (pv 1) (fun _ _ => rfl)) (pg_sub (pv 0) (pv 2) set_list))
    (pss_cons (ps_asg (pv 3) (pg_sub (pv 0) (pv 1) set_list))
    (pss_one (ps_ret (pe_un un_neg pe_int))))))
    pss_nil)))
    (pss_one (ps_ret pe_int)))), ?_⟩
    refine rd2 (i := k) (j := k) (zi := (k : Int)) (zj := (k : Int)) M rfl rfl rfl hk hk (fun Q h => ⟨_, rfl, h⟩) (fun Q h => ⟨_, rfl, h⟩) ⟨rfl, _, rfl, ?_⟩
    by_cases e : R k k = 0
    · rw [decide_eq_true (by rw [e])]
      refine iteF ?_
      refine ⟨_, rfl, _, _, rfl, rfl, _, rfl, q, _, rfl, .inl (SqL.of M.top), _, _, rfl, ?_, ?_⟩
      · rw [List.length_map, M.len]
        exact ⟨by omega, by omega, by omega, by omega⟩
      rw [List.length_map, M.len]
      have en : ((n : Int) - ((k : Int) + 1)).toNat = n - (k + 1) := by omega
      rw [en]
      refine for_range (lo := (k : Int) + 1) (n := n - (k + 1)) (fun i σ H' => ∃ z, σ = [some (.ref q), some (.int k), z, none] ∧ H' = H ∧ ∀ t, k < t → t < k + 1 + i → R t k = 0)
        ⟨none, rfl, rfl, fun t h1 h2 => by omega⟩ (fun i σ H' hi h => ?_) (fun σ H' h => ?_)
      · obtain ⟨z, rfl, rfl, hz⟩ := h
        have ht : k + 1 + i < n := by omega
        refine rd2 (i := k + 1 + i) (j := k) (zi := (k : Int) + 1 + i) (zj := (k : Int)) M rfl (by omega) rfl ht hk (fun Q h => ⟨_, rfl, h⟩) (fun Q h => ⟨_, rfl, h⟩) ⟨rfl, _, rfl, ?_⟩
        by_cases e2 : R (k + 1 + i) k = 0
        · rw [decide_eq_true (by rw [e2])]
          refine iteF ⟨_, rfl, rfl, fun t h1 h2 => ?_⟩
          by_cases g : t = k + 1 + i
          · rw [g]; exact e2
          · exact hz t h1 (by omega)
        · rw [decide_eq_false (by intro z; injection z with z; exact e2 z)]
          refine iteT ?_
          obtain ⟨rk, hrk, hrk2, _⟩ := M.at hk
          obtain ⟨rt, hrt, hrt2, _⟩ := M.at ht
          have sw := M.swap hrk hrt (by omega)
          refine ⟨_, rfl, _, rfl, q, _, _, .ref rt, rfl, rfl, SqL.of M.top, at_of (j := k + 1 + i) (by omega) hrt2, ?_⟩
          refine ⟨_, rfl, _, rfl, q, _, _, .ref rk, rfl, rfl, SqL.of M.top, at_of rfl hrk2, _, rfl, _, rfl, q, _, _, k + 1 + i, rfl, rfl, M.top, ixN_nat (by omega) (by rw [List.length_map, M.len]; exact ht), ?_⟩
          refine ⟨_, rfl, _, rfl, _, rfl, q, _, _, k, rfl, rfl, upd_same, ixN_nat rfl (by rw [List.length_set, List.length_map, M.len]; exact hk), ?_⟩
          refine ⟨_, rfl, ?_⟩
          rw [upd_upd]
          have es : ((rs.map V.ref).set (k + 1 + i) (.ref rk)).set k (.ref rt) = ((rs.set (k + 1 + i) rk).set k rt).map V.ref := by rw [List.map_set, List.map_set]
          rw [es]
          exact q2 e (k + 1 + i) _ _ (by omega) ht e2 sw.1 sw.2 fun b hb => upd_ne hb
      · obtain ⟨z, rfl, rfl, hz⟩ := h
        refine q3 fun t h1 h2 => ?_
        by_cases g : t = k
        · rw [g]; exact e
        · exact hz t (by omega) (by omega)
    · rw [decide_eq_false (by intro z; injection z with z; exact e z)]
      exact iteT (q1 e)
end
end Tw
namespace Tw
open PySem PySem.Spec PyProof.Rows L2 MT MW
section
variable {P : Program} {w : World} {K : PySem.W.Frag} {mg : Str → Option Value} {base : Heap} {CW CD : Addr}
open MD
theorem fac7 {k : Nat} (h : k ≤ 7) : fac k * 4 ^ k ≤ 82575360 := by
  have h1 : fac k ≤ fac 7 := fac_mono h
  have h2 : 4 ^ k ≤ 4 ^ 7 := Nat.pow_le_pow_right (by decide) h
  have h3 := Nat.mul_le_mul h1 h2
  have e : fac 7 * 4 ^ 7 = 82575360 := by decide
  omega
def spDet : Sp := fun vs H Q _ => ∃ (q : Addr) (rs : List Addr) (n : Nat) (R : Nat → Nat → Int), vs = [.ref q] ∧ MatAt H q rs n R ∧ n ≤ 7 ∧ (∀ i j, i < n → j < n → (R i j).natAbs ≤ 4) ∧ ∀ H', Same H H' → Q (.int (det n R)) H'
/-- the square behind a places of rows and b of the next row -/
def midM (k : Nat) (c : Int) (M : Nat → Nat → Int) (a b : Nat) : Nat → Nat → Int := fun r j => if k < r ∧ k < j ∧ (r < k + 1 + a ∨ (r = k + 1 + a ∧ j < k + 1 + b)) then (M r j * M k k - M r k * M k j).fdiv c else M r j
def spSwap2 : Sp := fun vs H Q _ => ∃ (q : Addr) (rs : List Addr) (n k : Nat) (R : Nat → Nat → Int), vs = [.ref q, .int k] ∧ MatAt H q rs n R ∧ k < n ∧ n ≤ 100 ∧
  ∀ (e : Int) (R' : Nat → Nat → Int) (rs' : List Addr) (H' : Hp), MatAt H' q rs' n R' → (∀ x ∈ rs', x ∈ rs) → (∀ b, b ≠ q → H' b = H b) →
    ((e = 0 ∧ ∀ t, k ≤ t → t < n → R t k = 0) ∨ (R' k k ≠ 0 ∧ (e = 1 ∧ R' = R ∨ e = -1 ∧ ∃ t, k < t ∧ t < n ∧ R' = fun a b => if a = k then R t b else if a = t then R k b else R a b))) → Q (.int e) H'
theorem iteTe {c : Bool} {A B : Prop} (h : c = true) (a : A) : if c = true then A else B := by rw [if_pos h]; exact a
theorem iteFe {c : Bool} {A B : Prop} (h : c = false) (b : B) : if c = true then A else B := by rw [if_neg (by rw [h]; decide)]; exact b
theorem ok_swapped2 (T : Txt K mg CW CD) : Df P w K mg base 1 "swapped_in" ["rows", "k"] spSwap2 := by
  refine (ok_swapped_in T).imp (Nat.le_refl _) fun vs H Q E h => ?_
  obtain ⟨q, rs, n, k, R, rfl, M, hk, hn, q1⟩ := h
  refine ⟨q, rs, n, k, R, rfl, M, hk, hn, fun hne => ?_, fun h0 t rs' H' h1 h2 h3 M' hs hb => ?_, fun hz => ?_⟩
  · exact q1 1 R rs H M (fun _ h => h) (fun _ _ => rfl) (.inr ⟨hne, .inl ⟨rfl, rfl⟩⟩)
  · exact q1 (-1) _ rs' H' M' hs hb (.inr ⟨by show (if k = k then R t k else _) ≠ 0; rw [if_pos rfl]; exact h3, .inr ⟨rfl, t, h1, h2, rfl⟩⟩)
  · exact q1 0 R rs H M (fun _ h => h) (fun _ _ => rfl) (.inl ⟨rfl, hz⟩)
theorem midM_start {k : Nat} {c : Int} {M : Nat → Nat → Int} : midM k c M 0 0 = M := by
  funext r j; unfold midM; rw [if_neg (by omega)]
theorem midM_row {k n a : Nat} {c : Int} {M : Nat → Nat → Int} (r j : Nat) (hj : j < n) : midM k c M a (n - (k + 1)) r j = midM k c M (a + 1) 0 r j := by
  unfold midM
  by_cases h : k < r ∧ k < j ∧ (r < k + 1 + a ∨ (r = k + 1 + a ∧ j < k + 1 + (n - (k + 1))))
  · rw [if_pos h, if_pos (by omega)]
  · rw [if_neg h, if_neg (by omega)]
theorem midM_put {k a b : Nat} {c : Int} {M : Nat → Nat → Int} : (fun x y => if x = k + 1 + a ∧ y = k + 1 + b then (M (k + 1 + a) (k + 1 + b) * M k k - M (k + 1 + a) k * M k (k + 1 + b)).fdiv c else midM k c M a b x y) = midM k c M a (b + 1) := by
  funext x y
  unfold midM
  by_cases h : x = k + 1 + a ∧ y = k + 1 + b
  · rw [if_pos h, h.1, h.2, if_pos (by omega)]
  · rw [if_neg h]
    by_cases g : k < x ∧ k < y ∧ (x < k + 1 + a ∨ (x = k + 1 + a ∧ y < k + 1 + b))
    · rw [if_pos g, if_pos (by omega)]
    · rw [if_neg g, if_neg (by omega)]
theorem mul_small {i j : Int} {b : Nat} (hi : i.natAbs ≤ b) (hb : b ≤ 82575360) : CMul i j := .inl (by omega)
theorem ok_determinant (T : Txt K mg CW CD) : Df P w K mg base 2 "determinant" ["square"] spDet := by
  refine df_of T.d_determinant sc_determinant bd_determinant (fun vs H Q E h => ?_) (fun f cdv A outer s H vs Q E hr h => ?_)
  · obtain ⟨q, rs, n, R, rfl, _⟩ := h
    rfl
  · obtain ⟨q, rs, n, R, rfl, M0, hn, hR, q1⟩ := h
    refine ⟨_, (pss_cons (ps_setLc (i := 1) (own := [("row", 8)]) (g := gName 8) rfl sc_determinant.nd rfl rfl (sw_true rfl rfl rfl (by decide +kernel)) (pi_list (pv 0)) (blkOk_by (own := [("row", 8)]) (N := ["square", "rows", "many", "sign", "last", "k", "i", "j", "row"]) (sc := defScope s_determinant) (by decide +kernel)) (fun _ _ _ _ _ => pg_name (i := 8) sc_determinant.nd rfl (Or.inl rfl)) (fun _ _ _ _ _ => pts_nil) (fun _ _ _ _ _ => (pe_callTy (show CallR _ (.type "list") (rListOf K) from list_K) (by rfl) T.n_list (by decide +kernel) (pa_cons (pv 8) pa_nil))))
    (pss_cons (ps_set (i := 2) sc_determinant.nd rfl (Or.inl rfl) (pe_callB call_len_seq (by rfl) T.n_len PySem.boot_len (pa_cons (pv 1) pa_nil)))
    (pss_cons (ps_if (pt_cmpR op_eq (pv 2) pe_int (nomark _))
    (pss_one (ps_ret pe_int))
    pss_nil)
    (pss_cons (ps_set (i := 3) sc_determinant.nd rfl (Or.inl rfl) pe_int)
    (pss_cons (ps_set (i := 4) sc_determinant.nd rfl (Or.inl rfl) pe_int)
    (pss_cons (ps_for PassesOwn.never rfl (pi_range1 (by rfl) T.n_range (pa_cons (pe_op op_sub (pv 2) pe_int) pa_nil)) (pg_name (i := 5) sc_determinant.nd rfl (Or.inl rfl))
    (pss_cons (ps_set (i := 3) sc_determinant.nd rfl (Or.inl rfl) (pe_op op_mul (pv 3) (pe_fn (ok_swapped2 T) hr (pa_cons (pv 1) (pa_cons (pv 5) pa_nil)))))
    (pss_cons (ps_if (pt_cmpR op_eq (pv 3) pe_int (nomark _))
    (pss_one (ps_ret pe_int))
    pss_nil)
    (pss_cons (ps_for PassesOwn.never rfl (pi_range2 (by rfl) T.n_range (pa_cons (pe_op op_add (pv 5) pe_int) (pa_cons (pv 2) pa_nil))) (pg_name (i := 6) sc_determinant.nd rfl (Or.inl rfl))
    (pss_one (ps_for PassesOwn.never rfl (pi_range2 (by rfl) T.n_range (pa_cons (pe_op op_add (pv 5) pe_int) (pa_cons (pv 2) pa_nil))) (pg_name (i := 7) sc_determinant.nd rfl (Or.inl rfl))
    (pss_one (ps_asg (pe_op op_fdivN (pe_op op_sub (pe_op op_mul (pe_ix ix_list (pe_ix ix_list (pv 1) (pv 6) (fun _ _ => rfl)) (pv 7) (fun _ _ => rfl)) (pe_ix ix_list (pe_ix ix_list (pv 1) (pv 5) (fun _ _ => rfl)) (pv 5) (fun _ _ => rfl))) (pe_op op_mul (pe_ix ix_list (pe_ix ix_list (pv 1) (pv 6) (fun _ _ => rfl)) (pv 5) (fun _ _ => rfl)) (pe_ix ix_list (pe_ix ix_list (pv 1) (pv 5) (fun _ _ => rfl)) (pv 7) (fun _ _ => rfl)))) (pv 4)) (pg_sub (pe_ix ix_list (pv 1) (pv 6) (fun _ _ => rfl)) (pv 7) set_list))))))
    (pss_one (ps_set (i := 4) sc_determinant.nd rfl (Or.inl rfl) (pe_ix ix_list (pe_ix ix_list (pv 1) (pv 5) (fun _ _ => rfl)) (pv 5) (fun _ _ => rfl))))))))
    (pss_one (ps_ret (pe_op op_mul (pv 3) (pe_ix ix_list (pe_ix ix_list (pv 1) (pe_op op_sub (pv 2) pe_int) (fun _ _ => rfl)) (pe_op op_sub (pv 2) pe_int) (fun _ _ => rfl))))))))))), ?_⟩
    -- rows = a copy
    refine ⟨_, rfl, q, rfl, ⟨_, SqL.of M0.top⟩, fun D nD => ?_⟩
    refine lc_list (K := K) (a := q) (xs := rs.map V.ref) (fun i H' => Same H H' ∧ ∃ rs' : List Addr, H' D = some (.lst (rs'.map V.ref)) ∧ rs'.length = i ∧ rs'.Nodup ∧ D ∉ rs' ∧ (∀ r ∈ rs', H r = none) ∧ ∀ j r, rs'[j]? = some r → H' r = some (.lst (rowV n (R j))))
      ⟨same_upd nD, [], upd_same, rfl, List.nodup_nil, by simp, by simp, fun j r hr => by simp at hr⟩ (fun i H' _ h => SqL.of (h.1 _ _ M0.top)) (fun i x H' hx ⟨hs, rs', hD, hl, hnd, hout, hnew, hrow⟩ => ?_) (fun H' ⟨hs, rs', hD, hl, hnd, hout, hnew, hrow⟩ => ?_)
    · have hi : i < n := by
        by_cases g : i < (rs.map V.ref).length
        · rw [List.length_map, M0.len] at g; exact g
        · rw [List.getElem?_eq_none (by omega)] at hx; cases hx
      obtain ⟨r, hr, hr2, hrr⟩ := M0.at hi
      have ex : x = .ref r := Option.some.inj (hx.symm.trans hr2)
      subst ex
      refine ⟨rfl, ?_⟩
      unfold tYes; dsimp only
      rw [if_pos rfl]
      refine ⟨_, rfl, r, _, rfl, .inl (SqL.of (hs _ _ hrr)), fun l nl => ?_⟩
      have nl0 : H l = none := hs.free nl
      have nlD : l ≠ D := (ne_of_none hD nl).symm
      have nlr : l ∉ rs' := fun hm => by
        obtain ⟨j, hj, ej⟩ := List.getElem_of_mem hm
        have := hrow j l (by rw [List.getElem?_eq_getElem hj, ej])
        rw [nl] at this; cases this
      refine ⟨rs'.map V.ref, by rw [upd_ne nlD.symm]; exact hD, by rw [List.length_map, hl]; exact small1000 (by omega), same_chg (same_chg hs nl0) nD, rs' ++ [l], by rw [upd_same, List.map_append]; rfl, by rw [List.length_append, hl]; rfl, ?_, ?_, ?_, ?_⟩
      · exact List.nodup_append.mpr ⟨hnd, List.nodup_cons.mpr ⟨by simp, List.nodup_nil⟩, fun a ha b hb e => by
          have : b = l := List.mem_singleton.mp hb
          subst this; subst e; exact nlr ha⟩
      · intro hm
        rcases List.mem_append.mp hm with hm | hm
        · exact hout hm
        · exact nlD (List.mem_singleton.mp hm).symm
      · intro a ha
        rcases List.mem_append.mp ha with ha | ha
        · exact hnew a ha
        · rw [List.mem_singleton.mp ha]; exact nl0
      · intro j a ha
        by_cases g : j < rs'.length
        · rw [List.getElem?_append_left g] at ha
          have haD : a ≠ D := fun e => hout (by rw [← e]; exact List.mem_of_getElem? ha)
          have hal : a ≠ l := fun e => nlr (by rw [← e]; exact List.mem_of_getElem? ha)
          rw [upd_ne haD, upd_ne hal]
          exact hrow j a ha
        · rw [List.getElem?_append_right (by omega)] at ha
          have hj : j = rs'.length := by
            by_cases g2 : j - rs'.length = 0
            · omega
            · rw [List.getElem?_eq_none (by simp; omega)] at ha; cases ha
          subst hj
          rw [Nat.sub_self] at ha
          have : l = a := Option.some.inj ha
          subst this
          rw [upd_ne nlD, upd_same, hl]
    · rw [List.length_map, M0.len] at hl
      have M1 : MatAt H' D rs' n R := ⟨hD, hl, hnd, hout, hrow⟩
      -- many = len(rows)
      refine ⟨_, rfl, D, _, rfl, .inl (SqL.of hD), ?_⟩
      rw [List.length_map, hl]
      refine ⟨_, rfl, rfl, _, rfl, ?_⟩
      refine ite2 (fun e => ?_) (fun e => ?_)
      · have e := of_decide_eq_true e
        injection e with e
        have e : n = 0 := by omega
        subst e
        exact q1 H' hs
      · have hn0 : 0 < n := by
          have e := of_decide_eq_false (by simpa using e)
          exact Nat.pos_of_ne_zero fun z => e (by rw [z])
        refine ⟨_, rfl, _, _, rfl, rfl, _, rfl, by omega, by omega, ?_⟩
        have en : ((n : Int) - 1).toNat = n - 1 := by omega
        rw [en]
        refine for_range (lo := 0) (n := n - 1) (fun k σ H1 => ∃ (s c : Int) (Mk : Nat → Nat → Int) (rs1 : List Addr) (y5 y6 y7 : Option V), σ = [some (.ref q), some (.ref D), some (.int n), some (.int s), some (.int c), y5, y6, y7, none] ∧ Same H H1 ∧ MatAt H1 D rs1 n Mk ∧ (∀ x ∈ rs1, H x = none) ∧ BInv R n k s c Mk 4)
          ⟨1, 1, R, rs', none, none, none, rfl, hs, M1, hnew, BInv.start hR⟩ (fun k σ H1 hk h => ?_) (fun σ H1 h => ?_)
        · obtain ⟨s, c, Mk, rs1, y5, y6, y7, rfl, hs1, M2, hnew1, B⟩ := h
          have hkn : k < n := by omega
          have sb : (-(2 ^ 64) : Int) < s ∧ s < 2 ^ 64 := by rcases B.sg with e | e <;> rw [e] <;> decide
          refine ⟨_, rfl, _, rfl, _, rfl, D, rs1, n, k, Mk, (by rw [Int.zero_add]; rfl), M2, hkn, by omega, fun e Mk' rs2 H2 M3 hsub hb hres => ?_⟩
          have hs2 : Same H H2 := fun b o hbo => by rw [hb b (ne_of_none hbo nD)]; exact hs1 b o hbo
          have hnew2 : ∀ x ∈ rs2, H x = none := fun x hx => hnew1 x (hsub x hx)
          refine ⟨_, _, rfl, rfl, .inl sb, ?_⟩
          refine ⟨_, rfl, rfl, _, rfl, ?_⟩
          rcases hres with ⟨rfl, hz⟩ | ⟨hp, hres⟩
          · refine iteTe (by show decide (V.int (s * 0) = V.int 0) = true; rw [Int.mul_zero]; exact decide_eq_true rfl) ?_
            have := B.none hkn hz
            rw [this] at q1
            exact q1 H2 hs2
          · have B2 : BInv R n k (s * e) c Mk' 4 := by
              rcases hres with ⟨rfl, rfl⟩ | ⟨rfl, t, h1, h2, rfl⟩
              · rw [Int.mul_one]; exact B
              · have : s * (-1) = - s := by omega
                rw [this]; exact B.swap h1 h2 fun _ _ => rfl
            have sne : ¬ (V.int (s * e) = V.int 0) := fun z => by
              injection z with z
              rcases B2.sg with g | g <;> omega
            refine iteFe (decide_eq_false sne) ?_
            generalize hse : s * e = s2 at B2
            have cb : c ≠ 0 ∧ c.natAbs < 1073741824 := ⟨B2.ne, by have := B2.last; have := fac7 (k := k) (by omega); omega⟩
            have eb : ∀ {i j : Nat}, k ≤ i → i < n → k ≤ j → j < n → (Mk' i j).natAbs ≤ 82575360 := fun h1 h2 h3 h4 => Nat.le_trans (B2.entry h1 h2 h3 h4) (fac7 (by omega))
            -- for i
            refine ⟨_, rfl, _, _, rfl, rfl, _, rfl, _, _, rfl, ⟨by omega, by omega, by omega, by omega⟩, ?_⟩
            have en2 : ((n : Int) - ((0 : Int) + k + 1)).toNat = n - (k + 1) := by omega
            rw [en2]
            refine for_range (lo := (0 : Int) + k + 1) (n := n - (k + 1)) (fun a σ H3 => ∃ z6 z7, σ = [some (.ref q), some (.ref D), some (.int n), some (.int s2), some (.int c), some (.int ((0 : Int) + k)), z6, z7, none] ∧ Same H H3 ∧ MatAt H3 D rs2 n (midM k c Mk' a 0))
              ⟨y6, y7, (by rw [← hse]; rfl), hs2, by rw [midM_start]; exact M3⟩ (fun a σ H3 ha h => ?_) (fun σ H3 h => ?_)
            · obtain ⟨z6, z7, rfl, hs3, M4⟩ := h
              refine ⟨_, rfl, _, _, rfl, rfl, _, rfl, _, _, rfl, ⟨by omega, by omega, by omega, by omega⟩, ?_⟩
              rw [en2]
              refine for_range (lo := (0 : Int) + k + 1) (n := n - (k + 1)) (fun b σ H4 => ∃ z7, σ = [some (.ref q), some (.ref D), some (.int n), some (.int s2), some (.int c), some (.int ((0 : Int) + k)), some (.int ((0 : Int) + k + 1 + a)), z7, none] ∧ Same H H4 ∧ MatAt H4 D rs2 n (midM k c Mk' a b))
                ⟨z7, rfl, hs3, M4⟩ (fun b σ H4 hb h => ?_) (fun σ H4 h => ?_)
              · obtain ⟨z7, rfl, hs4, M5⟩ := h
                have i1 : k + 1 + a < n := by omega
                have j1 : k + 1 + b < n := by omega
                have g1 : midM k c Mk' a b (k + 1 + a) (k + 1 + b) = Mk' (k + 1 + a) (k + 1 + b) := by unfold midM; rw [if_neg (by omega)]
                have g2 : midM k c Mk' a b k k = Mk' k k := by unfold midM; rw [if_neg (by omega)]
                have g3 : midM k c Mk' a b (k + 1 + a) k = Mk' (k + 1 + a) k := by unfold midM; rw [if_neg (by omega)]
                have g4 : midM k c Mk' a b k (k + 1 + b) = Mk' k (k + 1 + b) := by unfold midM; rw [if_neg (by omega)]
                have ei : (0 : Int) + k + 1 + a = ((k + 1 + a : Nat) : Int) := by omega
                have ej : (0 : Int) + k + 1 + b = ((k + 1 + b : Nat) : Int) := by omega
                have ek : (0 : Int) + k = ((k : Nat) : Int) := by omega
                refine rd2 (i := k + 1 + a) (j := k + 1 + b) M5 rfl ei ej i1 j1 (fun Q h => ⟨_, rfl, h⟩) (fun Q h => ⟨_, rfl, h⟩) ?_
                refine rd2 (i := k) (j := k) M5 rfl ek ek hkn hkn (fun Q h => ⟨_, rfl, h⟩) (fun Q h => ⟨_, rfl, h⟩) ?_
                rw [g1, g2]
                refine ⟨_, _, rfl, rfl, mul_small (eb (by omega) i1 (by omega) j1) (Nat.le_refl _), ?_⟩
                refine rd2 (i := k + 1 + a) (j := k) M5 rfl ei ek i1 hkn (fun Q h => ⟨_, rfl, h⟩) (fun Q h => ⟨_, rfl, h⟩) ?_
                refine rd2 (i := k) (j := k + 1 + b) M5 rfl ek ej hkn j1 (fun Q h => ⟨_, rfl, h⟩) (fun Q h => ⟨_, rfl, h⟩) ?_
                rw [g3, g4]
                refine ⟨_, _, rfl, rfl, mul_small (eb (by omega) i1 (Nat.le_refl _) hkn) (Nat.le_refl _), _, _, rfl, rfl, _, rfl, _, _, rfl, rfl, cb, ?_⟩
                obtain ⟨r, hr, hr2, hrow⟩ := M5.at i1
                refine ⟨_, rfl, _, rfl, D, _, _, .ref r, rfl, rfl, SqL.of M5.top, at_of ei hr2, _, rfl, r, _, _, k + 1 + b, rfl, rfl, hrow, ixN_nat ej (by rw [rowV_len]; exact j1), ?_⟩
                refine ⟨_, rfl, same_chg hs4 (hnew2 r (List.mem_of_getElem? hr)), ?_⟩
                have := M5.put (j := k + 1 + b) hr ((Mk' (k + 1 + a) (k + 1 + b) * Mk' k k - Mk' (k + 1 + a) k * Mk' k (k + 1 + b)).fdiv c)
                rw [midM_put] at this
                exact this
              · obtain ⟨z7, rfl, hs4, M5⟩ := h
                exact ⟨_, _, rfl, hs4, M5.congr fun r j _ hj => midM_row r j hj⟩
            · obtain ⟨z6, z7, rfl, hs3, M4⟩ := h
              have ek : (0 : Int) + k = ((k : Nat) : Int) := by omega
              refine rd2 (i := k) (j := k) M4 rfl ek ek hkn hkn (fun Q h => ⟨_, rfl, h⟩) (fun Q h => ⟨_, rfl, h⟩) ?_
              have g2 : midM k c Mk' (n - (k + 1)) 0 k k = Mk' k k := by unfold midM; rw [if_neg (by omega)]
              rw [g2]
              refine ⟨s2, Mk' k k, midM k c Mk' (n - (k + 1)) 0, rs2, _, _, _, rfl, hs3, M4, hnew2, B2.step hkn hp fun i j h1 h2 h3 h4 => ?_⟩
              have : midM k c Mk' (n - (k + 1)) 0 i j = (Mk' i j * Mk' k k - Mk' i k * Mk' k j).fdiv c := by unfold midM; rw [if_pos (by omega)]
              rw [this]
              obtain ⟨z, hz⟩ := B2.exact h1 h2 h3 h4
              rw [hz, Int.mul_fdiv_cancel_left _ B2.ne]
        · obtain ⟨s, c, Mk, rs1, y5, y6, y7, rfl, hs1, M2, hnew1, B⟩ := h
          have en1 : (n : Int) - 1 = ((n - 1 : Nat) : Int) := by omega
          have sb : (-(2 ^ 64) : Int) < s ∧ s < 2 ^ 64 := by rcases B.sg with e | e <;> rw [e] <;> decide
          refine ⟨_, rfl, ?_⟩
          refine rd2 (i := n - 1) (j := n - 1) (zi := (n : Int) - 1) (zj := (n : Int) - 1) M2 rfl en1 en1 (by omega) (by omega) (fun Q h => ⟨_, rfl, _, _, rfl, rfl, h⟩) (fun Q h => ⟨_, rfl, _, _, rfl, rfl, h⟩) ⟨_, _, rfl, rfl, .inl sb, ?_⟩
          have e := B.done (by omega)
          show Q (.int (s * Mk (n - 1) (n - 1))) H1
          rw [e]
          exact q1 H1 hs1
end
end Tw
namespace Tw
open PySem PySem.Spec PyProof.Rows L2 MT MW
section
variable {P : Program} {w : World} {K : PySem.W.Frag} {mg : Str → Option Value} {base : Heap} {CW CD : Addr}
open MD
/-- a comprehension that makes new rows of numbers -/
theorem lc_rows {a D : Addr} {xs : List V} {n : Nat} {R : Nat → Nat → Int} {i0 : Nat} {te : TE} {vs : List Nat} {σ : L2.St} {H1 : Hp} {Qd : Hp → Prop} (ha : SqL K H1 a xs) (hlen : xs.length = n) (hn : n ≤ 100) (nD : H1 D = none)
    (hw : ∀ x : V, wipe ((wipe σ vs).set i0 (some x)) vs = wipe σ vs)
    (hte : ∀ (i : Nat) (x : V) (H' : Hp) (Q : VK), xs[i]? = some x → Same H1 H' → (∀ l H2, Same H' H2 → H' l = none → H2 l = some (.lst (rowV n (R i))) → Q (.ref l) H2) → te ((wipe σ vs).set i0 (some x)) H' Q)
    (hd : ∀ H' rs, Same H1 H' → MatAt H' D rs n R → (∀ x ∈ rs, H1 x = none) → Qd H') :
    ∃ W : Nat → Nat → Hp → Prop, (∃ m, W 0 m (upd H1 D (.lst []))) ∧ ∀ i m H, W i m H →
      ((Itl K a).stop i H ∧ Qd H) ∨ ((Itl K a).go i H ∧ ∃ Nx : Hp → Prop, (∀ H', Nx H' → ∃ m', m' < m ∧ W (i + 1) m' H') ∧ ∀ x H', (Itl K a).yld i H x H' → gName i0 x (wipe σ vs) H' fun σ2 H2 => wipe σ2 vs = wipe σ vs ∧ tYes σ2 H2 fun b H3 =>
        if b = true then te σ2 H3 fun y H4 => ∃ acc, H4 D = some (.lst acc) ∧ acc.length < sizeLine ∧ Nx (upd H4 D (.lst (acc ++ [y]))) else Nx H3) := by
  refine lc_list (K := K) (a := a) (xs := xs) (fun i H' => Same H1 H' ∧ ∃ rs : List Addr, H' D = some (.lst (rs.map V.ref)) ∧ rs.length = i ∧ rs.Nodup ∧ D ∉ rs ∧ (∀ r ∈ rs, H1 r = none) ∧ ∀ j r, rs[j]? = some r → H' r = some (.lst (rowV n (R j))))
    ⟨same_upd nD, [], upd_same, rfl, List.nodup_nil, by simp, by simp, fun j r hr => by simp at hr⟩ (fun i H' _ h => h.1.seq ha) (fun i x H' hx ⟨hs, rs, hD, hl, hnd, hout, hnew, hrow⟩ => ?_) (fun H' ⟨hs, rs, hD, hl, hnd, hout, hnew, hrow⟩ => ?_)
  · have hi : i < n := by
      by_cases g : i < xs.length
      · rw [hlen] at g; exact g
      · rw [List.getElem?_eq_none (by omega)] at hx; cases hx
    refine ⟨hw x, ?_⟩
    unfold tYes; dsimp only
    rw [if_pos rfl]
    refine hte i x H' _ hx hs fun l H2 s2 nl el => ?_
    have nl0 : H1 l = none := hs.free nl
    have nlD : l ≠ D := (ne_of_none hD nl).symm
    have nlr : l ∉ rs := fun hm => by
      obtain ⟨j, hj, ej⟩ := List.getElem_of_mem hm
      have := hrow j l (by rw [List.getElem?_eq_getElem hj, ej])
      rw [nl] at this; cases this
    refine ⟨rs.map V.ref, s2 _ _ hD, by rw [List.length_map, hl]; exact small1000 (by omega), same_chg (hs.trans s2) nD, rs ++ [l], by rw [upd_same, List.map_append]; rfl, by rw [List.length_append, hl]; rfl, ?_, ?_, ?_, ?_⟩
    · exact List.nodup_append.mpr ⟨hnd, List.nodup_cons.mpr ⟨by simp, List.nodup_nil⟩, fun a ha b hb e => by
        have : b = l := List.mem_singleton.mp hb
        subst this; subst e; exact nlr ha⟩
    · intro hm
      rcases List.mem_append.mp hm with hm | hm
      · exact hout hm
      · exact nlD (List.mem_singleton.mp hm).symm
    · intro a ha
      rcases List.mem_append.mp ha with ha | ha
      · exact hnew a ha
      · rw [List.mem_singleton.mp ha]; exact nl0
    · intro j a ha
      by_cases g : j < rs.length
      · rw [List.getElem?_append_left g] at ha
        have haD : a ≠ D := fun e => hout (by rw [← e]; exact List.mem_of_getElem? ha)
        rw [upd_ne haD]
        exact s2 _ _ (hrow j a ha)
      · rw [List.getElem?_append_right (by omega)] at ha
        have hj : j = rs.length := by
          by_cases g2 : j - rs.length = 0
          · omega
          · rw [List.getElem?_eq_none (by simp; omega)] at ha; cases ha
        subst hj
        rw [Nat.sub_self] at ha
        have : l = a := Option.some.inj ha
        subst this
        rw [upd_ne nlD, el, hl]
  · rw [hlen] at hl
    exact hd H' rs hs ⟨hD, hl, hnd, hout, hrow⟩ hnew
/-- the i-th of some words -/
abbrev ov (os : List Wd) (i : Nat) : Wd := os.getD i default
theorem ov_at {os : List Wd} {i : Nat} {v : Wd} (h : os[i]? = some v) : ov os i = v := by unfold ov; rw [List.getD_eq_getElem?_getD, h]; rfl
theorem at_ov {os : List Wd} {i : Nat} (h : i < os.length) : os[i]? = some (ov os i) := by unfold ov; rw [List.getD_eq_getElem?_getD, List.getElem?_eq_getElem h]; rfl
theorem ov_inj {os : List Wd} (hn : os.Nodup) {i j : Nat} (hi : i < os.length) (hj : j < os.length) (e : ov os i = ov os j) : i = j := by
  have h1 := at_ov hi
  have h2 := at_ov hj
  rw [e] at h1
  exact nd_ix hn h1 h2
/-- a row so far -/
def rowSo (os : List Wd) (t : Wd) (l : List Wd) (j : Nat) : Int := lsum l fun x => dl t (ov os j) - dl (enn x) (ov os j)
theorem rowSo_full (os S : List Wd) (t : Wd) (j : Nat) : rowSo os t (gone bgn S t) j = lap bgn enn S t (ov os j) := by
  unfold rowSo gone lap
  rw [lsum_filter]
  exact lsum_congr fun x _ => by
    by_cases e : bgn x = t
    · rw [if_pos (decide_eq_true e), if_pos e]
    · rw [if_neg (by simpa using e), if_neg e]
theorem lsum_app {α : Type} (l : List α) (x : α) (f : α → Int) : lsum (l ++ [x]) f = lsum l f + f x := by
  induction l with
  | nil => show f x + 0 = 0 + f x; omega
  | cons y l ih => show f y + lsum (l ++ [x]) f = f y + lsum l f + f x; rw [ih]; omega
theorem take_kadd {os : List Wd} (hn : os.Nodup) {k : Nat} {v : Wd} (h : os[k]? = some v) : kadd (os.take k) v = os.take (k + 1) := by
  have : v ∉ os.take k := fun hm => by
    obtain ⟨j, hj, e⟩ := List.getElem_of_mem hm
    have hj' := hj
    rw [List.length_take] at hj'
    have e2 : os[j]? = some v := by
      rw [List.getElem_take] at e
      rw [List.getElem?_eq_getElem (by omega), e]
    have := nd_ix hn e2 h
    omega
  unfold kadd
  rw [if_neg this, take_snoc h]
/-- the square within the i-th row -/
def matSo (os S : List Wd) (i : Nat) (t : Wd) (l : List Wd) : Nat → Nat → Int := fun a j => if a = i then rowSo os t l j else if a < i then lap bgn enn S (ov os a) (ov os j) else 0
theorem matSo_i {os S : List Wd} {i : Nat} {t : Wd} {l : List Wd} (j : Nat) : matSo os S i t l i j = rowSo os t l j := by unfold matSo; rw [if_pos rfl]
theorem matSo_ne {os S : List Wd} {i a : Nat} {t : Wd} {l k : List Wd} (h : a ≠ i) (j : Nat) : matSo os S i t l a j = matSo os S i t k a j := by unfold matSo; rw [if_neg h, if_neg h]
def spChoices : Sp := fun vs H Q _ => ∃ (d : Addr) (ks S : List Wd) (g : Wd → Addr), vs = [.ref d] ∧ H d = some (.dK (dkv ks fun k => .ref (g k))) ∧ ks.Nodup ∧ ks.length ≤ 7 ∧ (∀ k ∈ ks, H (g k) = some (.lst (sL (gone bgn S k)))) ∧
  S.length ≤ 16 ∧ (∀ x ∈ S, x.length ≤ 1000) ∧ (∀ k ∈ ks, outd bgn S k ≤ 4) ∧ ∀ H', Same H H' → Q (.int (D bgn enn S (srt ks))) H'
theorem ok_choices_counted (T : Txt K mg CW CD) : Df P w K mg base 3 "choices_counted" ["ways"] spChoices := by
  refine df_of T.d_choices_counted sc_choices_counted bd_choices_counted (fun vs H Q E h => ?_) (fun f cdv A outer s H vs Q E hr h => ?_)
  · obtain ⟨d, ks, S, g, rfl, _⟩ := h
    rfl
  · obtain ⟨d, ks, S, g, rfl, hd, hnd, h7, hg, h16, hw, hdeg, q⟩ := h
    have hu := hu_of hr
    refine ⟨_, (pss_cons (ps_set (i := 1) sc_choices_counted.nd rfl (Or.inr rfl) (pe_callB (cr_sortDW rfl) (by rfl) T.n_sorted (by decide +kernel) (pa_cons (pv 0) pa_nil)))
    (pss_cons (ps_set (i := 2) sc_choices_counted.nd rfl (Or.inl rfl) pe_dnewK)
    (pss_cons (ps_for PassesOwn.never rfl (pi_range1 (by rfl) T.n_range (pa_cons (pe_callB call_len_seq (by rfl) T.n_len PySem.boot_len (pa_cons (pv 1) pa_nil)) pa_nil)) (pg_name (i := 3) sc_choices_counted.nd rfl (Or.inl rfl))
    (pss_one (ps_dput hu (pv 2) (pe_ix ix_list (pv 1) (pv 3) (fun _ _ => rfl)) (pv 3) rfl)))
    (pss_cons (ps_setLc (i := 4) (own := [("text", 5)]) (g := gName 5) rfl sc_choices_counted.nd rfl rfl (sw_true rfl rfl rfl (by decide +kernel)) (pi_list (pv 1)) (blkOk_by (own := [("text", 5)]) (N := ["ways", "order", "place", "k", "square", "text", "row", "word", "there"]) (sc := defScope s_choices_counted) (by decide +kernel)) (fun _ _ _ _ _ => pg_name (i := 5) sc_choices_counted.nd rfl (Or.inl rfl)) (fun _ _ _ _ _ => pts_nil) (fun _ _ _ _ _ => (pe_op op_rep (pe_lst (pa_cons pe_int pa_nil)) (pe_callB (show CallR _ (.builtin "len") (rLenSeq K) from len_K) (by rfl) T.n_len PySem.boot_len (pa_cons (pv 1) pa_nil)))))
    (pss_cons (ps_for PassesOwn.never rfl (pi_list (pv 1)) (pg_name (i := 5) sc_choices_counted.nd rfl (Or.inl rfl))
    (pss_cons (ps_set (i := 6) sc_choices_counted.nd rfl (Or.inl rfl) (pe_ix ix_list (pv 4) (pe_dget hu (pv 2) (pv 5) (fun _ _ => rfl)) (fun _ _ => rfl)))
    (pss_one (ps_for PassesOwn.never rfl (pi_list (pe_dget hu (pv 0) (pv 5) (fun _ _ => rfl))) (pg_name (i := 7) sc_choices_counted.nd rfl (Or.inl rfl))
    (pss_cons (ps_set (i := 8) sc_choices_counted.nd rfl (Or.inl rfl) (pe_fn (ok_end_of T) hr (pa_cons (pv 7) pa_nil)))
    (pss_one (ps_if (pt_cmpR op_ne (pv 8) (pv 5) (nomark _))
    (pss_cons (ps_asg (pe_op op_add (pe_ix ix_list (pv 6) (pe_dget hu (pv 2) (pv 5) (fun _ _ => rfl)) (fun _ _ => rfl)) pe_int) (pg_sub (pv 6) (pe_dget hu (pv 2) (pv 5) (fun _ _ => rfl)) set_list))
    (pss_one (ps_if (pt_cmp (pc_din hu (pv 8) (pv 2)))
    (pss_one (ps_asg (pe_op op_sub (pe_ix ix_list (pv 6) (pe_dget hu (pv 2) (pv 8) (fun _ _ => rfl)) (fun _ _ => rfl)) pe_int) (pg_sub (pv 6) (pe_dget hu (pv 2) (pv 8) (fun _ _ => rfl)) set_list)))
    pss_nil)))
    pss_nil)))))))
    (pss_one (ps_ret (pe_fn (ok_determinant T) hr (pa_cons (pv 4) pa_nil))))))))), ?_⟩
    refine ⟨_, rfl, d, ks, _, rfl, .of hd, hnd, by omega, fun q1 n1 => ?_⟩
    have hos := srt_nd ks
    have hol : (srt ks).length = ks.length := srt_len hnd
    have hom : ∀ v, v ∈ srt ks → v ∈ ks := fun v hv => mem_srt.mp hv
    generalize hso : srt ks = os at *
    intro d2 n2
    have s1 : Same H (upd H q1 (.lst (sL os))) := same_upd n1
    have n20 : H d2 = none := s1.free n2
    have nq2 : q1 ≠ d2 := fun e => by rw [← e, upd_same] at n2; cases n2
    -- place
    refine ⟨_, rfl, q1, _, rfl, .inl (SqL.of (by rw [upd_ne nq2, upd_same])), _, rfl, by rw [sL_len]; omega, by rw [sL_len]; omega, ?_⟩
    have en : (((sL os).length : Nat) : Int).toNat = os.length := by rw [sL_len]; omega
    rw [en]
    refine for_range (lo := 0) (n := os.length) (fun k σ H' => ∃ z fp, σ = [some (.ref d), some (.ref q1), some (.ref d2), z, none, none, none, none, none] ∧ Same H H' ∧ H' q1 = some (.lst (sL os)) ∧ H' d2 = some (.dK (dkv (os.take k) fp)) ∧ ∀ j, j < k → fp (ov os j) = .int (j : Int))
      ⟨none, fun _ => .non, rfl, s1.trans (same_upd n2), by rw [upd_ne nq2, upd_same], upd_same, fun j hj => by omega⟩ (fun k σ H' hk h => ?_) (fun σ H' h => ?_)
    · obtain ⟨z, fp, rfl, hs, hq, hp, hf⟩ := h
      have hkv := at_ov hk
      refine ⟨_, rfl, _, rfl, _, rfl, _, rfl, q1, _, _, sV (ov os k), rfl, rfl, SqL.of hq, at_of (j := k) (by omega) (sL_get hkv), d2, _, rfl, dput_w hp (by rw [List.length_take]; omega), ?_⟩
      rw [take_kadd hos hkv]
      refine ⟨_, _, rfl, same_chg hs n20, by rw [upd_ne nq2]; exact hq, upd_same, fun j hj => ?_⟩
      by_cases e : j = k
      · subst e; rw [fup_same, Int.zero_add]
      · rw [fup_ne _ _ fun h => e (ov_inj hos (by omega) hk h)]; exact hf j (by omega)
    · obtain ⟨z, fp, rfl, hs, hq, hp, hf⟩ := h
      rw [List.take_length] at hp
      -- square
      refine ⟨_, rfl, q1, rfl, ⟨_, SqL.of hq⟩, fun D nD => ?_⟩
      refine lc_rows (n := os.length) (R := fun _ _ => 0) (SqL.of hq) (sL_len os) (by omega) nD (fun _ => rfl) (fun i x H2 Q hx hs2 hQ => ?_) fun H2 rs hs2 M0 hnew => ?_
      · refine ⟨by show 1 ≤ sizeLine; decide, fun l nl => ⟨_, rfl, q1, _, rfl, .inl (SqL.of ((hs2.trans (same_upd nl)) _ _ hq)), l, _, [.int 0], rfl, rfl, upd_same, by rw [sL_len]; omega, by rw [sL_len]; omega, ?_, fun p np => ?_⟩⟩
        · rw [en]; show 1 * os.length ≤ sizeLine; exact Nat.le_of_lt (small1000 (by omega))
        · rw [en]
          have e0 : (List.replicate os.length [V.int 0]).flatten = rowV os.length (fun _ => 0) := by
            unfold rowV
            rw [List.map_const', List.length_range]
            induction os.length with
            | zero => rfl
            | succ m ih => rw [List.replicate_succ, List.flatten_cons, ih, List.replicate_succ]; rfl
          rw [e0]
          exact hQ p _ ((same_upd nl).trans (same_upd np)) ((same_upd nl).free np) upd_same
      have hq3 := hs2 _ _ hq
      have hp3 := hs2 _ _ hp
      have hs3 : Same H H2 := hs.trans hs2
      have hnew0 : ∀ x ∈ rs, H x = none := fun x hx => hs.free (hnew x hx)
      -- for text in order
      refine ⟨_, rfl, q1, rfl, ⟨_, SqL.of hq3⟩, ?_⟩
      refine for_list (K := K) (a := q1) (xs := sL os) (fun i σ H3 => ∃ z3 z5 z6 z7 z8, σ = [some (.ref d), some (.ref q1), some (.ref d2), z3, some (.ref D), z5, z6, z7, z8] ∧ Same H H3 ∧ H3 q1 = some (.lst (sL os)) ∧ H3 d2 = some (.dK (dkv os fp)) ∧
          MatAt H3 D rs os.length (fun a j => if a < i then lap bgn enn S (ov os a) (ov os j) else 0))
        ⟨_, _, _, _, _, rfl, hs3, hq3, hp3, M0.congr fun i j _ _ => by rw [if_neg (by omega)]⟩ (fun i σ H3 _ h => ?_) (fun i x σ H3 hx h => ?_) (fun σ H3 h => ?_)
      · obtain ⟨_, _, _, _, _, _, _, hq4, _⟩ := h
        exact SqL.of hq4
      · obtain ⟨z3, z5, z6, z7, z8, rfl, hs4, hq4, hp4, M4⟩ := h
        obtain ⟨t, ht, rfl⟩ := sL_at hx
        have hi : i < os.length := by
          by_cases g : i < os.length
          · exact g
          · rw [List.getElem?_eq_none (by omega)] at ht; cases ht
        have eti : ov os i = t := ov_at ht
        have htm : t ∈ os := List.mem_of_getElem? ht
        have htk := hom t htm
        obtain ⟨r, hr1, hr2, hrow⟩ := M4.at hi
        have ft : fp t = .int (i : Int) := by rw [← eti]; exact hf i hi
        have gt : ∀ {H' : Hp}, H' d2 = some (.dK (dkv os fp)) → DGet H' d2 (sV t) (some (.int (i : Int))) := fun h => by rw [← ft]; exact dget_in (.of h) htm
        have hr0 : H r = none := hnew0 r (List.mem_of_getElem? hr1)
        refine ⟨_, rfl, _, rfl, _, rfl, d2, _, rfl, gt hp4, D, _, _, .ref r, rfl, rfl, SqL.of M4.top, at_of rfl hr2, ?_⟩
        refine ⟨_, rfl, _, rfl, d, _, rfl, dget_in (.of (hs4 _ _ hd)) htk, ?_⟩
        refine ⟨g t, rfl, ⟨_, SqL.of (hs4 _ _ (hg t htk))⟩, ?_⟩
        refine for_list (K := K) (a := g t) (xs := sL (gone bgn S t)) (fun b σ H5 => ∃ z7 z8, σ = [some (.ref d), some (.ref q1), some (.ref d2), z3, some (.ref D), some (sV t), some (.ref r), z7, z8] ∧ Same H H5 ∧ H5 q1 = some (.lst (sL os)) ∧ H5 d2 = some (.dK (dkv os fp)) ∧
            MatAt H5 D rs os.length (matSo os S i t ((gone bgn S t).take b)))
          ⟨_, _, rfl, hs4, hq4, hp4, M4.congr fun a j _ _ => ?_⟩ (fun b σ H5 _ h => ?_) (fun b x σ H5 hx h => ?_) (fun σ H5 h => ?_)
        · show _ = matSo os S i t [] a j
          unfold matSo
          by_cases e : a = i
          · rw [if_pos e, e, if_neg (by omega)]; rfl
          · rw [if_neg e]
        · obtain ⟨_, _, _, hs5, _⟩ := h
          exact SqL.of (hs5 _ _ (hg t htk))
        · obtain ⟨z7, z8, rfl, hs5, hq5, hp5, M5⟩ := h
          obtain ⟨y, hy, rfl⟩ := sL_at hx
          have hyS := (mem_gone.mp (List.mem_of_getElem? hy)).1
          have step : ∀ j, rowSo os t ((gone bgn S t).take (b + 1)) j = rowSo os t ((gone bgn S t).take b) j + (dl t (ov os j) - dl (enn y) (ov os j)) := fun j => by
            unfold rowSo; rw [take_snoc hy, lsum_app]
          have dti : ∀ j, j < os.length → dl t (ov os j) = if j = i then 1 else 0 := fun j hj => by
            by_cases e : j = i
            · rw [if_pos e, e, eti, dl_self]
            · rw [if_neg e, dl_ne fun h => e (ov_inj hos hj hi (by rw [eti, h]))]
          refine ⟨_, rfl, y, rfl, hw y hyS, ?_⟩
          refine ⟨_, rfl, _, rfl, rfl, _, rfl, ?_⟩
          rw [dec_sV]
          by_cases e : enn y = t
          · rw [decide_eq_true e]
            refine iteF ⟨_, _, rfl, hs5, hq5, hp5, M5.congr fun a j _ _ => ?_⟩
            by_cases ea : a = i
            · rw [ea, matSo_i, matSo_i, step, e, Int.sub_self, Int.add_zero]
            · exact matSo_ne ea j
          · rw [decide_eq_false e]
            refine iteT ?_
            have hrow5 := M5.row i r hr1
            -- row[place[text]] + 1
            refine ⟨_, rfl, _, rfl, _, rfl, d2, _, rfl, gt hp5, r, _, _, _, rfl, rfl, SqL.of hrow5, at_of rfl (rowV_get _ hi), _, _, rfl, rfl, _, rfl, _, rfl, _, rfl, d2, _, rfl, gt hp5, r, _, _, i, rfl, rfl, hrow5, ixN_nat rfl (by rw [rowV_len]; exact hi), ?_⟩
            have M6 := M5.put (j := i) hr1 (matSo os S i t ((gone bgn S t).take b) i i + 1)
            have rq1 : q1 ≠ r := ne_of_none hq (hnew r (List.mem_of_getElem? hr1))
            have rd2' : d2 ≠ r := ne_of_none hp (hnew r (List.mem_of_getElem? hr1))
            have hs6 : Same H (upd H5 r (.lst ((rowV os.length (matSo os S i t ((gone bgn S t).take b) i)).set i (.int (matSo os S i t ((gone bgn S t).take b) i i + 1))))) := same_chg hs5 hr0
            have hq6 : (upd H5 r (.lst ((rowV os.length (matSo os S i t ((gone bgn S t).take b) i)).set i (.int (matSo os S i t ((gone bgn S t).take b) i i + 1))))) q1 = some (.lst (sL os)) := by rw [upd_ne rq1]; exact hq5
            have hp6 : (upd H5 r (.lst ((rowV os.length (matSo os S i t ((gone bgn S t).take b) i)).set i (.int (matSo os S i t ((gone bgn S t).take b) i i + 1))))) d2 = some (.dK (dkv os fp)) := by rw [upd_ne rd2']; exact hp5
            refine ⟨_, rfl, _, rfl, d2, _, rfl, dget_w hp6, _, rfl, ?_⟩
            by_cases hin : enn y ∈ os
            · rw [if_pos hin]
              refine iteT ?_
              obtain ⟨c, hc, ec⟩ := List.getElem_of_mem hin
              have ecc : ov os c = enn y := ov_at (by rw [List.getElem?_eq_getElem hc, ec])
              have fc : fp (enn y) = .int (c : Int) := by rw [← ecc]; exact hf c hc
              have gc : ∀ {H' : Hp}, H' d2 = some (.dK (dkv os fp)) → DGet H' d2 (sV (enn y)) (some (.int (c : Int))) := fun h => by rw [← fc]; exact dget_in (.of h) hin
              have hrow6 := M6.row i r hr1
              have hci : c ≠ i := fun z => e (by rw [← ecc, z, eti])
              refine ⟨_, rfl, _, rfl, _, rfl, d2, _, rfl, gc hp6, r, _, _, _, rfl, rfl, SqL.of hrow6, at_of rfl (rowV_get _ hc), _, _, rfl, rfl, _, rfl, _, rfl, _, rfl, d2, _, rfl, gc hp6, r, _, _, c, rfl, rfl, hrow6, ixN_nat rfl (by rw [rowV_len]; exact hc), ?_⟩
              have M7 := M6.put (j := c) hr1 ((if i = i ∧ c = i then matSo os S i t ((gone bgn S t).take b) i i + 1 else matSo os S i t ((gone bgn S t).take b) i c) - 1)
              refine ⟨_, _, rfl, same_chg hs6 hr0, by rw [upd_ne rq1]; exact hq6, by rw [upd_ne rd2']; exact hp6, M7.congr fun a j _ hj => ?_⟩
              by_cases ea : a = i
              · subst ea
                rw [matSo_i a, matSo_i c, matSo_i j, matSo_i j, step, dti j hj]
                by_cases ejc : j = c
                · subst ejc
                  rw [if_pos ⟨rfl, rfl⟩, if_neg fun z => hci z.2, if_neg hci, ← ecc, dl_self]; omega
                · rw [if_neg fun z => ejc z.2]
                  have d0 : dl (enn y) (ov os j) = 0 := dl_ne fun h => ejc (ov_inj hos hj hc (by rw [ecc, h]))
                  rw [d0]
                  by_cases eji : j = a
                  · subst eji; rw [if_pos ⟨rfl, rfl⟩, if_pos rfl]; omega
                  · rw [if_neg fun z => eji z.2, if_neg eji]; omega
              · rw [if_neg fun z => ea z.1, if_neg fun z => ea z.1]
                exact matSo_ne ea j
            · rw [if_neg hin]
              refine iteF ⟨_, _, rfl, hs6, hq6, hp6, M6.congr fun a j _ hj => ?_⟩
              by_cases ea : a = i
              · subst ea
                rw [matSo_i a, matSo_i j, matSo_i j, step, dti j hj, dl_ne (v := enn y) fun h => hin (by rw [h]; exact List.mem_of_getElem? (at_ov hj))]
                by_cases eji : j = a
                · subst eji; rw [if_pos ⟨rfl, rfl⟩, if_pos rfl]; omega
                · rw [if_neg fun z => eji z.2, if_neg eji]; omega
              · rw [if_neg fun z => ea z.1]
                exact matSo_ne ea j
        · obtain ⟨z7, z8, rfl, hs5, hq5, hp5, M5⟩ := h
          rw [sL_len, List.take_length] at M5
          refine ⟨_, _, _, _, _, rfl, hs5, hq5, hp5, M5.congr fun a j _ _ => ?_⟩
          unfold matSo
          by_cases ea : a = i
          · rw [if_pos ea, rowSo_full, if_pos (by omega), ea, eti]
          · rw [if_neg ea]
            by_cases g : a < i
            · rw [if_pos g, if_pos (by omega)]
            · rw [if_neg g, if_neg (by omega)]
      · obtain ⟨z3, z5, z6, z7, z8, rfl, hs4, hq4, hp4, M4⟩ := h
        rw [sL_len] at M4
        have M5 : MatAt H3 D rs os.length (fun a j => lap bgn enn S (ov os a) (ov os j)) := M4.congr fun a j ha _ => by rw [if_pos ha]
        refine ⟨_, rfl, D, rs, os.length, _, rfl, M5, by omega, fun a j ha hj => ?_, fun H4 s4 => ?_⟩
        · exact Nat.le_trans (lap_abs S _ _) (hdeg _ (hom _ (List.mem_of_getElem? (at_ov ha))))
        · exact q H4 (hs4.trans s4)
end
end Tw
namespace Tw
open PySem PySem.Spec PyProof.Rows L2 MT MW
section
variable {P : Program} {w : World} {K : PySem.W.Frag} {mg : Str → Option Value} {base : Heap} {CW CD : Addr}
open MD
/-! ### ways toward a piece, trees counted -/
theorem wo_snoc {ws : List Wd} {x v : Wd} : wo (ws ++ [x]) v = wo ws v ++ (if x ≠ v then [x] else []) := by
  unfold wo
  rw [filter_snoc]
  by_cases e : x = v
  · rw [if_neg (by simpa using e), if_neg (by simpa using e)]
  · rw [if_pos (by simpa using e), if_pos e]
theorem fup_ref (g : Wd → Addr) (k : Wd) (r : Addr) : fup (fun k => V.ref (g k)) k (.ref r) = fun j => V.ref (fup g k r j) := by
  funext j
  unfold fup
  by_cases e : j = k
  · rw [if_pos e, if_pos e]
  · rw [if_neg e, if_neg e]
def spToward (CW : Addr) : Sp := fun vs H Q _ => ∃ (p t : Addr) (ws : List Wd) (L : Nat) (v : Wd), vs = [.ref p, sV v] ∧ WebAt CW H p ws L t ∧ v ∈ pcs ws ∧
  ∀ (d : Addr) (H' : Hp) (g : Wd → Addr), Same H H' → H d = none → H' d = some (.dK (dkv (wo (pcs ws) v) fun k => .ref (g k))) → (∀ k ∈ wo (pcs ws) v, H' (g k) = some (.lst (sL (gone bgn ws k)))) → Q (.ref d) H'
theorem ok_ways_toward (T : Txt K mg CW CD) : Df P w K mg base 3 "ways_toward" ["web", "piece"] (spToward CW) := by
  refine df_of T.d_ways_toward sc_ways_toward bd_ways_toward (fun vs H Q E h => ?_) (fun f cdv A outer s H vs Q E hr h => ?_)
  · obtain ⟨p, t, ws, L, v, rfl, _⟩ := h
    rfl
  · obtain ⟨p, t, ws, L, v, rfl, W, hv, q⟩ := h
    have hu := hu_of hr
    have hpc := W.ok.pc
    refine ⟨_, (pss_cons (ps_set (i := 2) sc_ways_toward.nd rfl (Or.inl rfl) (pe_fn (ok_pieces T) hr (pa_cons (pv 0) pa_nil)))
    (pss_cons (ps_if (pt_cmpR op_notInW (pv 1) (pv 2) rfl)
    (pss_one ps_never)
    pss_nil)
    (pss_cons (ps_set (i := 3) sc_ways_toward.nd rfl (Or.inl rfl) pe_dnewK)
    (pss_cons (ps_for PassesOwn.never rfl (pi_list (pv 2)) (pg_name (i := 4) sc_ways_toward.nd rfl (Or.inl rfl))
    (pss_one (ps_if (pt_cmpR op_ne (pv 4) (pv 1) (nomark _))
    (pss_one (ps_dput hu (pv 3) (pv 4) (pe_fn (ok_outs T) hr (pa_cons (pv 0) (pa_cons (pv 4) pa_nil))) rfl))
    pss_nil)))
    (pss_one (ps_ret (pv 3))))))), ?_⟩
    refine ⟨_, rfl, p, t, ws, L, rfl, W, fun q1 H1 s1 n1 e1 => ?_⟩
    refine ⟨_, rfl, _, rfl, v, q1, pcs ws, rfl, rfl, .inl (SqL.of e1), _, rfl, ?_⟩
    refine iteFe (by show (if true = true then !decide (v ∈ pcs ws) else _) = false; rw [if_pos rfl, decide_eq_true hv]; rfl) ?_
    intro d nd
    have nd0 : H d = none := s1.free nd
    have nqd : q1 ≠ d := ne_of_none e1 nd
    refine ⟨_, rfl, q1, rfl, ⟨_, SqL.of (same_upd nd _ _ e1)⟩, ?_⟩
    refine for_list (K := K) (a := q1) (xs := sL (pcs ws)) (fun i σ H' => ∃ z g, σ = [some (.ref p), some (sV v), some (.ref q1), some (.ref d), z] ∧ Same H H' ∧ H' q1 = some (.lst (sL (pcs ws))) ∧ H' d = some (.dK (dkv (wo ((pcs ws).take i) v) fun k => .ref (g k))) ∧ ∀ k ∈ wo ((pcs ws).take i) v, H' (g k) = some (.lst (sL (gone bgn ws k))) ∧ g k ≠ d)
      ⟨none, fun _ => d, rfl, s1.trans (same_upd nd), by rw [upd_ne nqd]; exact e1, upd_same, fun k hk => (by cases hk)⟩ (fun i σ H' _ h => ?_) (fun i x σ H' hx h => ?_) (fun σ H' h => ?_)
    · obtain ⟨_, _, _, _, hq, _⟩ := h
      exact SqL.of hq
    · obtain ⟨z, g, rfl, hs, hq, hd, hg⟩ := h
      obtain ⟨y, hy, rfl⟩ := sL_at hx
      have hyp := List.mem_of_getElem? hy
      refine ⟨_, rfl, _, rfl, rfl, _, rfl, ?_⟩
      have et := take_snoc hy
      by_cases e : y = v
      · refine iteFe (by show (!decide (sV y = sV v)) = false; rw [dec_sV, decide_eq_true e]; rfl) ?_
        refine ⟨_, g, rfl, hs, hq, ?_, fun k hk => ?_⟩
        · rw [et, wo_snoc, if_neg (by simpa using e), List.append_nil]; exact hd
        · rw [et, wo_snoc, if_neg (by simpa using e), List.append_nil] at hk; exact hg k hk
      · refine iteTe (by show (!decide (sV y = sV v)) = true; rw [dec_sV, decide_eq_false e]; rfl) ?_
        refine ⟨_, rfl, _, rfl, p, t, ws, L, y, rfl, W.same hs, fun q2 H2 s2 n2 e2 => ?_⟩
        have hd2 := s2 _ _ hd
        have hq2d : q2 ≠ d := (ne_of_none hd n2).symm
        refine ⟨_, rfl, _, rfl, d, _, rfl, dput_w hd2 (by have := List.length_filter_le (fun z => decide (z ≠ v)) ((pcs ws).take i); unfold wo; rw [List.length_take] at this; omega), ?_⟩
        have hyn : y ∉ wo ((pcs ws).take i) v := fun hm => by
          have hm := (mem_wo.mp hm).1
          have nd2 := pcs_nd ws
          obtain ⟨j, hj, ej⟩ := List.getElem_of_mem hm
          rw [List.length_take] at hj
          have e3 : (pcs ws)[j]? = some y := by rw [List.getElem_take] at ej; rw [List.getElem?_eq_getElem (by omega), ej]
          have := nd_ix nd2 e3 hy
          omega
        have ek : kadd (wo ((pcs ws).take i) v) y = wo ((pcs ws).take (i + 1)) v := by
          unfold kadd; rw [if_neg hyn, et, wo_snoc, if_pos e]
        rw [ek, fup_ref]
        refine ⟨_, fup g y q2, rfl, same_chg (hs.trans s2) nd0, by rw [upd_ne nqd]; exact s2 _ _ hq, upd_same, fun k hk => ?_⟩
        by_cases eky : k = y
        · subst eky
          rw [fup_same, upd_ne hq2d]
          exact ⟨e2, hq2d⟩
        · rw [fup_ne _ _ eky]
          have hk' : k ∈ wo ((pcs ws).take i) v := by
            rw [et, wo_snoc, if_pos e] at hk
            rcases List.mem_append.mp hk with hk | hk
            · exact hk
            · exact absurd (List.mem_singleton.mp hk) eky
          have := hg k hk'
          rw [upd_ne this.2]
          exact ⟨s2 _ _ this.1, this.2⟩
    · obtain ⟨z, g, rfl, hs, hq, hd, hg⟩ := h
      rw [sL_len, List.take_length] at hd hg
      exact ⟨_, rfl, q d H' g hs nd0 hd fun k hk => (hg k hk).1⟩
theorem deg4 {ws : List Wd} {L : Nat} (W : WebOk ws L) {r k : Wd} (hr : r ∈ pcs ws) (hk : k ∈ pcs ws) (e : k ≠ r) : outd bgn ws k ≤ 4 := by
  rcases W.small with h | h
  · exfalso
    match h2 : pcs ws, h, hr, hk with
    | [], _, hr, _ => cases hr
    | [x], _, hr, hk => exact e ((List.mem_singleton.mp hk).trans (List.mem_singleton.mp hr).symm)
  · exact h k
def spTrees (CW : Addr) : Sp := fun vs H Q _ => ∃ (p t : Addr) (ws : List Wd) (L : Nat) (v : Wd), vs = [.ref p, sV v] ∧ WebAt CW H p ws L t ∧ v ∈ pcs ws ∧ ∀ H', Same H H' → Q (.int (D bgn enn ws (wo (pcs ws) v))) H'
theorem ok_tree_count (T : Txt K mg CW CD) : Df P w K mg base 4 "tree_count" ["web", "piece"] (spTrees CW) := by
  refine df_of T.d_tree_count sc_tree_count bd_tree_count (fun vs H Q E h => ?_) (fun f cdv A outer s H vs Q E hr h => ?_)
  · obtain ⟨p, t, ws, L, v, rfl, _⟩ := h
    rfl
  · obtain ⟨p, t, ws, L, v, rfl, W, hv, q⟩ := h
    have hpc := W.ok.pc
    refine ⟨_, (pss_one (ps_ret (pe_fn (ok_choices_counted T) hr (pa_cons (pe_fn (ok_ways_toward T) hr (pa_cons (pv 0) (pa_cons (pv 1) pa_nil))) pa_nil)))), ?_⟩
    refine ⟨_, rfl, _, rfl, p, t, ws, L, v, rfl, W, hv, fun d H1 g s1 n1 e1 hg => ?_⟩
    have hwl := wo_length (pcs_nd ws) hv
    refine ⟨d, wo (pcs ws) v, ws, g, rfl, e1, wo_nodup (pcs_nd ws), by omega, hg, W.ok.few, fun x hx => w1000 W.ok hx, fun k hk => deg4 W.ok hv (mem_wo.mp hk).1 (mem_wo.mp hk).2, fun H2 s2 => ?_⟩
    rw [srt_self ((pcs_asc ws).wo v)]
    exact q H2 (s1.trans s2)
/-! ### products, words without one -/
def spProd : Sp := fun vs H Q _ => ∃ z : Int, vs = [.int z] ∧ -100 ≤ z ∧ z ≤ 20 ∧ Q (.int (fac z.toNat : Nat)) H
theorem ok_product_to (T : Txt K mg CW CD) : Df P w K mg base 1 "product_to" ["many"] spProd := by
  refine df_of T.d_product_to sc_product_to bd_product_to (fun vs H Q E h => ?_) (fun f cdv A outer s H vs Q E hr h => ?_)
  · obtain ⟨z, rfl, _⟩ := h
    rfl
  · obtain ⟨z, rfl, h1, h2, q⟩ := h
    refine ⟨_, (pss_cons (ps_set (i := 1) sc_product_to.nd rfl (Or.inl rfl) pe_int)
    (pss_cons (ps_for PassesOwn.never rfl (pi_range1 (by rfl) T.n_range (pa_cons (pv 0) pa_nil)) (pg_name (i := 2) sc_product_to.nd rfl (Or.inl rfl))
    (pss_one (ps_set (i := 1) sc_product_to.nd rfl (Or.inl rfl) (pe_op op_mul (pv 1) (pe_op op_add (pv 2) pe_int)))))
    (pss_one (ps_ret (pv 1))))), ?_⟩
    refine ⟨_, rfl, z, rfl, by omega, by omega, ?_⟩
    refine for_range (lo := 0) (n := z.toNat) (fun k σ H' => ∃ y, σ = [some (.int z), some (.int (fac k : Nat)), y] ∧ H' = H) ⟨none, rfl, rfl⟩ (fun k σ H' hk h => ?_) (fun σ H' h => ?_)
    · obtain ⟨y, rfl, rfl⟩ := h
      refine ⟨_, rfl, _, rfl, _, _, rfl, rfl, _, _, rfl, rfl, .inr (by omega), some (V.int ((0 : Int) + k)), ?_, rfl⟩
      have e : ((fac k : Nat) : Int) * ((0 : Int) + k + 1) = ((fac (k + 1) : Nat) : Int) := by
        show _ = (((k + 1) * fac k : Nat) : Int)
        rw [Int.natCast_mul, Int.mul_comm]
        congr 1; omega
      show [some (V.int z), some (V.int (((fac k : Nat) : Int) * ((0 : Int) + k + 1))), some (V.int ((0 : Int) + k))] = _
      rw [e]
    · obtain ⟨y, rfl, rfl⟩ := h
      exact ⟨_, rfl, q⟩
def spWithout (K : PySem.W.Frag) : Sp := fun vs H Q _ => ∃ (a : Addr) (S : List Wd) (x : Wd), vs = [.ref a, sV x] ∧ SqL K H a (sL S) ∧ S.length ≤ 1000 ∧ ∀ q H', Same H H' → H q = none → H' q = some (.lst (sL (wo S x))) → Q (.ref q) H'
theorem ok_without (T : Txt K mg CW CD) : Df P w K mg base 1 "without" ["words", "word"] (spWithout K) := by
  refine df_of T.d_without sc_without bd_without (fun vs H Q E h => ?_) (fun f cdv A outer s H vs Q E hr h => ?_)
  · obtain ⟨a, S, x, rfl, _⟩ := h
    rfl
  · obtain ⟨a, S, x, rfl, ha, hl, q⟩ := h
    refine ⟨_, (pss_one (ps_ret (pe_lc (own := [("other", 2)]) (g := gName 2) rfl sc_without.nd (pi_list (pv 0)) (blkOk_by (own := [("other", 2)]) (N := ["words", "word", "other"]) (sc := defScope s_without) (by decide +kernel)) (fun _ _ _ _ _ => pg_name (i := 2) sc_without.nd rfl (Or.inl rfl)) (fun _ _ _ _ _ => (pts_one (pt_cmpR op_ne (pv 2) (pv 1) (nomark _)))) (fun _ _ _ _ _ => (pv 2))))), ?_⟩
    refine ⟨_, rfl, a, rfl, ⟨_, ha⟩, fun D nD => ?_⟩
    refine lc_list (K := K) (a := a) (xs := sL S) (fun i H' => Same H H' ∧ H' D = some (.lst (sL (wo (S.take i) x)))) ⟨same_upd nD, upd_same⟩ (fun i H' _ h => h.1.seq ha) (fun i y H' hx ⟨hs, hD⟩ => ?_) (fun H' ⟨hs, hD⟩ => ?_)
    · obtain ⟨y, hy, rfl⟩ := sL_at hx
      refine ⟨rfl, _, rfl, _, rfl, rfl, _, rfl, ?_⟩
      rw [take_snoc hy, wo_snoc]
      by_cases e : y = x
      · refine iteFe (by show (!decide (sV y = sV x)) = false; rw [dec_sV, decide_eq_true e]; rfl) ⟨hs, ?_⟩
        rw [if_neg (by simpa using e), List.append_nil]; exact hD
      · refine iteTe (by show (!decide (sV y = sV x)) = true; rw [dec_sV, decide_eq_false e]; rfl) ⟨_, rfl, _, hD, ?_, same_chg hs nD, ?_⟩
        · rw [sL_len]
          refine small1000 (Nat.le_trans (List.length_filter_le ..) ?_)
          rw [List.length_take]; omega
        · rw [upd_same, if_pos e, sL_app]; rfl
    · rw [sL_len, List.take_length] at hD
      exact q D H' hs nD hD
end
end Tw
namespace Tw
open PySem PySem.Spec PyProof.Rows L2 MT MW
section
variable {P : Program} {w : World} {K : PySem.W.Frag} {mg : Str → Option Value} {base : Heap} {CW CD : Addr}
open MD
/-! ### words by their begins -/
/-- a dict of words by their begins -/
structure ByAt (H0 H : Hp) (d : Addr) (ks : List Wd) (g : Wd → Addr) (S : List Wd) : Prop where
  hd : H d = some (.dK (dkv ks fun k => .ref (g k)))
  nd : ks.Nodup
  mem : ∀ k, k ∈ ks ↔ ∃ x ∈ S, bgn x = k
  inj : ∀ k ∈ ks, ∀ j ∈ ks, g k = g j → k = j
  nod : ∀ k ∈ ks, g k ≠ d
  fresh : ∀ k ∈ ks, H0 (g k) = none
  cont : ∀ k ∈ ks, H (g k) = some (.lst (sL (gone bgn S k)))
theorem by_len {H0 H : Hp} {d : Addr} {ks : List Wd} {g : Wd → Addr} {S : List Wd} (B : ByAt H0 H d ks g S) : ks.length ≤ S.length := by
  have h := nd_len_le (l := ks) (k := srt (S.map bgn)) B.nd (srt_nd _) fun k hk => by
    obtain ⟨x, hx, e⟩ := (B.mem k).mp hk
    exact mem_srt.mpr (List.mem_map.mpr ⟨x, hx, e⟩)
  have h2 : ∀ l : List Wd, (srt l).length ≤ l.length := fun l => by
    induction l with
    | nil => exact Nat.le_refl _
    | cons x l ih =>
      have : ∀ k : List Wd, (ins x k).length ≤ k.length + 1 := fun k => by
        induction k with
        | nil => exact Nat.le_refl _
        | cons y k ih =>
          unfold ins
          split
          · exact Nat.le_refl _
          · split
            · exact Nat.le_succ _
            · rw [List.length_cons, List.length_cons]; omega
      have := this (srt l)
      show (ins x (srt l)).length ≤ l.length + 1
      omega
  have := h2 (S.map bgn)
  rw [List.length_map] at this
  omega
def spBy (K : PySem.W.Frag) : Sp := fun vs H Q _ => ∃ (a : Addr) (S : List Wd), vs = [.ref a] ∧ SqL K H a (sL S) ∧ S.length ≤ 100 ∧ (∀ x ∈ S, x.length ≤ 1000) ∧
  ∀ d H' ks g, Same H H' → H d = none → ByAt H H' d ks g S → Q (.ref d) H'
theorem ok_by_begins (T : Txt K mg CW CD) : Df P w K mg base 2 "by_begins" ["words"] (spBy K) := by
  refine df_of T.d_by_begins sc_by_begins bd_by_begins (fun vs H Q E h => ?_) (fun f cdv A outer s H vs Q E hr h => ?_)
  · obtain ⟨a, S, rfl, _⟩ := h
    rfl
  · obtain ⟨a, S, rfl, ha, hl, hw, q⟩ := h
    have hu := hu_of hr
    refine ⟨_, (pss_cons (ps_set (i := 1) sc_by_begins.nd rfl (Or.inl rfl) pe_dnewK)
    (pss_cons (ps_for PassesOwn.never rfl (pi_list (pv 0)) (pg_name (i := 2) sc_by_begins.nd rfl (Or.inl rfl))
    (pss_one (ps_expr (pe_bm PySem.F.plainAttrs_list PySem.F.slot_list_append PySem.F.type_list_append mt_append (pe_dsetd (pv 1) (pe_fn (ok_begin_of T) hr (pa_cons (pv 2) pa_nil)) (pe_lst pa_nil) ⟨by rfl, by rfl, by rfl, by rfl⟩) (pa_cons (pv 2) pa_nil)))))
    (pss_one (ps_ret (pv 1))))), ?_⟩
    intro d nd
    refine ⟨_, rfl, a, rfl, ⟨_, (same_upd nd).seq ha⟩, ?_⟩
    refine for_list (K := K) (a := a) (xs := sL S) (fun i σ H' => ∃ z ks g, σ = [some (.ref a), some (.ref d), z] ∧ Same H H' ∧ ByAt H H' d ks g (S.take i))
      ⟨none, [], fun _ => d, rfl, same_upd nd, ⟨upd_same, List.nodup_nil, fun k => by simp, fun k hk => (by cases hk), fun k hk => (by cases hk), fun k hk => (by cases hk), fun k hk => (by cases hk)⟩⟩ (fun i σ H' _ h => ?_) (fun i x σ H' hx h => ?_) (fun σ H' h => ?_)
    · obtain ⟨_, _, _, _, hs, _⟩ := h
      exact hs.seq ha
    · obtain ⟨z, ks, g, rfl, hs, B⟩ := h
      obtain ⟨y, hy, rfl⟩ := sL_at hx
      have hyl := hw y (List.mem_of_getElem? hy)
      have et := take_snoc hy
      have hkl := by_len B
      rw [List.length_take] at hkl
      refine ⟨_, rfl, d, rfl, .inl ⟨_, .of B.hd⟩, _, rfl, y, rfl, hyl, (by show 0 ≤ sizeLine; decide), fun l nl => ?_⟩
      have nl0 : H l = none := hs.free nl
      have nld : l ≠ d := (ne_of_none B.hd nl).symm
      have hd1 : (upd H' l (.lst [])) d = some (.dK (dkv ks fun k => .ref (g k))) := by rw [upd_ne nld.symm]; exact B.hd
      have gone_snoc : ∀ k, gone bgn (S.take (i + 1)) k = gone bgn (S.take i) k ++ (if bgn y = k then [y] else []) := fun k => by
        rw [et]; unfold gone; rw [filter_snoc]
        by_cases e : bgn y = k
        · rw [if_pos (by simpa using e), if_pos e]
        · rw [if_neg (by simpa using e), if_neg e]
      refine ⟨_, Sum.inr (stS (bgn y)), hd1, rfl, by rw [dkv_len]; exact small1000 (by omega), fun v hv => ?_, fun hv => ?_⟩
      · -- the begin is there
        rw [dkv_val] at hv
        by_cases hk : bgn y ∈ ks
        · rw [if_pos hk] at hv
          have ev : v = .ref (g (bgn y)) := (Option.some.inj hv).symm
          subst ev
          have hgl : g (bgn y) ≠ l := ne_of_none (B.cont _ hk) nl
          have hc : (upd H' l (.lst [])) (g (bgn y)) = some (.lst (sL (gone bgn (S.take i) (bgn y)))) := by rw [upd_ne hgl]; exact B.cont _ hk
          refine ⟨.inl ⟨rfl, _, SqL.of hc⟩, _, rfl, g (bgn y), _, _, rfl, rfl, hc, ?_, ?_⟩
          · rw [sL_len]
            refine small1000 (Nat.le_trans (List.length_filter_le ..) ?_)
            rw [List.length_take]; omega
          · refine ⟨_, ks, g, rfl, same_chg (same_chg hs nl0) (B.fresh _ hk), ⟨by rw [upd_ne (B.nod _ hk).symm]; exact hd1, B.nd, fun k => ?_, B.inj, B.nod, B.fresh, fun k hk2 => ?_⟩⟩
            · rw [B.mem]
              constructor
              · rintro ⟨x, hx, e⟩
                exact ⟨x, (mem_take_succ hy x).mpr (.inl hx), e⟩
              · rintro ⟨x, hx, e⟩
                rcases (mem_take_succ hy x).mp hx with hx | rfl
                · exact ⟨x, hx, e⟩
                · rw [← e]; exact (B.mem _).mp hk
            · rw [gone_snoc]
              by_cases e : k = bgn y
              · subst e
                rw [upd_same, if_pos rfl, sL_app]; rfl
              · have hgk : g k ≠ g (bgn y) := fun h => e (B.inj k hk2 _ hk h)
                rw [upd_ne hgk, upd_ne (ne_of_none (B.cont k hk2) nl), if_neg fun h => e h.symm, List.append_nil]
                exact B.cont k hk2
        · rw [if_neg hk] at hv; cases hv
      · -- it is new
        rw [dkv_val] at hv
        have hk : bgn y ∉ ks := fun hk => by rw [if_pos hk] at hv; cases hv
        rw [dkv_put, fup_ref]
        have hl2 : (upd (upd H' l (.lst [])) d (.dK (dkv (kadd ks (bgn y)) fun j => .ref (fup g (bgn y) l j)))) l = some (.lst []) := by rw [upd_ne nld, upd_same]
        have g0 : gone bgn (S.take i) (bgn y) = [] := List.filter_eq_nil_iff.mpr fun x hx => by
          simp only [decide_eq_true_eq]
          exact fun e => hk ((B.mem _).mpr ⟨x, hx, e⟩)
        have fl : ∀ k ∈ ks, k ≠ bgn y := fun k hk2 e => hk (e ▸ hk2)
        refine ⟨.inl ⟨rfl, _, SqL.of hl2⟩, _, rfl, l, _, _, rfl, rfl, hl2, (by show 0 < sizeLine; decide), ?_⟩
        refine ⟨_, kadd ks (bgn y), fup g (bgn y) l, rfl, same_chg (same_chg (same_chg hs nl0) nd) nl0, ⟨by rw [upd_ne nld.symm, upd_same], kadd_nd B.nd, fun k => ?_, fun k hk1 j hj1 e => ?_, fun k hk1 => ?_, fun k hk1 => ?_, fun k hk1 => ?_⟩⟩
        · rw [mem_kadd, B.mem]
          constructor
          · rintro (⟨x, hx, e⟩ | e)
            · exact ⟨x, (mem_take_succ hy x).mpr (.inl hx), e⟩
            · exact ⟨y, (mem_take_succ hy y).mpr (.inr rfl), e.symm⟩
          · rintro ⟨x, hx, e⟩
            rcases (mem_take_succ hy x).mp hx with hx | rfl
            · exact .inl ⟨x, hx, e⟩
            · exact .inr e.symm
        · have gne : ∀ k ∈ ks, g k ≠ l := fun k hk2 => ne_of_none (B.cont k hk2) nl
          rcases mem_kadd.mp hk1 with hk1 | rfl
          · rcases mem_kadd.mp hj1 with hj1 | rfl
            · rw [fup_ne _ _ (fl k hk1), fup_ne _ _ (fl j hj1)] at e; exact B.inj k hk1 j hj1 e
            · rw [fup_ne _ _ (fl k hk1), fup_same] at e; exact absurd e (gne k hk1)
          · rcases mem_kadd.mp hj1 with hj1 | rfl
            · rw [fup_ne _ _ (fl j hj1), fup_same] at e; exact absurd e.symm (gne j hj1)
            · rfl
        · rcases mem_kadd.mp hk1 with hk1 | rfl
          · rw [fup_ne _ _ (fl k hk1)]; exact B.nod k hk1
          · rw [fup_same]; exact nld
        · rcases mem_kadd.mp hk1 with hk1 | rfl
          · rw [fup_ne _ _ (fl k hk1)]; exact B.fresh k hk1
          · rw [fup_same]; exact nl0
        · rw [gone_snoc]
          rcases mem_kadd.mp hk1 with hk1 | rfl
          · have hgl : g k ≠ l := ne_of_none (B.cont k hk1) nl
            rw [fup_ne _ _ (fl k hk1), upd_ne hgl, upd_ne (B.nod k hk1), upd_ne hgl, if_neg fun h => fl k hk1 h.symm, List.append_nil]
            exact B.cont k hk1
          · rw [fup_same, upd_same, g0, if_pos rfl]; rfl
    · obtain ⟨z, ks, g, rfl, hs, B⟩ := h
      rw [sL_len, List.take_length] at B
      exact ⟨_, rfl, q d H' ks g hs nd B⟩
end
end Tw
namespace Tw
open PySem PySem.Spec PyProof.Rows L2 MT MW
section
variable {P : Program} {w : World} {K : PySem.W.Frag} {mg : Str → Option Value} {base : Heap} {CW CD : Addr}
open MD
theorem lc_vals {d D : Addr} {o : Obj} {kvs : List (Key × V)} {g : TG} {tt : TT} {te : TE} {vs : List Nat} {σ : L2.St} {H1 : Hp} {Qd : Hp → Prop} (Pv : Nat → Hp → Prop) (h0 : Pv 0 (upd H1 D (.lst []))) (hl : ∀ i H, Pv i H → H d = some (.frz o (.dK kvs)))
    (hs : ∀ i k x H, kvs[i]? = some (k, x) → Pv i H → g x (wipe σ vs) H fun σ2 H2 => wipe σ2 vs = wipe σ vs ∧ tt σ2 H2 fun b H3 =>
      if b = true then te σ2 H3 fun y H4 => ∃ acc, H4 D = some (.lst acc) ∧ acc.length < sizeLine ∧ Pv (i + 1) (upd H4 D (.lst (acc ++ [y]))) else Pv (i + 1) H3) (hd : ∀ H, Pv kvs.length H → Qd H) :
    ∃ W : Nat → Nat → Hp → Prop, (∃ m, W 0 m (upd H1 D (.lst []))) ∧ ∀ i m H, W i m H →
      ((Itd d o kvs).stop i H ∧ Qd H) ∨ ((Itd d o kvs).go i H ∧ ∃ Nx : Hp → Prop, (∀ H', Nx H' → ∃ m', m' < m ∧ W (i + 1) m' H') ∧ ∀ x H', (Itd d o kvs).yld i H x H' → g x (wipe σ vs) H' fun σ2 H2 => wipe σ2 vs = wipe σ vs ∧ tt σ2 H2 fun b H3 =>
        if b = true then te σ2 H3 fun y H4 => ∃ acc, H4 D = some (.lst acc) ∧ acc.length < sizeLine ∧ Nx (upd H4 D (.lst (acc ++ [y]))) else Nx H3) := by
  refine ⟨fun i m H => m = kvs.length - i ∧ i ≤ kvs.length ∧ Pv i H, ⟨_, rfl, Nat.zero_le _, h0⟩, ?_⟩
  rintro i m H ⟨rfl, hi, p⟩
  by_cases hlt : i < kvs.length
  · refine .inr ⟨⟨hl i H p, hlt⟩, Pv (i + 1), fun H' p' => ⟨_, Nat.sub_lt_sub_left hlt (Nat.lt_succ_self i), rfl, hlt, p'⟩, fun x H' hy => ?_⟩
    obtain ⟨rfl, k, hk⟩ := hy
    exact hs i k x _ hk p
  · have e : i = kvs.length := by omega
    subst e
    exact .inl ⟨⟨hl _ H p, Nat.le_refl _⟩, hd H p⟩
theorem lc_keys {d D : Addr} {o : Obj} {kvs : List (Key × V)} {g : TG} {tt : TT} {te : TE} {vs : List Nat} {σ : L2.St} {H1 : Hp} {Qd : Hp → Prop} (Pv : Nat → Hp → Prop) (h0 : Pv 0 (upd H1 D (.lst []))) (hl : ∀ i H, Pv i H → H d = some (.frz o (.dK kvs)))
    (hs : ∀ i k x H, kvs[i]? = some (k, x) → Pv i H → g (kV k) (wipe σ vs) H fun σ2 H2 => wipe σ2 vs = wipe σ vs ∧ tt σ2 H2 fun b H3 =>
      if b = true then te σ2 H3 fun y H4 => ∃ acc, H4 D = some (.lst acc) ∧ acc.length < sizeLine ∧ Pv (i + 1) (upd H4 D (.lst (acc ++ [y]))) else Pv (i + 1) H3) (hd : ∀ H, Pv kvs.length H → Qd H) :
    ∃ W : Nat → Nat → Hp → Prop, (∃ m, W 0 m (upd H1 D (.lst []))) ∧ ∀ i m H, W i m H →
      ((Itk d o kvs).stop i H ∧ Qd H) ∨ ((Itk d o kvs).go i H ∧ ∃ Nx : Hp → Prop, (∀ H', Nx H' → ∃ m', m' < m ∧ W (i + 1) m' H') ∧ ∀ x H', (Itk d o kvs).yld i H x H' → g x (wipe σ vs) H' fun σ2 H2 => wipe σ2 vs = wipe σ vs ∧ tt σ2 H2 fun b H3 =>
        if b = true then te σ2 H3 fun y H4 => ∃ acc, H4 D = some (.lst acc) ∧ acc.length < sizeLine ∧ Nx (upd H4 D (.lst (acc ++ [y]))) else Nx H3) := by
  refine ⟨fun i m H => m = kvs.length - i ∧ i ≤ kvs.length ∧ Pv i H, ⟨_, rfl, Nat.zero_le _, h0⟩, ?_⟩
  rintro i m H ⟨rfl, hi, p⟩
  by_cases hlt : i < kvs.length
  · refine .inr ⟨⟨hl i H p, hlt⟩, Pv (i + 1), fun H' p' => ⟨_, Nat.sub_lt_sub_left hlt (Nat.lt_succ_self i), rfl, hlt, p'⟩, fun x H' hy => ?_⟩
    obtain ⟨rfl, k, v, hk, rfl⟩ := hy
    exact hs i k v _ hk p
  · have e : i = kvs.length := by omega
    subst e
    exact .inl ⟨⟨hl _ H p, Nat.le_refl _⟩, hd H p⟩
theorem for_keys {d : Addr} {o : Obj} {kvs : List (Key × V)} {g : TG} {tb : TS} {D : Ends} {σ : L2.St} {H : Hp} (Pv : Nat → L2.St → Hp → Prop) (h0 : Pv 0 σ H) (hl : ∀ i σ H, Pv i σ H → H d = some (.frz o (.dK kvs)))
    (hs : ∀ i k x σ H, kvs[i]? = some (k, x) → Pv i σ H → g (kV k) σ H fun σ2 H2 => tb { D with nx := Pv (i + 1), ct := Pv (i + 1), bk := D.nx } σ2 H2) (hd : ∀ σ H, Pv kvs.length σ H → D.nx σ H) :
    ∃ W : Nat → Nat → L2.St → Hp → Prop, (∃ m, W 0 m σ H) ∧ ∀ i m σ H, W i m σ H →
      ((Itk d o kvs).stop i H ∧ D.nx σ H) ∨ ((Itk d o kvs).go i H ∧ ∃ N : L2.St → Hp → Prop, (∀ σ' H', N σ' H' → ∃ m', m' < m ∧ W (i + 1) m' σ' H') ∧ ∀ x H', (Itk d o kvs).yld i H x H' → g x σ H' fun σ2 H2 => tb { D with nx := N, ct := N, bk := D.nx } σ2 H2) := by
  refine ⟨fun i m σ H => m = kvs.length - i ∧ i ≤ kvs.length ∧ Pv i σ H, ⟨_, rfl, Nat.zero_le _, h0⟩, ?_⟩
  rintro i m σ H ⟨rfl, hi, p⟩
  by_cases hlt : i < kvs.length
  · refine .inr ⟨⟨hl i σ H p, hlt⟩, Pv (i + 1), fun σ' H' p' => ⟨_, Nat.sub_lt_sub_left hlt (Nat.lt_succ_self i), rfl, hlt, p'⟩, fun x H' hy => ?_⟩
    obtain ⟨rfl, k, v, hk, rfl⟩ := hy
    exact hs i k v σ _ hk p
  · have e : i = kvs.length := by omega
    subst e
    exact .inl ⟨⟨hl _ σ H p, Nat.le_refl _⟩, hd σ H p⟩

/-! ### whether words begin and end alike often -/
theorem fup_int (f : Wd → Int) (k : Wd) (z : Int) : fup (fun j => V.int (f j)) k (.int z) = fun j => V.int (fup f k z j) := by
  funext j
  unfold fup
  by_cases e : j = k
  · rw [if_pos e, if_pos e]
  · rw [if_neg e, if_neg e]
/-- a dict of numbers: nought for what is not there -/
structure NumAt (H : Hp) (d : Addr) (ks : List Wd) (f : Wd → Int) : Prop where
  hd : H d = some (.dK (dkv ks fun k => .int (f k)))
  nd : ks.Nodup
  no : ∀ k, k ∉ ks → f k = 0
theorem NumAt.get {H : Hp} {d : Addr} {ks : List Wd} {f : Wd → Int} (N : NumAt H d ks f) (k : Wd) : ∃ o, DGet H d (sV k) o ∧ o.getD (.int 0) = .int (f k) := by
  refine ⟨_, dget_w N.hd, ?_⟩
  by_cases h : k ∈ ks
  · rw [if_pos h]; rfl
  · rw [if_neg h, N.no k h]; rfl
theorem NumAt.put {H : Hp} {d : Addr} {ks : List Wd} {f : Wd → Int} (N : NumAt H d ks f) (k : Wd) (z : Int) : NumAt (upd H d (.dK (dkv (kadd ks k) (fup (fun j => .int (f j)) k (.int z))))) d (kadd ks k) (fup f k z) := by
  refine ⟨by rw [upd_same, fup_int], kadd_nd N.nd, fun j hj => ?_⟩
  have h1 : j ∉ ks ∧ j ≠ k := ⟨fun h => hj (mem_kadd.mpr (.inl h)), fun h => hj (mem_kadd.mpr (.inr h))⟩
  rw [fup_ne _ _ h1.2]; exact N.no j h1.1
/-- the balance of some words, with one word more from r to u -/
def bl (S : List Wd) (u r v : Wd) : Int := (if v = r then 1 else 0) - (if v = u then 1 else 0) + (outd bgn S v : Int) - (ind enn S v : Int)
theorem bl_bal {S : List Wd} {u r : Wd} : (∀ v, bl S u r v = 0) ↔ bal bgn enn S u r := by
  refine forall_congr' fun v => ?_
  unfold bl
  by_cases h1 : v = r
  · rw [if_pos h1, if_pos h1]
    by_cases h2 : v = u
    · rw [if_pos h2, if_pos h2]; omega
    · rw [if_neg h2, if_neg h2]; omega
  · rw [if_neg h1, if_neg h1]
    by_cases h2 : v = u
    · rw [if_pos h2, if_pos h2]; omega
    · rw [if_neg h2, if_neg h2]; omega
theorem bl_snoc (S : List Wd) (x u r v : Wd) : bl (S ++ [x]) u r v = bl S u r v + (if v = bgn x then 1 else 0) - (if v = enn x then 1 else 0) := by
  unfold bl outd ind
  rw [List.countP_append, List.countP_append, List.countP_singleton, List.countP_singleton]
  by_cases h1 : v = bgn x
  · by_cases h2 : v = enn x
    · simp [h1.symm, h2.symm]; omega
    · have h2' : ¬ enn x = v := fun e => h2 e.symm
      simp [h1.symm, h2, h2']; omega
  · have h1' : ¬ bgn x = v := fun e => h1 e.symm
    by_cases h2 : v = enn x
    · simp [h1, h1', h2.symm]; omega
    · have h2' : ¬ enn x = v := fun e => h2 e.symm
      simp [h1, h1', h2, h2']
def spEven (K : PySem.W.Frag) : Sp := fun vs H Q _ => ∃ (a : Addr) (S : List Wd) (u r : Wd), vs = [.ref a, sV u, sV r] ∧ SqL K H a (sL S) ∧ S.length ≤ 100 ∧ (∀ x ∈ S, x.length ≤ 1000) ∧
  ∀ (H' : Hp) (c : Bool), Same H H' → (c = true ↔ bal bgn enn S u r) → Q (.bl c) H'
theorem ok_is_even (T : Txt K mg CW CD) : Df P w K mg base 2 "is_even" ["words", "one", "other"] (spEven K) := by
  refine df_of T.d_is_even sc_is_even bd_is_even (fun vs H Q E h => ?_) (fun f cdv A outer s H vs Q E hr h => ?_)
  · obtain ⟨a, S, u, r, rfl, _⟩ := h
    rfl
  · obtain ⟨a, S, u, r, rfl, ha, hl, hw, q⟩ := h
    have hu := hu_of hr
    refine ⟨_, (pss_cons (ps_set (i := 3) sc_is_even.nd rfl (Or.inl rfl) pe_dnewK)
    (pss_cons (ps_dput hu (pv 3) (pv 1) (pe_op op_sub (pe_dget2 hu (pv 3) (pv 1) pe_int ⟨by rfl, by rfl, by rfl, by rfl⟩) pe_int) rfl)
    (pss_cons (ps_dput hu (pv 3) (pv 2) (pe_op op_add (pe_dget2 hu (pv 3) (pv 2) pe_int ⟨by rfl, by rfl, by rfl, by rfl⟩) pe_int) rfl)
    (pss_cons (ps_for PassesOwn.never rfl (pi_list (pv 0)) (pg_name (i := 4) sc_is_even.nd rfl (Or.inl rfl))
    (pss_cons (ps_dput hu (pv 3) (pe_fn (ok_begin_of T) hr (pa_cons (pv 4) pa_nil)) (pe_op op_add (pe_dget2 hu (pv 3) (pe_fn (ok_begin_of T) hr (pa_cons (pv 4) pa_nil)) pe_int ⟨by rfl, by rfl, by rfl, by rfl⟩) pe_int) rfl)
    (pss_one (ps_dput hu (pv 3) (pe_fn (ok_end_of T) hr (pa_cons (pv 4) pa_nil)) (pe_op op_sub (pe_dget2 hu (pv 3) (pe_fn (ok_end_of T) hr (pa_cons (pv 4) pa_nil)) pe_int ⟨by rfl, by rfl, by rfl, by rfl⟩) pe_int) rfl))))
    (pss_one (ps_ret (pe_callB (cr_all rfl) (by rfl) T.n_all (by decide +kernel) (pa_cons (pe_lock (pe_lc (own := [("many", 5)]) (g := gName 5) rfl sc_is_even.nd (pi_values (pv 3)) (blkOk_by (own := [("many", 5)]) (N := ["words", "one", "other", "left", "word", "many"]) (sc := defScope s_is_even) (by decide +kernel)) (fun _ _ _ _ _ => pg_name (i := 5) sc_is_even.nd rfl (Or.inl rfl)) (fun _ _ _ _ _ => pts_nil) (fun _ _ _ _ _ => (pe_cmpR op_eq (pv 5) pe_int (nomark _))))) pa_nil)))))))), ?_⟩
    intro d nd
    have N0 : NumAt (upd H d (.dK [])) d [] (fun _ => 0) := ⟨upd_same, List.nodup_nil, fun _ _ => rfl⟩
    -- left[one] = left.get(one, 0) - 1
    obtain ⟨o1, g1, e1⟩ := N0.get u
    refine ⟨_, rfl, d, rfl, .inl ⟨_, .of N0.hd⟩, _, rfl, o1, g1, 0, 1, e1, rfl, _, rfl, _, rfl, d, _, rfl, dput_w N0.hd (by show 0 ≤ 1000; decide), ?_⟩
    have N1 := N0.put u (0 - 1)
    obtain ⟨o2, g2, e2⟩ := N1.get r
    refine ⟨_, rfl, d, rfl, .inl ⟨_, .of N1.hd⟩, _, rfl, o2, g2, _, 1, e2, rfl, _, rfl, _, rfl, d, _, rfl, dput_w N1.hd (Nat.le_trans kadd_len (by show 1 ≤ 1000; decide)), ?_⟩
    have N2 := N1.put r (fup (fun _ => (0 : Int)) u (0 - 1) r + 1)
    have f2 : ∀ v, fup (fup (fun _ => (0 : Int)) u (0 - 1)) r (fup (fun _ => (0 : Int)) u (0 - 1) r + 1) v = bl [] u r v := fun v => by
      unfold bl fup outd ind
      by_cases h1 : v = r
      · rw [if_pos h1, if_pos h1, ← h1]; simp
        split <;> omega
      · rw [if_neg h1, if_neg h1]; simp
        split <;> omega
    have sm : ∀ o, Same H (upd (upd H d (.dK [])) d o) := fun o => same_chg (same_upd nd) nd
    refine ⟨_, rfl, a, rfl, ⟨_, (same_chg (sm _) nd).seq ha⟩, ?_⟩
    refine for_list (K := K) (a := a) (xs := sL S) (fun i σ H' => ∃ z ks fv, σ = [some (.ref a), some (sV u), some (sV r), some (.ref d), z, none] ∧ Same H H' ∧ NumAt H' d ks fv ∧ ks.length ≤ 2 + 2 * i ∧ ∀ v, fv v = bl (S.take i) u r v)
      ⟨none, _, _, rfl, same_chg (sm _) nd, N2, Nat.le_trans kadd_len (Nat.succ_le_succ kadd_len), f2⟩ (fun i σ H' _ h => ?_) (fun i x σ H' hx h => ?_) (fun σ H' h => ?_)
    · obtain ⟨_, _, _, _, hs, _⟩ := h
      exact hs.seq ha
    · obtain ⟨z, ks, fv, rfl, hs, N, hk, hf⟩ := h
      obtain ⟨y, hy, rfl⟩ := sL_at hx
      have hyl := hw y (List.mem_of_getElem? hy)
      have hi : i < S.length := by
        by_cases g : i < S.length
        · exact g
        · rw [List.getElem?_eq_none (by omega)] at hy; cases hy
      obtain ⟨o3, g3, e3⟩ := N.get (bgn y)
      refine ⟨_, rfl, d, rfl, .inl ⟨_, .of N.hd⟩, _, rfl, y, rfl, hyl, o3, g3, _, 1, e3, rfl, _, rfl, _, rfl, y, rfl, hyl, d, _, rfl, dput_w N.hd (by omega), ?_⟩
      have N3 := N.put (bgn y) (fv (bgn y) + 1)
      obtain ⟨o4, g4, e4⟩ := N3.get (enn y)
      refine ⟨_, rfl, d, rfl, .inl ⟨_, .of N3.hd⟩, _, rfl, y, rfl, hyl, o4, g4, _, 1, e4, rfl, _, rfl, _, rfl, y, rfl, hyl, d, _, rfl, dput_w N3.hd (Nat.le_trans kadd_len (by omega)), ?_⟩
      have N4 := N3.put (enn y) (fup fv (bgn y) (fv (bgn y) + 1) (enn y) - 1)
      refine ⟨_, _, _, rfl, same_chg (same_chg hs nd) nd, N4, ?_, fun v => ?_⟩
      · have h1 := kadd_len (ks := ks) (k := bgn y)
        have h2 := kadd_len (ks := kadd ks (bgn y)) (k := enn y)
        omega
      · rw [take_snoc hy, bl_snoc, ← hf]
        unfold fup
        by_cases h1 : v = enn y
        · rw [if_pos h1, if_pos h1, ← h1]
          by_cases h2 : v = bgn y
          · rw [if_pos h2, if_pos h2, ← h2]
          · rw [if_neg h2, if_neg h2]; omega
        · rw [if_neg h1, if_neg h1]
          by_cases h2 : v = bgn y
          · rw [if_pos h2, if_pos h2, ← h2]; omega
          · rw [if_neg h2, if_neg h2]; omega
    · obtain ⟨z, ks, fv, rfl, hs, N, hk, hf⟩ := h
      rw [sL_len] at hk hf
      rw [List.take_length] at hf
      refine ⟨d, _, N.hd, True.intro, fun od => ?_⟩
      refine ⟨_, rfl, d, od, _, rfl, upd_same, fun D nD => ?_⟩
      have hne : D ≠ d := fun e => by rw [e, upd_same] at nD; cases nD
      have nD0 : H D = none := by
        rw [upd_ne hne] at nD
        exact hs.free nD
      refine lc_vals (fun i H2 => (∀ b o, H b = some o → b ≠ d → H2 b = some o) ∧ H2 d = some (.frz od (.dK (dkv ks fun k => .int (fv k)))) ∧ H2 D = some (.lst ((ks.take i).map fun k => V.bl (decide (fv k = 0)))))
        ⟨fun b o e hb => ?_, by rw [upd_ne hne.symm, upd_same], upd_same⟩ (fun i H2 h => h.2.1) (fun i k x H2 hx h => ?_) (fun H2 h => ?_)
      · rw [upd_ne (ne_of_none e nD0), upd_ne hb]; exact hs b o e
      · obtain ⟨h1, h2, h3⟩ := h
        obtain ⟨v, hv, rfl, rfl⟩ := dkv_at hx
        refine ⟨rfl, ?_⟩
        unfold tYes; dsimp only
        rw [if_pos rfl]
        refine ⟨_, rfl, rfl, _, h3, ?_, fun b o e hb => ?_, ?_, ?_⟩
        · rw [List.length_map, List.length_take]; exact small1000 (by omega)
        · rw [upd_ne (ne_of_none e nD0)]; exact h1 b o e hb
        · rw [upd_ne hne.symm]; exact h2
        · rw [upd_same, take_snoc hv, List.map_append]
          have : decide (V.int (fv v) = V.int 0) = decide (fv v = 0) := by
            by_cases e : fv v = 0
            · rw [e]; simp
            · rw [decide_eq_false e]; exact decide_eq_false fun z => e (by injection z)
          rw [this]; rfl
      · obtain ⟨h1, h2, h3⟩ := h
        rw [dkv_len, List.take_length] at h3
        refine ⟨h2, D, ks.map fun k => decide (fv k = 0), rfl, SqL.of (by rw [upd_ne hne, h3, List.map_map]; rfl), ?_⟩
        refine q _ _ (fun b o e => ?_) ?_
        · by_cases hb : b = d
          · exfalso; rw [hb, nd] at e; cases e
          · rw [upd_ne hb]; exact h1 b o e hb
        · rw [List.all_map, List.all_eq_true, ← bl_bal]
          constructor
          · intro h v
            rw [← hf]
            by_cases hv : v ∈ ks
            · exact of_decide_eq_true (h v hv)
            · exact N.no v hv
          · intro h v _
            show decide (fv v = 0) = true
            rw [hf v, h v]; rfl
end
end Tw
namespace Tw
open PySem PySem.Spec PyProof.Rows L2 MT MW
section
variable {P : Program} {w : World} {K : PySem.W.Frag} {mg : Str → Option Value} {base : Heap} {CW CD : Addr}
open MD
theorem lprod_sub {f : Wd → Int} : ∀ {ks V : List Wd}, ks.Nodup → V.Nodup → (∀ k ∈ ks, k ∈ V) → (∀ v ∈ V, v ∉ ks → f v = 1) → lprod V f = lprod ks f
  | [], V, _, _, _, h => lprod_one fun v hv => h v hv (by simp)
  | k :: ks, V, hk, hV, hs, h => by
    have hk' := List.nodup_cons.mp hk
    rw [lprod_wo hV (hs k (List.mem_cons_self ..))]
    show f k * _ = f k * lprod ks f
    rw [lprod_sub hk'.2 (wo_nodup hV) (fun j hj => mem_wo.mpr ⟨hs j (List.mem_cons_of_mem _ hj), fun e : j = k => hk'.1 (by rw [← e]; exact hj)⟩) fun v hv hn => ?_]
    have hv' := mem_wo.mp hv
    exact h v hv'.1 fun hm => by
      rcases List.mem_cons.mp hm with e | hm
      · exact hv'.2 e
      · exact hn hm
theorem lprod_snoc (l : List Wd) (x : Wd) (f : Wd → Int) : lprod (l ++ [x]) f = lprod l f * f x := by
  induction l with
  | nil => show f x * 1 = 1 * f x; omega
  | cons y l ih => show f y * lprod (l ++ [x]) f = f y * lprod l f * f x; rw [ih, Int.mul_assoc]
theorem fac20 {k : Nat} (h : k ≤ 20) : ((fac k : Nat) : Int) < 2 ^ 64 := by
  have h1 : fac k ≤ fac 20 := fac_mono h
  have e : fac 20 = 2432902008176640000 := by decide
  have : (2 : Int) ^ 64 = 18446744073709551616 := by decide
  rw [this]
  omega
theorem sub_few {ws S : List Wd} {L : Nat} (W : WebOk ws L) (hs : S.Sublist ws) : S.length ≤ 16 := Nat.le_trans hs.length_le W.few
/-- the determinant is small -/
theorem det_small {ws S : List Wd} {L : Nat} (W : WebOk ws L) (hs : S.Sublist ws) {r : Wd} (hr : r ∈ pcs ws) {vs : List Wd} (hn : vs.Nodup) (hv : ∀ v ∈ vs, v ∈ pcs ws ∧ v ≠ r) : vs.length ≤ 7 ∧ (D bgn enn S vs).natAbs ≤ 82575360 := by
  have hpc := W.pc
  have h1 := nd_len_le (l := vs) (k := wo (pcs ws) r) hn (wo_nodup (pcs_nd ws)) fun v h => mem_wo.mpr (hv v h)
  have h2 := wo_length (pcs_nd ws) hr
  refine ⟨by omega, ?_⟩
  refine Nat.le_trans (det_abs (M := 4) fun i j hi hj => ?_) (fac7 (by omega))
  have hm : vs.getD i default ∈ vs := List.mem_of_getElem? (at_ov hi)
  exact Nat.le_trans (lap_abs S _ _) (Nat.le_trans (outd_sub hs _) (deg4 W hr (hv _ hm).1 (hv _ hm).2))
def spWays (K : PySem.W.Frag) : Sp := fun vs H Q _ => ∃ (a : Addr) (ws S : List Wd) (L : Nat) (u r : Wd), vs = [.ref a, sV u, sV r] ∧ SqL K H a (sL S) ∧ WebOk ws L ∧ S.Sublist ws ∧ u ∈ pcs ws ∧ r ∈ pcs ws ∧
  ∀ (H' : Hp) (z : Int), Same H H' → z = N bgn enn (pcs ws) S u r → Q (.int z) H'
theorem ok_ways_on (T : Txt K mg CW CD) : Df P w K mg base 4 "ways_on" ["words", "one", "other"] (spWays K) := by
  refine df_of T.d_ways_on sc_ways_on bd_ways_on (fun vs H Q E h => ?_) (fun f cdv A outer s H vs Q E hr h => ?_)
  · obtain ⟨a, ws, S, L, u, r, rfl, _⟩ := h
    rfl
  · obtain ⟨a, ws, S, L, u, r, rfl, ha, W, hs0, hu0, hr0, q⟩ := h
    have hu := hu_of hr
    have h16 := sub_few W hs0
    have hw : ∀ x ∈ S, x.length ≤ 1000 := fun x hx => w1000 W (hs0.subset hx)
    refine ⟨_, (pss_cons (ps_if (pt_cmpR op_eq (pe_callB call_len_seq (by rfl) T.n_len PySem.boot_len (pa_cons (pv 0) pa_nil)) pe_int (nomark _))
    (pss_one (ps_ret (pe_callTy call_int1 (by rfl) T.n_int (by decide +kernel) (pa_cons (pe_cmpR op_eq (pv 1) (pv 2) (nomark _)) pa_nil))))
    pss_nil)
    (pss_cons (ps_if (pt_not (pt_val (pe_fn (ok_is_even T) hr (pa_cons (pv 0) (pa_cons (pv 1) (pa_cons (pv 2) pa_nil))))))
    (pss_one (ps_ret pe_int))
    pss_nil)
    (pss_cons (ps_set (i := 3) sc_ways_on.nd rfl (Or.inl rfl) (pe_fn (ok_by_begins T) hr (pa_cons (pv 0) pa_nil)))
    (pss_cons (ps_set (i := 4) sc_ways_on.nd rfl (Or.inl rfl) pe_int)
    (pss_cons (ps_lock (ps_for PassesOwn.never rfl (pi_keys (pv 3)) (pg_name (i := 5) sc_ways_on.nd rfl (Or.inl rfl))
    (pss_one (ps_set (i := 4) sc_ways_on.nd rfl (Or.inl rfl) (pe_op op_mul (pv 4) (pe_fn (ok_product_to T) hr (pa_cons (pe_op op_sub (pe_callB call_len_seq (by rfl) T.n_len PySem.boot_len (pa_cons (pe_dget hu (pv 3) (pv 5) (fun _ _ => rfl)) pa_nil)) (pe_callTy call_int1 (by rfl) T.n_int (by decide +kernel) (pa_cons (pe_cmpR op_ne (pv 5) (pv 2) (nomark _)) pa_nil))) pa_nil)))))))
    (pss_cons (ps_expr (pe_dpop2 (pv 3) (pv 2) pe_non ⟨by rfl, by rfl, by rfl, by rfl⟩))
    (pss_one (ps_ret (pe_op op_mul (pv 4) (pe_fn (ok_choices_counted T) hr (pa_cons (pv 3) pa_nil))))))))))), ?_⟩
    refine ⟨_, rfl, a, _, rfl, .inl ha, rfl, _, rfl, ?_⟩
    refine ite2 (fun e => ?_) (fun e => ?_)
    · -- no words
      have e := of_decide_eq_true e
      injection e with e
      have e0 : S = [] := List.length_eq_zero_iff.mp (by rw [sL_len] at e; omega)
      subst e0
      refine ⟨_, rfl, _, rfl, rfl, .inr ⟨_, rfl, ?_⟩⟩
      rw [dec_sV]
      refine q H _ (Same.refl H) ?_
      rw [N_nil]
      by_cases g : u = r
      · rw [if_pos g, decide_eq_true g]; rfl
      · rw [if_neg g, decide_eq_false g]; rfl
    · have hne : S ≠ [] := fun e0 => e (by subst e0; exact decide_eq_true rfl)
      refine ⟨_, rfl, _, rfl, _, rfl, a, S, u, r, rfl, ha, by omega, hw, fun H1 c s1 hc => ⟨c, rfl, ?_⟩⟩
      cases c with
      | false =>
        refine iteTe rfl ?_
        have : ¬ bal bgn enn S u r := fun h => by have := hc.mpr h; cases this
        exact q H1 0 s1 (by unfold N; rw [if_neg this])
      | true =>
        refine iteFe rfl ?_
        have hbal : bal bgn enn S u r := hc.mp rfl
        refine ⟨_, rfl, a, S, rfl, s1.seq ha, by omega, hw, fun d H2 ks g s2 n2 B => ?_⟩
        have hkl := by_len B
        -- the product
        refine ⟨d, _, B.hd, True.intro, fun od => ?_⟩
        have ksV : ∀ k ∈ ks, k ∈ pcs ws := fun k hk => by
          obtain ⟨x, hx, e⟩ := (B.mem k).mp hk
          rw [← e]; exact bgn_pcs (hs0.subset hx)
        refine ⟨_, rfl, d, od, rfl, .inl ⟨_, upd_same, ?_⟩⟩
        refine for_keys (fun i σ H3 => ∃ z, σ = [some (.ref a), some (sV u), some (sV r), some (.ref d), some (.int (lprod (ks.take i) (fc bgn S r))), z] ∧ H3 = upd H2 d (.frz od (.dK (dkv ks fun k => .ref (g k)))))
          ⟨none, rfl, rfl⟩ (fun i σ H3 h => by obtain ⟨_, _, rfl⟩ := h; exact upd_same) (fun i k x σ H3 hx h => ?_) (fun σ H3 h => ?_)
        · obtain ⟨z, rfl, rfl⟩ := h
          obtain ⟨v, hv, rfl, rfl⟩ := dkv_at hx
          have hvm := List.mem_of_getElem? hv
          have hgd := B.nod v hvm
          have hcont : (upd H2 d (.frz od (.dK (dkv ks fun k => .ref (g k))))) (g v) = some (.lst (sL (gone bgn S v))) := by rw [upd_ne hgd]; exact B.cont v hvm
          have hout : 0 < outd bgn S v := outd_pos.mpr ((B.mem v).mp hvm)
          have hol : outd bgn S v ≤ 16 := Nat.le_trans List.countP_le_length h16
          refine ⟨_, rfl, _, rfl, _, rfl, d, _, rfl, dget_in (.inr ⟨od, upd_same⟩) hvm, g v, _, rfl, .inl (SqL.of hcont), ?_⟩
          have hl : (sL (gone bgn S v)).length = outd bgn S v := by rw [sL_len]; exact filter_len
          rw [hl]
          refine ⟨_, rfl, _, rfl, rfl, .inr ⟨_, rfl, _, _, rfl, rfl, _, rfl, ?_⟩⟩
          have ez : (outd bgn S v : Int) - (if (!decide (kV (Sum.inr (stS v)) = sV r)) = true then 1 else 0) = ((outd bgn S v - (if v = r then 0 else 1) : Nat) : Int) := by
            have e1 : decide (kV (Sum.inr (stS v)) = sV r) = decide (v = r) := dec_sV v r
            rw [e1]
            by_cases e : v = r
            · rw [decide_eq_true e, if_pos e]; simp
            · rw [decide_eq_false e, if_neg e]; simp; omega
          rw [ez]
          refine ⟨by omega, by omega, ?_⟩
          rw [Int.toNat_natCast]
          have hf := fac20 (k := outd bgn S v - (if v = r then 0 else 1)) (by omega)
          refine ⟨_, _, rfl, rfl, .inr ⟨by omega, hf⟩, some (sV v), ?_, rfl⟩
          rw [take_snoc hv, lprod_snoc]; rfl
        · obtain ⟨z, rfl, rfl⟩ := h
          rw [dkv_len, List.take_length]
          refine ⟨upd_same, ?_⟩
          rw [upd_upd]
          have nd0 : H d = none := s1.free n2
          have hs3 : Same H (upd H2 d (.dK (dkv ks fun k => .ref (g k)))) := same_chg (s1.trans s2) nd0
          -- ways.pop(other, None)
          have tail : ∀ H4, Same H H4 → H4 d = some (.dK (dkv (wo ks r) fun k => .ref (g k))) → (∀ k ∈ ks, H4 (g k) = some (.lst (sL (gone bgn S k)))) →
              ∃ v, [some (V.ref a), some (sV u), some (sV r), some (V.ref d), some (V.int (lprod ks (fc bgn S r))), z][4]? = some (some v) ∧ ∃ v2, [some (V.ref a), some (sV u), some (sV r), some (V.ref d), some (V.int (lprod ks (fc bgn S r))), z][3]? = some (some v2) ∧
                spChoices [v2] H4 (fun y H5 => ∃ i j, v = .int i ∧ y = .int j ∧ CMul i j ∧ Q (.int (i * j)) H5) E0 := by
            intro H4 s4 hd4 hg4
            refine ⟨_, rfl, _, rfl, ?_⟩
            have hwn := wo_nodup (x := r) B.nd
            have hwm : ∀ v ∈ wo ks r, v ∈ pcs ws ∧ v ≠ r := fun v hv => ⟨ksV v (mem_wo.mp hv).1, (mem_wo.mp hv).2⟩
            have sm := det_small W hs0 hr0 hwn hwm
            have eact : srt (wo ks r) = act bgn S r (pcs ws) := srt_eq (act_asc ws S r) fun v => by
              unfold act
              rw [List.mem_filter, decide_eq_true_iff, mem_wo, B.mem]
              constructor
              · rintro ⟨_, h1, h2⟩
                exact ⟨outd_pos.mp h2, h1⟩
              · rintro ⟨⟨x, hx, e⟩, h1⟩
                exact ⟨by rw [← e]; exact bgn_pcs (hs0.subset hx), h1, outd_pos.mpr ⟨x, hx, e⟩⟩
            have sm2 := det_small W hs0 hr0 (srt_nd (wo ks r)) fun v hv => hwm v (mem_srt.mp hv)
            refine ⟨d, wo ks r, S, g, rfl, hd4, hwn, sm.1, fun k hk => hg4 k (mem_wo.mp hk).1, h16, hw, fun k hk => Nat.le_trans (outd_sub hs0 k) (deg4 W hr0 (hwm k hk).1 (hwm k hk).2), fun H5 s5 => ?_⟩
            refine ⟨_, _, rfl, rfl, .inr (by have := sm2.2; omega), ?_⟩
            refine q H5 _ (s4.trans s5) ?_
            unfold N
            rw [if_pos hbal, eact, lprod_sub B.nd (pcs_nd ws) ksV fun v _ hv => ?_]
            have : outd bgn S v = 0 := by
              refine Nat.eq_zero_of_not_pos fun h => hv ((B.mem v).mpr (outd_pos.mp h))
            unfold fc; rw [this, Nat.zero_sub]; rfl
          refine ⟨_, rfl, d, rfl, .inl ⟨_, .of upd_same⟩, _, rfl, _, Sum.inr (stS r), upd_same, rfl, fun v hv => ?_, fun hv => ?_⟩
          · rw [upd_upd, dkv_drop]
            exact tail _ (same_chg (s1.trans s2) nd0) upd_same fun k hk => by rw [upd_ne (B.nod k hk)]; exact B.cont k hk
          · rw [dkv_val] at hv
            have hrk : r ∉ ks := fun h => by rw [if_pos h] at hv; cases hv
            refine tail _ hs3 ?_ fun k hk => by rw [upd_ne (B.nod k hk)]; exact B.cont k hk
            rw [upd_same, wo_notin hrk]
end
end Tw
namespace Tw
open PySem PySem.Spec PyProof.Rows L2 MT MW
section
variable {P : Program} {w : World} {K : PySem.W.Frag} {mg : Str → Option Value} {base : Heap} {CW CD : Addr}
open MD
/-- how many rings: by the first word's end -/
noncomputable def cntR (ws : List Wd) : Int := N bgn enn (pcs ws) ws.tail (enn (ws.headD [])) (bgn (ws.headD []))
theorem wo_head {x : Wd} {r : List Wd} (h : (x :: r).Nodup) : wo (x :: r) x = r := wo_cons_self (List.nodup_cons.mp h).1
theorem piece_out {ws : List Wd} (ok : RingOk ws) {v : Wd} (hv : v ∈ pcs ws) : 0 < outd bgn ws v := by
  rcases mem_pcs.mp hv with ⟨x, hx, e⟩ | ⟨x, hx, e⟩
  · exact outd_pos.mpr ⟨x, hx, e⟩
  · rw [ok.1 v]; exact ind_pos.mpr ⟨x, hx, e⟩
theorem bal_self {ws : List Wd} (ok : RingOk ws) (h : Wd) : bal bgn enn ws h h := fun v => by rw [ok.1 v]
theorem cnt_eq {x : Wd} {r : List Wd} (hn : (x :: r).Nodup) (ok : RingOk (x :: r)) :
    lprod (pcs (x :: r)) (fun v => ((fac (outd bgn (x :: r) v - 1) : Nat) : Int)) * D bgn enn (x :: r) (wo (pcs (x :: r)) (bgn x)) = cntR (x :: r) := by
  have hx : x ∈ x :: r := List.mem_cons_self ..
  have hw := wo_head hn
  have hb : bal bgn enn r (enn x) (bgn x) := by
    have := (bal_wo (bg := bgn) (en := enn) hn hx (bgn x)).mpr (bal_self ok _)
    rw [hw] at this; exact this
  have out : ∀ v, outd bgn (x :: r) v = outd bgn r v + (if bgn x = v then 1 else 0) := fun v => by
    have := outd_wo (bg := bgn) hn hx v
    rw [hw] at this; exact this
  have eact : act bgn r (bgn x) (pcs (x :: r)) = wo (pcs (x :: r)) (bgn x) := by
    unfold act wo
    refine List.filter_congr fun v hv => ?_
    by_cases e : v = bgn x
    · simp [e]
    · have h1 := piece_out ok hv
      have h2 := out v
      rw [if_neg fun z => e z.symm] at h2
      have h3 : 0 < outd bgn r v := by omega
      simp [e, h3]
  unfold cntR
  show _ = N bgn enn (pcs (x :: r)) r (enn x) (bgn x)
  unfold N
  rw [if_pos hb, eact]
  congr 1
  · refine lprod_congr fun v _ => ?_
    unfold fc
    have h2 := out v
    by_cases e : v = bgn x
    · rw [if_pos e.symm] at h2
      rw [if_pos e, h2, Nat.sub_zero, Nat.add_sub_cancel]
    · rw [if_neg fun z => e z.symm] at h2
      rw [if_neg e, h2, Nat.add_zero]
  · refine D_congr fun v hv w => ?_
    have hne := (mem_wo.mp hv).2
    have := lap_wo (bg := bgn) (en := enn) hn hx v w
    rw [hw, if_neg fun z => hne z.symm] at this
    omega
theorem cnt_pos {ws : List Wd} {L : Nat} (W : WebOk ws L) (ok : RingOk ws) : 1 ≤ cntR ws := by
  match ws, W, ok with
  | x :: r, W, ok =>
    have hx : x ∈ x :: r := List.mem_cons_self ..
    obtain ⟨l, t⟩ := euler W.nd hx ok.1 ok.2
    rw [wo_head W.nd] at t
    exact N_pos (W.gd (List.sublist_cons_self x r)) (enn_pcs hx) t
  | [], W, _ => exact absurd rfl W.ne
def spCount (CW : Addr) : Sp := fun vs H Q _ => ∃ (p t : Addr) (ws : List Wd) (L : Nat), vs = [.ref p] ∧ WebAt CW H p ws L t ∧ RingOk ws ∧ ∀ (H' : Hp) (z : Int), Same H H' → z = cntR ws → Q (.int z) H'
theorem ok_ring_count (T : Txt K mg CW CD) : Df P w K mg base 6 "ring_count" ["web"] (spCount CW) := by
  refine df_of T.d_ring_count sc_ring_count bd_ring_count (fun vs H Q E h => ?_) (fun f cdv A outer s H vs Q E hr h => ?_)
  · obtain ⟨p, t, ws, L, rfl, _⟩ := h
    rfl
  · obtain ⟨p, t, ws, L, rfl, W, ok, q⟩ := h
    refine ⟨_, (pss_cons (ps_if (pt_cmpR op_notN (pe_fn (ok_why_no_ring T) hr (pa_cons (pv 0) pa_nil)) pe_non (nomark _))
    (pss_one (ps_ret pe_int))
    pss_nil)
    (pss_cons (ps_set (i := 1) sc_ring_count.nd rfl (Or.inl rfl) (pe_fn (ok_tree_count T) hr (pa_cons (pv 0) (pa_cons (pe_fn (ok_begin_of T) hr (pa_cons (pe_ix ix_tup (pe_fld (pv 0) rfl) pe_int (fun _ _ => rfl)) pa_nil)) pa_nil))))
    (pss_cons (ps_for PassesOwn.never rfl (pi_list (pe_fn (ok_pieces T) hr (pa_cons (pv 0) pa_nil))) (pg_name (i := 2) sc_ring_count.nd rfl (Or.inl rfl))
    (pss_one (ps_set (i := 1) sc_ring_count.nd rfl (Or.inl rfl) (pe_op op_mul (pv 1) (pe_fn (ok_product_to T) hr (pa_cons (pe_op op_sub (pe_callB call_len_seq (by rfl) T.n_len PySem.boot_len (pa_cons (pe_fn (ok_outs T) hr (pa_cons (pv 0) (pa_cons (pv 2) pa_nil))) pa_nil)) pe_int) pa_nil))))))
    (pss_one (ps_ret (pv 1)))))), ?_⟩
    refine ⟨_, rfl, p, t, ws, L, rfl, W, fun _ H1 s1 => ?_, fun h => absurd ok h⟩
    refine ⟨rfl, _, rfl, iteFe rfl ?_⟩
    have W1 := W.same s1
    obtain ⟨dx, hob⟩ := W1.ob
    obtain ⟨x, r, rfl⟩ : ∃ x r, ws = x :: r := by
      match ws, W.ok.ne with
      | x :: r, _ => exact ⟨x, r, rfl⟩
    have hx : x ∈ x :: r := List.mem_cons_self ..
    refine ⟨_, rfl, _, rfl, p, CW, dx, _, _, rfl, hob, T.cWeb, T.aWeb_words, webF_words _ _, t, sL (x :: r), 0, sV x, rfl, rfl, SqT.of W1.tp, at_of (j := 0) rfl rfl, x, rfl, w1000 W.ok hx, p, t, x :: r, L, bgn x, rfl, W1, bgn_pcs hx, fun H2 s2 => ?_⟩
    refine ⟨_, rfl, p, t, x :: r, L, rfl, W1.same s2, fun q3 H3 s3 n3 e3 => ⟨q3, rfl, ⟨_, SqL.of e3⟩, ?_⟩⟩
    refine for_list (K := K) (a := q3) (xs := sL (pcs (x :: r))) (fun i σ H4 => ∃ z, σ = [some (.ref p), some (.int (D bgn enn (x :: r) (wo (pcs (x :: r)) (bgn x)) * lprod ((pcs (x :: r)).take i) (fun v => ((fac (outd bgn (x :: r) v - 1) : Nat) : Int)))), z] ∧ Same H3 H4)
      ⟨none, by rw [show lprod ((pcs (x :: r)).take 0) (fun v => ((fac (outd bgn (x :: r) v - 1) : Nat) : Int)) = 1 from rfl, Int.mul_one]; rfl, Same.refl _⟩ (fun i σ H' _ h => ?_) (fun i y σ H4 hy h => ?_) (fun σ H4 h => ?_)
    · obtain ⟨_, _, hs⟩ := h
      exact SqL.of (hs _ _ e3)
    · obtain ⟨z, rfl, hs⟩ := h
      obtain ⟨v, hv, rfl⟩ := sL_at hy
      have hvp := List.mem_of_getElem? hv
      have ho := piece_out ok hvp
      have hol : outd bgn (x :: r) v ≤ 16 := Nat.le_trans List.countP_le_length W.ok.few
      refine ⟨_, rfl, _, rfl, _, rfl, p, t, x :: r, L, v, rfl, W1.same ((s2.trans s3).trans hs), fun q5 H5 s5 n5 e5 => ?_⟩
      have hl : (sL (gone bgn (x :: r) v)).length = outd bgn (x :: r) v := by rw [sL_len]; exact filter_len
      refine ⟨q5, _, rfl, .inl (SqL.of e5), ?_⟩
      rw [hl]
      refine ⟨_, _, rfl, rfl, _, rfl, by omega, by omega, ?_⟩
      have ez : ((outd bgn (x :: r) v : Int) - 1).toNat = outd bgn (x :: r) v - 1 := by omega
      rw [ez]
      have hf := fac20 (k := outd bgn (x :: r) v - 1) (by omega)
      refine ⟨_, _, rfl, rfl, .inr ⟨by omega, hf⟩, some (sV v), ?_, hs.trans s5⟩
      rw [take_snoc hv, lprod_snoc, ← Int.mul_assoc]; rfl
    · obtain ⟨z, rfl, hs⟩ := h
      rw [sL_len, List.take_length]
      refine ⟨_, rfl, ?_⟩
      refine q H4 _ (((s1.trans s2).trans s3).trans hs) ?_
      rw [← cnt_eq W.ok.nd ok, Int.mul_comm]

/-! ### the order of a number -/
def spOrderBy (K : PySem.W.Frag) : Sp := fun vs H Q _ => ∃ (a : Addr) (ws S : List Wd) (L : Nat) (u r : Wd) (n : Int), vs = [.ref a, sV u, sV r, .int n] ∧ (SqL K H a (sL S) ∨ SqT K H a (sL S)) ∧ WebOk ws L ∧ S.Sublist ws ∧ u ∈ pcs ws ∧ r ∈ pcs ws ∧ 0 ≤ n ∧ n < N bgn enn (pcs ws) S u r ∧
  ∀ q H', Same H H' → H q = none → H' q = some (.lst (sL (ob bgn enn (pcs ws) r S.length S u n))) → Q (.ref q) H'
theorem scan_some {ws S : List Wd} {L : Nat} (W : WebOk ws L) (hs : S.Sublist ws) {u r : Wd} (hu : u ∈ pcs ws) {n : Int} (h0 : 0 ≤ n) (h1 : n < N bgn enn (pcs ws) S u r) (hne : S ≠ []) :
    ∃ y m, MW.scan (fun x => N bgn enn (pcs ws) (wo S x) (enn x) r) (S.filter fun x => decide (bgn x = u)) n = some (y, m) ∧ y ∈ S ∧ 0 ≤ m ∧ m < N bgn enn (pcs ws) (wo S y) (enn y) r := by
  have g := W.gd hs
  rw [N_step g.nv g.ns hne g.hb g.he u r hu] at h1
  obtain ⟨p, y, q, m, e1, e2, e3, e4, _⟩ := scan_ok (fun x hx => N_nn r (g.wo x) (g.he x (List.mem_filter.mp hx).1)) h0 h1
  refine ⟨y, m, e2, ?_, e3, e4⟩
  have : y ∈ S.filter fun x => decide (bgn x = u) := by rw [e1]; exact List.mem_append_right _ (List.mem_cons_self ..)
  exact (List.mem_filter.mp this).1
theorem ob_some {V : List Wd} {r u w : Wd} {m : Nat} {S : List Wd} {n n' : Int} (h : MW.scan (fun x => N bgn enn V (wo S x) (enn x) r) (S.filter fun x => decide (bgn x = u)) n = some (w, n')) : ob bgn enn V r (m + 1) S u n = w :: ob bgn enn V r m (wo S w) (enn w) n' := by
  rw [ob, h]
theorem ok_order_by (T : Txt K mg CW CD) : Df P w K mg base 5 "order_by" ["words", "here", "goal", "number"] (spOrderBy K) := by
  refine df_of T.d_order_by sc_order_by bd_order_by (fun vs H Q E h => ?_) (fun f cdv A outer s H vs Q E hr h => ?_)
  · obtain ⟨a, ws, S, L, u, r, n, rfl, _⟩ := h
    rfl
  · obtain ⟨a, ws, S, L, u, r, n, rfl, ha, W, hs0, hu0, hr0, h0, h1, q⟩ := h
    refine ⟨_, (pss_cons (ps_set (i := 4) sc_order_by.nd rfl (Or.inl rfl) (pe_callTy call_list_of (by rfl) T.n_list (by decide +kernel) (pa_cons (pv 0) pa_nil)))
    (pss_cons (ps_set (i := 5) sc_order_by.nd rfl (Or.inl rfl) (pe_lst pa_nil))
    (pss_cons (ps_while PassesOwn.never (pt_cmpR op_gt (pe_callB call_len_seq (by rfl) T.n_len PySem.boot_len (pa_cons (pv 4) pa_nil)) pe_int (nomark _))
    (pss_cons (ps_for PassesOwn.never rfl (pi_list (pv 4)) (pg_name (i := 6) sc_order_by.nd rfl (Or.inl rfl))
    (pss_one (ps_if (pt_cmpR op_eq (pe_fn (ok_begin_of T) hr (pa_cons (pv 6) pa_nil)) (pv 1) (nomark _))
    (pss_cons (ps_set (i := 7) sc_order_by.nd rfl (Or.inl rfl) (pe_fn (ok_ways_on T) hr (pa_cons (pe_fn (ok_without T) hr (pa_cons (pv 4) (pa_cons (pv 6) pa_nil))) (pa_cons (pe_fn (ok_end_of T) hr (pa_cons (pv 6) pa_nil)) (pa_cons (pv 2) pa_nil)))))
    (pss_cons (ps_if (pt_cmpR op_lt (pv 3) (pv 7) (nomark _))
    (pss_one ps_break)
    pss_nil)
    (pss_one (ps_set (i := 3) sc_order_by.nd rfl (Or.inl rfl) (pe_op op_sub (pv 3) (pv 7))))))
    pss_nil)))
    (pss_cons (ps_expr (pe_bm PySem.F.plainAttrs_list PySem.F.slot_list_append PySem.F.type_list_append mt_append (pv 5) (pa_cons (pv 6) pa_nil)))
    (pss_cons (ps_set (i := 4) sc_order_by.nd rfl (Or.inl rfl) (pe_fn (ok_without T) hr (pa_cons (pv 4) (pa_cons (pv 6) pa_nil))))
    (pss_one (ps_set (i := 1) sc_order_by.nd rfl (Or.inl rfl) (pe_fn (ok_end_of T) hr (pa_cons (pv 6) pa_nil))))))))
    (pss_one (ps_ret (pv 5)))))), ?_⟩
    refine ⟨_, rfl, a, _, rfl, ha, fun l0 nl0 => ⟨(by show 0 ≤ sizeLine; decide), fun f0 nf0 => ?_⟩⟩
    have sl : Same H (upd H l0 (.lst (sL S))) := same_upd nl0
    have nf00 : H f0 = none := sl.free nf0
    have nlf : l0 ≠ f0 := fun e => by rw [← e, upd_same] at nf0; cases nf0
    refine ⟨fun m σ H' => ∃ l S' F u' n' z6 z7, σ = [some (.ref a), some (sV u'), some (sV r), some (.int n'), some (.ref l), some (.ref f0), z6, z7] ∧ Same H H' ∧ H' l = some (.lst (sL S')) ∧ H' f0 = some (.lst (sL F)) ∧ S'.Sublist ws ∧ u' ∈ pcs ws ∧ 0 ≤ n' ∧
        n' < N bgn enn (pcs ws) S' u' r ∧ F ++ ob bgn enn (pcs ws) r S'.length S' u' n' = ob bgn enn (pcs ws) r S.length S u n ∧ F.length + S'.length = S.length ∧ l ≠ f0 ∧ m = S'.length,
      ⟨_, l0, S, [], u, n, none, none, rfl, same_chg sl nf00, by rw [upd_ne nlf, upd_same], upd_same, hs0, hu0, h0, h1, rfl, by simp, nlf, rfl⟩, ?_⟩
    rintro m σ H1 ⟨l, S', F, u', n', z6, z7, rfl, hs1, hl1, hf1, hsub, hu1, hn0, hn1, hob, hFl, hlf, rfl⟩
    have h16 := sub_few W hs0
    refine ⟨_, rfl, l, _, rfl, .inl (SqL.of hl1), _, _, rfl, rfl, _, rfl, ?_⟩
    rw [sL_len]
    by_cases hne : S' = []
    · subst hne
      refine iteFe (by rfl) ?_
      refine ⟨_, rfl, ?_⟩
      have e : ob bgn enn (pcs ws) r 0 [] u' n' = [] := rfl
      rw [show ([] : List Wd).length = 0 from rfl, e, List.append_nil] at hob
      exact q f0 H1 hs1 nf00 (by rw [← hob]; exact hf1)
    · have hpos : 0 < S'.length := List.length_pos_iff.mpr hne
      refine iteTe (decide_eq_true (by omega)) ?_
      obtain ⟨y, my, hscan, hyS, hmy0, hmy1⟩ := scan_some W hsub hu1 hn0 hn1 hne
      refine ⟨fun σ' H2 => ∃ m', m' < S'.length ∧ ∃ l S' F u' n' z6 z7, σ' = [some (.ref a), some (sV u'), some (sV r), some (.int n'), some (.ref l), some (.ref f0), z6, z7] ∧ Same H H2 ∧ H2 l = some (.lst (sL S')) ∧ H2 f0 = some (.lst (sL F)) ∧ S'.Sublist ws ∧ u' ∈ pcs ws ∧ 0 ≤ n' ∧
        n' < N bgn enn (pcs ws) S' u' r ∧ F ++ ob bgn enn (pcs ws) r S'.length S' u' n' = ob bgn enn (pcs ws) r S.length S u n ∧ F.length + S'.length = S.length ∧ l ≠ f0 ∧ m' = S'.length, fun σ' H2 h => h, ?_⟩
      refine ⟨_, rfl, l, rfl, ⟨_, SqL.of hl1⟩, ?_⟩
      refine for_list (K := K) (a := l) (xs := sL S') (fun i σ H2 => ∃ mi z6 z7, σ = [some (.ref a), some (sV u'), some (sV r), some (.int mi), some (.ref l), some (.ref f0), z6, z7] ∧ Same H1 H2 ∧
          MW.scan (fun x => N bgn enn (pcs ws) (wo S' x) (enn x) r) ((S'.drop i).filter fun x => decide (bgn x = u')) mi = some (y, my))
        ⟨n', z6, z7, rfl, Same.refl _, hscan⟩ (fun i σ H2 _ h => ?_) (fun i x σ H2 hx h => ?_) (fun σ H2 h => ?_)
      · obtain ⟨_, _, _, _, hs2, _⟩ := h
        exact SqL.of (hs2 _ _ hl1)
      · obtain ⟨mi, z6, z7, rfl, hs2, hsc⟩ := h
        obtain ⟨x, hx', rfl⟩ := sL_at hx
        have hxS := List.mem_of_getElem? hx'
        have hi : i < S'.length := by
          by_cases g : i < S'.length
          · exact g
          · rw [List.getElem?_eq_none (by omega)] at hx'; cases hx'
        have hdrop : S'.drop i = x :: S'.drop (i + 1) := by
          rw [List.drop_eq_getElem_cons hi]
          congr 1
          rw [List.getElem?_eq_getElem hi] at hx'
          exact Option.some.inj hx'
        rw [hdrop] at hsc
        have hxw := hsub.subset hxS
        refine ⟨_, rfl, x, rfl, w1000 W hxw, _, rfl, rfl, _, rfl, ?_⟩
        rw [dec_sV]
        by_cases e : bgn x = u'
        · rw [List.filter_cons_of_pos (by simpa using e)] at hsc
          refine iteTe (decide_eq_true e) ?_
          refine ⟨_, rfl, _, rfl, l, S', x, rfl, SqL.of (hs2 _ _ hl1), by have := sub_few W hsub; omega, fun q3 H3 s3 n3 e3 => ?_⟩
          refine ⟨_, rfl, x, rfl, w1000 W hxw, _, rfl, q3, ws, wo S' x, L, enn x, r, rfl, SqL.of e3, W, sub_wo hsub x, enn_pcs hxw, hr0, fun H4 z s4 ez => ?_⟩
          subst ez
          refine ⟨_, rfl, _, rfl, _, _, rfl, rfl, _, rfl, ?_⟩
          have hs4 : Same H1 H4 := (hs2.trans s3).trans s4
          unfold MW.scan at hsc
          by_cases hlt : mi < N bgn enn (pcs ws) (wo S' x) (enn x) r
          · rw [if_pos hlt] at hsc
            have hsc := Option.some.inj hsc
            injection hsc with ey em
            subst ey; subst em
            refine iteTe (decide_eq_true hlt) ?_
            -- break: found.append(word)
            have hf4 := hs4 _ _ hf1
            have hl4 := hs4 _ _ hl1
            refine ⟨_, rfl, .inl ⟨rfl, _, SqL.of hf4⟩, _, rfl, f0, _, _, rfl, rfl, hf4, by rw [sL_len]; exact small1000 (by omega), ?_⟩
            have s5 : Same H (upd H4 f0 (.lst (sL F ++ [sV x]))) := same_chg (hs1.trans hs4) nf00
            have hl5 : (upd H4 f0 (.lst (sL F ++ [sV x]))) l = some (.lst (sL S')) := by rw [upd_ne hlf]; exact hl4
            refine ⟨_, rfl, _, rfl, l, S', x, rfl, SqL.of hl5, by have := sub_few W hsub; omega, fun q6 H6 s6 n6 e6 => ?_⟩
            refine ⟨_, rfl, x, rfl, w1000 W hxw, ?_⟩
            have hf6 : H6 f0 = some (.lst (sL (F ++ [x]))) := by rw [s6 f0 _ upd_same, sL_app]; rfl
            have hwl := wo_length (W.nd.sublist hsub) hxS
            refine ⟨(wo S' x).length, by omega, q6, wo S' x, F ++ [x], enn x, mi, _, _, rfl, s5.trans s6, e6, hf6, sub_wo hsub x, enn_pcs hxw, hmy0, hmy1, ?_, ?_, fun e => ?_, rfl⟩
            · rw [← hob, List.append_assoc]
              congr 1
              have e1 : S'.length = (wo S' x).length + 1 := by omega
              rw [e1]
              rw [ob_some hscan]; rfl
            · rw [List.length_append]
              show F.length + 1 + (wo S' x).length = S.length
              omega
            · rw [e, upd_same] at n6; cases n6
          · rw [if_neg hlt] at hsc
            refine iteFe (decide_eq_false hlt) ?_
            exact ⟨_, rfl, _, rfl, _, _, rfl, rfl, _, _, _, rfl, hs4, hsc⟩
        · rw [List.filter_cons_of_neg (by simpa using e)] at hsc
          refine iteFe (decide_eq_false e) ⟨mi, _, z7, rfl, hs2, hsc⟩
      · obtain ⟨mi, z6, z7, rfl, hs2, hsc⟩ := h
        rw [sL_len, List.drop_length] at hsc
        cases hsc
end
end Tw
namespace Tw
open PySem PySem.Spec PyProof.Rows L2 MT MW
section
variable {P : Program} {w : World} {K : PySem.W.Frag} {mg : Str → Option Value} {base : Heap} {CW CD : Addr}
open MD
theorem cut_tail {ws : List Wd} : cutV (sL ws) (some 1) none = sL ws.tail := by
  unfold cutV
  rw [show HT.sIx (sL ws).length 0 (some 1) = min 1 (sL ws).length from HT.sIx_nat _ 0 1, HT.sIx_none]
  cases ws with
  | nil => rfl
  | cons x r =>
    rw [show min 1 (sL (x :: r)).length = 1 by rw [sL_len, List.length_cons]; omega]
    show List.take ((sL (x :: r)).length - 1) (sL r) = sL r
    rw [sL_len, List.length_cons, Nat.add_sub_cancel]
    exact List.take_of_length_le (by rw [sL_len]; exact Nat.le_refl _)
theorem not_whole {ws : List Wd} (h : ws ≠ []) : ¬ (HT.sIx (sL ws).length 0 (some 1) = 0 ∧ HT.sIx (sL ws).length (sL ws).length none = (sL ws).length) := fun e => by
  have e1 := e.1
  rw [show HT.sIx (sL ws).length 0 (some 1) = min 1 (sL ws).length from HT.sIx_nat _ 0 1, sL_len] at e1
  have := List.length_pos_iff.mpr h
  omega
/-! ### the number of an order -/
def spOrderNum (K : PySem.W.Frag) : Sp := fun vs H Q _ => ∃ (a b : Addr) (ws S o : List Wd) (L : Nat) (r : Wd), vs = [.ref a, .ref b, sV r] ∧ (SqL K H a (sL S) ∨ SqT K H a (sL S)) ∧ SqL K H b (sL o) ∧ WebOk ws L ∧ S.Sublist ws ∧ (∀ x ∈ o, x ∈ ws) ∧ r ∈ pcs ws ∧
  ∀ (H' : Hp) (z : Int), Same H H' → z = num bgn enn ltw (pcs ws) r o S → Q (.int z) H'
theorem ok_order_number (T : Txt K mg CW CD) : Df P w K mg base 5 "order_number" ["words", "order", "goal"] (spOrderNum K) := by
  refine df_of T.d_order_number sc_order_number bd_order_number (fun vs H Q E h => ?_) (fun f cdv A outer s H vs Q E hr h => ?_)
  · obtain ⟨a, b, ws, S, o, L, r, rfl, _⟩ := h
    rfl
  · obtain ⟨a, b, ws, S, o, L, r, rfl, ha, hb, W, hs0, ho, hr0, q⟩ := h
    refine ⟨_, (pss_cons (ps_set (i := 3) sc_order_number.nd rfl (Or.inl rfl) (pe_callTy call_list_of (by rfl) T.n_list (by decide +kernel) (pa_cons (pv 0) pa_nil)))
    (pss_cons (ps_set (i := 4) sc_order_number.nd rfl (Or.inl rfl) pe_int)
    (pss_cons (ps_for PassesOwn.never rfl (pi_list (pv 1)) (pg_name (i := 5) sc_order_number.nd rfl (Or.inl rfl))
    (pss_cons (ps_for PassesOwn.never rfl (pi_list (pv 3)) (pg_name (i := 6) sc_order_number.nd rfl (Or.inl rfl))
    (pss_one (ps_if (PW.pt (pw_and (pt_cmpR op_eq (pe_fn (ok_begin_of T) hr (pa_cons (pv 6) pa_nil)) (pe_fn (ok_begin_of T) hr (pa_cons (pv 5) pa_nil)) (nomark _)) (pw_and1 (pt_cmpR op_lt_str (pv 6) (pv 5) (nomark _)))))
    (pss_one (ps_set (i := 4) sc_order_number.nd rfl (Or.inl rfl) (pe_op op_add (pv 4) (pe_fn (ok_ways_on T) hr (pa_cons (pe_fn (ok_without T) hr (pa_cons (pv 3) (pa_cons (pv 6) pa_nil))) (pa_cons (pe_fn (ok_end_of T) hr (pa_cons (pv 6) pa_nil)) (pa_cons (pv 2) pa_nil)))))))
    pss_nil)))
    (pss_one (ps_set (i := 3) sc_order_number.nd rfl (Or.inl rfl) (pe_fn (ok_without T) hr (pa_cons (pv 3) (pa_cons (pv 5) pa_nil)))))))
    (pss_one (ps_ret (pv 4)))))), ?_⟩
    refine ⟨_, rfl, a, _, rfl, ha, fun l0 nl0 => ?_⟩
    have sl : Same H (upd H l0 (.lst (sL S))) := same_upd nl0
    refine ⟨_, rfl, b, rfl, ⟨_, sl.seq hb⟩, ?_⟩
    refine for_list (K := K) (a := b) (xs := sL o) (fun i σ H1 => ∃ n l S' z5 z6, σ = [some (.ref a), some (.ref b), some (sV r), some (.ref l), some (.int n), z5, z6] ∧ Same H H1 ∧ H1 l = some (.lst (sL S')) ∧ S'.Sublist ws ∧
        n + num bgn enn ltw (pcs ws) r (o.drop i) S' = num bgn enn ltw (pcs ws) r o S)
      ⟨0, l0, S, none, none, rfl, sl, upd_same, hs0, by rw [List.drop_zero, Int.zero_add]⟩ (fun i σ H1 _ h => ?_) (fun i x σ H1 hx h => ?_) (fun σ H1 h => ?_)
    · obtain ⟨_, _, _, _, _, _, hs, _⟩ := h
      exact hs.seq hb
    · obtain ⟨n, l, S', z5, z6, rfl, hs1, hl1, hsub, hn⟩ := h
      obtain ⟨m, hm, rfl⟩ := sL_at hx
      have hmw := ho m (List.mem_of_getElem? hm)
      have hi : i < o.length := by
        by_cases g : i < o.length
        · exact g
        · rw [List.getElem?_eq_none (by omega)] at hm; cases hm
      have hdrop : o.drop i = m :: o.drop (i + 1) := by
        rw [List.drop_eq_getElem_cons hi]
        congr 1
        rw [List.getElem?_eq_getElem hi] at hm
        exact Option.some.inj hm
      rw [hdrop] at hn
      refine ⟨_, rfl, l, rfl, ⟨_, SqL.of hl1⟩, ?_⟩
      refine for_list (K := K) (a := l) (xs := sL S') (fun j σ H2 => ∃ z6, σ = [some (.ref a), some (.ref b), some (sV r), some (.ref l), some (.int (n + lsum ((S'.take j).filter fun y => decide (bgn y = bgn m) && ltw y m) fun y => N bgn enn (pcs ws) (wo S' y) (enn y) r)), some (sV m), z6] ∧ Same H1 H2)
        ⟨z6, by rw [show lsum ((S'.take 0).filter fun y => decide (bgn y = bgn m) && ltw y m) (fun y => N bgn enn (pcs ws) (wo S' y) (enn y) r) = 0 from rfl, Int.add_zero]; rfl, Same.refl _⟩ (fun j σ H2 _ h => ?_) (fun j x σ H2 hx h => ?_) (fun σ H2 h => ?_)
      · obtain ⟨_, _, hs2⟩ := h
        exact SqL.of (hs2 _ _ hl1)
      · obtain ⟨z6, rfl, hs2⟩ := h
        obtain ⟨y, hy, rfl⟩ := sL_at hx
        have hyw := hsub.subset (List.mem_of_getElem? hy)
        have ft : (S'.take (j + 1)).filter (fun y => decide (bgn y = bgn m) && ltw y m) = (S'.take j).filter (fun y => decide (bgn y = bgn m) && ltw y m) ++ (if (decide (bgn y = bgn m) && ltw y m) = true then [y] else []) := by
          rw [take_snoc hy, filter_snoc]
        refine ⟨_, rfl, y, rfl, w1000 W hyw, _, rfl, m, rfl, w1000 W hmw, rfl, _, rfl, ?_⟩
        rw [dec_sV]
        by_cases e : bgn y = bgn m
        · refine iteTe (decide_eq_true e) ?_
          refine ⟨_, rfl, _, rfl, _, _, rfl, rfl, _, rfl, ?_⟩
          by_cases e2 : ltw y m = true
          · refine iteTe e2 ?_
            refine ⟨_, rfl, _, rfl, _, rfl, l, S', y, rfl, SqL.of (hs2 _ _ hl1), by have := sub_few W hsub; omega, fun q3 H3 s3 n3 e3 => ?_⟩
            refine ⟨_, rfl, y, rfl, w1000 W hyw, _, rfl, q3, ws, wo S' y, L, enn y, r, rfl, SqL.of e3, W, sub_wo hsub y, enn_pcs hyw, hr0, fun H4 z s4 ez => ?_⟩
            subst ez
            refine ⟨_, _, rfl, rfl, some (sV y), ?_, (hs2.trans s3).trans s4⟩
            rw [ft, if_pos (by rw [decide_eq_true e, e2]; rfl), lsum_app, ← Int.add_assoc]; rfl
          · have e2 : ltw y m = false := by simpa using e2
            refine iteFe e2 ⟨some (sV y), ?_, hs2⟩
            rw [ft, if_neg (by rw [e2, Bool.and_false]; decide), List.append_nil]; rfl
        · refine iteFe (decide_eq_false e) ?_
          refine iteFe rfl ⟨some (sV y), ?_, hs2⟩
          rw [ft, if_neg (by rw [decide_eq_false e, Bool.false_and]; decide), List.append_nil]; rfl
      · obtain ⟨z6, rfl, hs2⟩ := h
        rw [sL_len, List.take_length]
        refine ⟨_, rfl, _, rfl, l, S', m, rfl, SqL.of (hs2 _ _ hl1), by have := sub_few W hsub; omega, fun q3 H3 s3 n3 e3 => ?_⟩
        refine ⟨_, q3, wo S' m, _, _, rfl, (hs1.trans hs2).trans s3, e3, sub_wo hsub m, ?_⟩
        rw [← hn, Int.add_assoc]; rfl
    · obtain ⟨n, l, S', z5, z6, rfl, hs1, hl1, hsub, hn⟩ := h
      rw [sL_len, List.drop_length] at hn
      refine ⟨_, rfl, q H1 n hs1 ?_⟩
      rw [← hn]; exact (Int.add_zero n).symm

/-! ### the ring of a number, the number of a ring -/
/-- the words of the ring of a number -/
noncomputable def ringL (ws : List Wd) (n : Int) : List Wd := ws.headD [] :: ob bgn enn (pcs ws) (bgn (ws.headD [])) ws.tail.length ws.tail (enn (ws.headD [])) n
theorem ringL_ok {ws : List Wd} {L : Nat} (W : WebOk ws L) {n : Int} (h0 : 0 ≤ n) (h1 : n < cntR ws) :
    RingOrd ws (ringL ws n) ∧ num bgn enn ltw (pcs ws) (bgn (ws.headD [])) (ringL ws n).tail ws.tail = n := by
  match ws, W, h1 with
  | [], W, _ => exact absurd rfl W.ne
  | x :: r, W, h1 =>
    have hx : x ∈ x :: r := List.mem_cons_self ..
    have hsub : r.Sublist (x :: r) := List.sublist_cons_self x r
    obtain ⟨t, hn⟩ := ob_ok lin (m := r.length) (S := r) (u := enn x) (r := bgn x) (n := n) rfl (W.gd hsub) (asc_sub W.asc hsub) (enn_pcs hx) h0 h1
    refine ⟨⟨List.Perm.cons x t.perm, rfl, fun y hy => ?_⟩, hn⟩
    have e : x = y := by simpa [ringL] using hy
    subst e
    exact ⟨rfl, t.walk⟩
theorem ix_zero {a : Type} {x : a} {l : List a} : atI (x :: l) 0 = some x := by
  show (ixN (l.length + 1) 0).bind _ = _
  have : ixN (l.length + 1) 0 = some 0 := by unfold ixN; simp
  rw [this]; rfl
theorem at_sg {v : Wd} {c : Nat} (h : v[0]? = some c) : atI (⟨v.toArray⟩ : Str).cps.toList 0 = some c := by
  show atI (v.toArray).toList 0 = _
  rw [List.toList_toArray]
  match v, h with
  | c :: _, h => rw [← (show some _ = some _ from h)]; exact ix_zero
theorem join_sg (l : List Nat) : Txt.join ("" : Str) (l.map fun c => (⟨#[c]⟩ : Str)) = stS l := by
  refine TL.ext_tl ?_
  rw [TL.join_eq, TL.tl_join]
  have e0 : TL.tl ("" : Str) = [] := emp_toList
  rw [e0]
  have e1 : (l.map fun c => (⟨#[c]⟩ : Str)).map TL.tl = l.map fun c => [c] := by rw [List.map_map]; rfl
  rw [e1]
  have e2 : TL.tl (stS l) = l := by show (l.toArray).toList = l; simp
  rw [e2]
  clear e0 e1 e2
  induction l with
  | nil => rfl
  | cons c r ih =>
    cases r with
    | nil => rfl
    | cons d r =>
      show [c] ++ ([] ++ TL.joinL [] ((d :: r).map fun c => [c])) = c :: d :: r
      rw [ih]; rfl
def spRingBy (CW : Addr) : Sp := fun vs H Q _ => ∃ (p t : Addr) (ws : List Wd) (L : Nat) (n : Int), vs = [.ref p, .int n] ∧ WebAt CW H p ws L t ∧ RingOk ws ∧ 0 ≤ n ∧ n < cntR ws ∧ ∀ H', Same H H' → Q (sV (rtx (ringL ws n))) H'
theorem ok_ring_by (T : Txt K mg CW CD) : Df P w K mg base 7 "ring_by" ["web", "number"] (spRingBy CW) := by
  refine df_of T.d_ring_by sc_ring_by bd_ring_by (fun vs H Q E h => ?_) (fun f cdv A outer s H vs Q E hr h => ?_)
  · obtain ⟨p, t, ws, L, n, rfl, _⟩ := h
    rfl
  · obtain ⟨p, t, ws, L, n, rfl, W, ok, h0, h1, q⟩ := h
    refine ⟨_, (pss_cons (ps_if (PW.pt (pw_or (pt_cmpR op_lt (pv 1) pe_int (nomark _)) (pw_or1 (pt_cmpR op_ge (pv 1) (pe_fn (ok_ring_count T) hr (pa_cons (pv 0) pa_nil)) (nomark _)))))
    (pss_one ps_never)
    pss_nil)
    (pss_cons (ps_set (i := 2) sc_ring_by.nd rfl (Or.inl rfl) (pe_ix ix_tup (pe_fld (pv 0) rfl) pe_int (fun _ _ => rfl)))
    (pss_cons (ps_set (i := 3) sc_ring_by.nd rfl (Or.inl rfl) (pe_fn (ok_order_by T) hr (pa_cons (pe_slice sl_tup (pe_fld (pv 0) rfl) (po_some pe_int) po_none) (pa_cons (pe_fn (ok_end_of T) hr (pa_cons (pv 2) pa_nil)) (pa_cons (pe_fn (ok_begin_of T) hr (pa_cons (pv 2) pa_nil)) (pa_cons (pv 1) pa_nil))))))
    (pss_one (ps_ret (pe_join pe_str (pe_lc (own := [("word", 4)]) (g := gName 4) rfl sc_ring_by.nd (pi_list (pe_op op_cat (pe_lst (pa_cons (pv 2) pa_nil)) (pv 3))) (blkOk_by (own := [("word", 4)]) (N := ["web", "number", "first", "order", "word"]) (sc := defScope s_ring_by) (by decide +kernel)) (fun _ _ _ _ _ => pg_name (i := 4) sc_ring_by.nd rfl (Or.inl rfl)) (fun _ _ _ _ _ => pts_nil) (fun _ _ _ _ _ => (pe_ix ix_str (pv 4) pe_int (fun _ _ => rfl)))))))))), ?_⟩
    refine ⟨_, rfl, _, _, rfl, rfl, _, rfl, ?_⟩
    refine iteFe (decide_eq_false (by omega)) ?_
    refine ⟨_, rfl, _, rfl, p, t, ws, L, rfl, W, ok, fun H1 z s1 ez => ?_⟩
    subst ez
    refine ⟨_, _, rfl, rfl, _, rfl, iteFe (decide_eq_false (by omega)) ?_⟩
    have W1 := W.same s1
    obtain ⟨dx, hob⟩ := W1.ob
    have hrg := ringL_ok W.ok h0 h1
    obtain ⟨x, r, rfl⟩ : ∃ x r, ws = x :: r := by
      match ws, W.ok.ne with
      | x :: r, _ => exact ⟨x, r, rfl⟩
    have hx : x ∈ x :: r := List.mem_cons_self ..
    have hxl := w1000 W.ok hx
    have hsub : r.Sublist (x :: r) := List.sublist_cons_self x r
    refine ⟨_, rfl, p, CW, dx, _, _, rfl, hob, T.cWeb, T.aWeb_words, webF_words _ _, t, sL (x :: r), 0, sV x, rfl, rfl, SqT.of W1.tp, at_of (j := 0) rfl rfl, ?_⟩
    refine ⟨_, rfl, p, CW, dx, _, _, rfl, hob, T.cWeb, T.aWeb_words, webF_words _ _, 1, rfl, t, sL (x :: r), rfl, SqT.of W1.tp, not_whole W.ok.ne, fun y ny => ?_⟩
    rw [cut_tail]
    have s2 : Same H1 (upd H1 y (.tup (sL r))) := same_upd ny
    refine ⟨_, rfl, x, rfl, hxl, _, rfl, x, rfl, hxl, _, rfl, y, x :: r, r, L, enn x, bgn x, n, rfl, .inr (SqT.of upd_same), W.ok, hsub, enn_pcs hx, bgn_pcs hx, h0, h1, fun o H3 s3 n3 e3 => ?_⟩
    -- the text
    refine ⟨⟨_, rfl⟩, _, rfl, (by show 1 ≤ sizeLine; decide), fun c nc => ?_⟩
    have olen : (ob bgn enn (pcs (x :: r)) (bgn x) r.length r (enn x) n).length = r.length := by
      have := hrg.1.perm.length_eq
      unfold ringL at this
      rw [List.length_cons, List.length_cons] at this
      show _ = _
      have h2 : (ob bgn enn (pcs (x :: r)) (bgn x) r.length r (enn x) n).length + 1 = r.length + 1 := this
      omega
    have h16 := W.ok.few
    rw [List.length_cons] at h16
    have e4 : (upd H3 c (.lst [sV x])) o = some (.lst (sL (ob bgn enn (pcs (x :: r)) (bgn x) r.length r (enn x) n))) := by
      rw [upd_ne (ne_of_none e3 nc)]; exact e3
    refine ⟨_, rfl, c, o, _, _, rfl, rfl, upd_same, e4, ?_, fun u nu => ?_⟩
    · rw [sL_len, olen]
      show 1 + r.length ≤ sizeLine
      exact Nat.le_of_lt (small1000 (by omega))
    have el : [sV x] ++ sL (ob bgn enn (pcs (x :: r)) (bgn x) r.length r (enn x) n) = sL (ringL (x :: r) n) := rfl
    rw [el]
    have rl := hrg.1.perm.length_eq
    refine ⟨u, rfl, ⟨_, SqL.of upd_same⟩, fun D nD => ?_⟩
    have s6 : Same H (upd (upd H3 c (.lst [sV x])) u (.lst (sL (ringL (x :: r) n)))) := ((s1.trans s2).trans s3).trans ((same_upd nc).trans (same_upd nu))
    refine lc_list (K := K) (a := u) (xs := sL (ringL (x :: r) n)) (fun i H7 => Same (upd (upd H3 c (.lst [sV x])) u (.lst (sL (ringL (x :: r) n)))) H7 ∧ H7 D = some (.lst ((((ringL (x :: r) n).take i).map fsg).map fun c => V.str ⟨#[c]⟩))) ⟨same_upd nD, upd_same⟩ (fun i H7 _ h => SqL.of (h.1 _ _ upd_same)) (fun i y H7 hy ⟨hs, hD⟩ => ?_) (fun H7 ⟨hs, hD⟩ => ?_)
    · obtain ⟨v, hv, rfl⟩ := sL_at hy
      have hvm := hrg.1.perm.mem_iff.mp (List.mem_of_getElem? hv)
      have hvl := W.ok.len v hvm
      have hlo := W.ok.lo
      refine ⟨rfl, ?_⟩
      unfold tYes; dsimp only
      rw [if_pos rfl]
      have hc : v[0]? = some (fsg v) := by
        match v, hvl with
        | [], e => have : (0 : Nat) = L := e; omega
        | c :: _, _ => rfl
      refine ⟨_, rfl, _, 0, fsg v, rfl, rfl, by rw [S_len]; exact Nat.le_of_lt (small1000 (w1000 W.ok hvm)), at_sg hc, _, hD, ?_, same_chg hs nD, ?_⟩
      · rw [List.length_map, List.length_map, List.length_take]
        exact small1000 (by rw [List.length_cons] at rl; omega)
      · rw [upd_same, take_snoc hv, List.map_append, List.map_append]; rfl
    · rw [sL_len, List.take_length] at hD
      refine ⟨_, D, ((ringL (x :: r) n).map fsg).map (fun c => (⟨#[c]⟩ : Str)), rfl, rfl, .inl (SqL.of (by rw [List.map_map]; exact hD)), ?_, ?_⟩
      · have e1 : (((ringL (x :: r) n).map fsg).map fun c => (⟨#[c]⟩ : Str)).map (·.length) = (ringL (x :: r) n).map fun _ => 1 := by rw [List.map_map, List.map_map]; rfl
        have e2 : ∀ l : List Wd, (l.map fun _ => 1).sum = l.length := fun l => by
          induction l with
          | nil => rfl
          | cons a l ih => rw [List.map_cons, List.sum_cons, ih, List.length_cons]; omega
        have e3 : ("" : Str).length = 0 := by decide +kernel
        rw [e1, e2, e3, Nat.mul_zero, rl, List.length_cons]; omega
      · rw [join_sg]
        exact q H7 (s6.trans hs)
def spRingNum (CW : Addr) : Sp := fun vs H Q _ => ∃ (p t : Addr) (ws l : List Wd) (L : Nat), vs = [.ref p, sV (rtx l)] ∧ WebAt CW H p ws L t ∧ RingOrd ws l ∧
  ∀ (H' : Hp) (z : Int), Same H H' → z = num bgn enn ltw (pcs ws) (bgn (ws.headD [])) l.tail ws.tail → Q (.int z) H'
theorem ok_ring_number (T : Txt K mg CW CD) : Df P w K mg base 6 "ring_number" ["web", "ring"] (spRingNum CW) := by
  refine df_of T.d_ring_number sc_ring_number bd_ring_number (fun vs H Q E h => ?_) (fun f cdv A outer s H vs Q E hr h => ?_)
  · obtain ⟨p, t, ws, l, L, rfl, _⟩ := h
    rfl
  · obtain ⟨p, t, ws, l, L, rfl, W, o, q⟩ := h
    obtain ⟨x, r, e, hx, R⟩ := rg_of o W.ok
    refine ⟨_, (pss_cons (ps_if (pt_not (pt_val (pe_fn (ok_is_ring T) hr (pa_cons (pv 0) (pa_cons (pv 1) pa_nil)))))
    (pss_one ps_never)
    pss_nil)
    (pss_cons (ps_set (i := 2) sc_ring_number.nd rfl (Or.inl rfl) (pe_fn (ok_windows T) hr (pa_cons (pv 1) (pa_cons (pe_fld (pv 0) rfl) (pa_cons pe_bl pa_nil)))))
    (pss_one (ps_ret (pe_fn (ok_order_number T) hr (pa_cons (pe_slice sl_tup (pe_fld (pv 0) rfl) (po_some pe_int) po_none) (pa_cons (pe_slice sl_list (pv 2) (po_some pe_int) po_none) (pa_cons (pe_fn (ok_begin_of T) hr (pa_cons (pe_ix ix_tup (pe_fld (pv 0) rfl) pe_int (fun _ _ => rfl)) pa_nil)) pa_nil)))))))), ?_⟩
    refine ⟨_, rfl, _, rfl, p, t, ws, l, L, rfl, W, o, fun H1 s1 => ⟨true, rfl, iteFe rfl ?_⟩⟩
    have W1 := W.same s1
    obtain ⟨dx, hob⟩ := W1.ob
    refine ⟨_, rfl, _, rfl, p, CW, dx, _, _, rfl, hob, T.cWeb, T.aWeb_length, webF_length _ _, l, bgn x, L, rfl, R, fun q2 H2 s2 n2 e2 => ?_⟩
    have W2 := W1.same s2
    obtain ⟨dx2, hob2⟩ := W2.ob
    refine ⟨_, rfl, p, CW, dx2, _, _, rfl, hob2, T.cWeb, T.aWeb_words, webF_words _ _, 1, rfl, t, sL ws, rfl, SqT.of W2.tp, not_whole W.ok.ne, fun y ny => ?_⟩
    rw [cut_tail]
    have s3 : Same H2 (upd H2 y (.tup (sL ws.tail))) := same_upd ny
    refine ⟨_, rfl, 1, rfl, q2, sL l, rfl, SqL.of (s3 _ _ e2), fun v nv => ?_⟩
    rw [cut_tail]
    have s4 := s3.trans (same_upd (o := .lst (sL l.tail)) nv)
    have W4 := W2.same s4
    obtain ⟨dx4, hob4⟩ := W4.ob
    obtain ⟨x0, r0, rfl⟩ : ∃ x0 r0, ws = x0 :: r0 := by
      match ws, W.ok.ne with
      | x :: r, _ => exact ⟨x, r, rfl⟩
    have hx0 : x0 ∈ x0 :: r0 := List.mem_cons_self ..
    refine ⟨_, rfl, p, CW, dx4, _, _, rfl, hob4, T.cWeb, T.aWeb_words, webF_words _ _, t, sL (x0 :: r0), 0, sV x0, rfl, rfl, SqT.of W4.tp, at_of (j := 0) rfl rfl, x0, rfl, w1000 W.ok hx0, y, v, x0 :: r0, r0, l.tail, L, bgn x0, rfl, .inr (SqT.of ?_), SqL.of upd_same, W.ok, List.sublist_cons_self x0 r0, fun z hz => ?_, bgn_pcs hx0, fun H5 z s5 ez => ?_⟩
    · rw [upd_ne (ne_of_none (show (upd H2 y (.tup (sL (x0 :: r0).tail))) y = some _ from upd_same) nv), upd_same]; rfl
    · exact o.perm.mem_iff.mp (List.mem_of_mem_tail hz)
    · exact q H5 z ((s1.trans s2).trans (s4.trans s5)) ez
end
end Tw
namespace Tw
open PySem PySem.Spec PyProof.Rows L2 MT MW
section
variable {P : Program} {w : World} {K : PySem.W.Frag} {mg : Str → Option Value} {base : Heap} {CW CD : Addr}
open MD
/-! ### the parts of a ring -/
theorem at_end {a : Type} {l : List a} {x : a} (h : l.getLast? = some x) : atI l (-1) = some x := by
  have hp : l ≠ [] := fun e => by rw [e] at h; cases h
  have hl := List.length_pos_iff.mpr hp
  have e : ixN l.length (-1) = some (l.length - 1) := by
    unfold ixN
    rw [if_neg (by omega), if_pos (by omega)]
    congr 1; omega
  unfold atI
  rw [e, ← h, List.getLast?_eq_getElem?]; rfl
/-- the last word out of a piece -/
def lastW (l : List Wd) (v : Wd) : Wd := ((gone bgn l v).getLast?).getD []
def treeL (ws l : List Wd) : List Wd := (wo (pcs ws) (bgn (ws.headD []))).map (lastW l)
def ordL (ws l : List Wd) (v : Wd) : List Wd := if v = bgn (ws.headD []) then (gone bgn l v).tail else (gone bgn l v).dropLast
theorem gone_ne {ws l : List Wd} (ok : RingOk ws) (o : l.Perm ws) {v : Wd} (hv : v ∈ pcs ws) : ∃ x ∈ l, bgn x = v := by
  rcases mem_pcs.mp hv with ⟨x, hx, e⟩ | ⟨x, hx, e⟩
  · exact ⟨x, o.mem_iff.mpr hx, e⟩
  · have h1 : 0 < ind enn ws v := List.countP_pos_iff.mpr ⟨x, hx, by simpa using e⟩
    rw [← ok.1 v] at h1
    obtain ⟨y, hy, e⟩ := outd_pos.mp h1
    exact ⟨y, o.mem_iff.mpr hy, e⟩
theorem lastW_spec {l : List Wd} {v : Wd} (h : ∃ x ∈ l, bgn x = v) : (gone bgn l v).getLast? = some (lastW l v) ∧ lastW l v ∈ l ∧ bgn (lastW l v) = v := by
  obtain ⟨A, w, C, e, h1, h2⟩ := last_split l v h
  have h3 : (gone bgn l v).getLast? = some w := by rw [e]; exact gone_last h1 h2
  have h4 : lastW l v = w := by unfold lastW; rw [h3]; rfl
  rw [h4]
  exact ⟨h3, by rw [e]; exact List.mem_append_right _ (List.mem_cons_self ..), h1⟩
theorem sL_last {l : List Wd} {x : Wd} (h : l.getLast? = some x) : (sL l).getLast? = some (sV x) := by
  rw [List.getLast?_map, h]; rfl
theorem cut_front {l : List Wd} : cutV (sL l) none (some (-1)) = sL l.dropLast := by
  show ((sL l).drop 0).take (HT.sIx (sL l).length (sL l).length (some (-1)) - 0) = _
  have : HT.sIx (sL l).length (sL l).length (some (-1)) = l.length - 1 := by
    rw [sL_len]
    show (if (-1 : Int) < 0 then ((-1 : Int) + (l.length : Int)).toNat else min (-1 : Int).toNat l.length) = l.length - 1
    rw [if_pos (by decide)]; omega
  rw [this, List.drop_zero, Nat.sub_zero, ← List.map_take, List.dropLast_eq_take]
/-- the orders as they stand -/
structure OrdAt (H : Hp) (oa : Addr) (ws S vs : List Wd) (f : Wd → Addr) : Prop where
  top : H oa = some (.lst (vs.map fun v => .ref (f v)))
  cont : ∀ v ∈ vs, H (f v) = some (.tup (sL (ordL ws S v)))
theorem OrdAt.same {H H' : Hp} {oa : Addr} {ws S vs : List Wd} {f : Wd → Addr} (B : OrdAt H oa ws S vs f) (s : Same H H') : OrdAt H' oa ws S vs f := ⟨s _ _ B.top, fun v hv => s _ _ (B.cont v hv)⟩
theorem OrdAt.add {H : Hp} {oa y u : Addr} {o : HO} {ws S vs xs : List Wd} {v : Wd} {f : Wd → Addr} (B : OrdAt H oa ws S vs f) (hv : v ∉ vs) (e : xs = ordL ws S v) (ny : H y = none) (nu : upd H y o u = none) :
    OrdAt (upd (upd (upd H y o) u (.tup (sL xs))) oa (.lst (vs.map (fun v => .ref (f v)) ++ [.ref u]))) oa ws S (vs ++ [v]) (fup f v u) := by
  have s : Same H (upd (upd H y o) u (.tup (sL xs))) := (same_upd ny).trans (same_upd nu)
  have nuo : u ≠ oa := (ne_of_none ((same_upd (o := o) ny) _ _ B.top) nu).symm
  have fl : ∀ k ∈ vs, k ≠ v := fun k hk e => hv (e ▸ hk)
  refine ⟨?_, fun k hk => ?_⟩
  · rw [upd_same, List.map_append]
    have e1 : vs.map (fun v => V.ref (f v)) = vs.map (fun k => V.ref (fup f v u k)) := List.map_congr_left fun k hk => by rw [fup_ne _ _ (fl k hk)]
    have e2 : [V.ref u] = [v].map (fun k => V.ref (fup f v u k)) := by
      show [V.ref u] = [V.ref (fup f v u v)]
      rw [fup_same]
    rw [e1, e2]
  · rcases List.mem_append.mp hk with hk | hk
    · rw [fup_ne _ _ (fl k hk)]
      have h1 : f k ≠ oa := fun e => by
        have h2 := B.cont k hk
        rw [e, B.top] at h2; cases h2
      rw [upd_ne h1]
      exact s _ _ (B.cont k hk)
    · have : k = v := List.mem_singleton.mp hk
      subst this
      rw [fup_same, upd_ne nuo, upd_same, e]
def spParts (CW : Addr) : Sp := fun vs H Q _ => ∃ (p t : Addr) (ws l : List Wd) (L : Nat), vs = [.ref p, sV (rtx l)] ∧ WebAt CW H p ws L t ∧ RingOk ws ∧ RingOrd ws l ∧
  ∀ (H' : Hp) (u ta oa : Addr) (g : Wd → Addr), Same H H' → H' u = some (.tup [.ref ta, .ref oa]) → H' ta = some (.lst (sL (treeL ws l))) → OrdAt H' oa ws l (pcs ws) g → Q (.ref u) H'
theorem ok_parts_of (T : Txt K mg CW CD) : Df P w K mg base 6 "parts_of" ["web", "ring"] (spParts CW) := by
  refine df_of T.d_parts_of sc_parts_of bd_parts_of (fun vs H Q E h => ?_) (fun f cdv A outer s H vs Q E hr h => ?_)
  · obtain ⟨p, t, ws, l, L, rfl, _⟩ := h
    rfl
  · obtain ⟨p, t, ws, S, L, rfl, W, ok, o, q⟩ := h
    have hu := hu_of hr
    obtain ⟨x0, r0, el, hx0, R⟩ := rg_of o W.ok
    have hpl := o.perm.length_eq
    have hfew := W.ok.few
    have hpc := W.ok.pc
    refine ⟨_, (pss_cons (ps_if (pt_not (pt_val (pe_fn (ok_is_ring T) hr (pa_cons (pv 0) (pa_cons (pv 1) pa_nil)))))
    (pss_one ps_never)
    pss_nil)
    (pss_cons (ps_set (i := 2) sc_parts_of.nd rfl (Or.inr rfl) pe_dnewK)
    (pss_cons (ps_for PassesOwn.never rfl (pi_list (pe_fn (ok_windows T) hr (pa_cons (pv 1) (pa_cons (pe_fld (pv 0) rfl) (pa_cons pe_bl pa_nil))))) (pg_name (i := 3) sc_parts_of.nd rfl (Or.inl rfl))
    (pss_one (ps_expr (pe_bm PySem.F.plainAttrs_list PySem.F.slot_list_append PySem.F.type_list_append mt_append (pe_dsetd (pv 2) (pe_fn (ok_begin_of T) hr (pa_cons (pv 3) pa_nil)) (pe_lst pa_nil) ⟨by rfl, by rfl, by rfl, by rfl⟩) (pa_cons (pv 3) pa_nil)))))
    (pss_cons (ps_set (i := 4) sc_parts_of.nd rfl (Or.inr rfl) (pe_fn (ok_begin_of T) hr (pa_cons (pe_ix ix_tup (pe_fld (pv 0) rfl) pe_int (fun _ _ => rfl)) pa_nil)))
    (pss_cons (ps_setLc (i := 5) (own := [("piece", 7)]) (g := gName 7) rfl sc_parts_of.nd rfl rfl (sw_true rfl rfl rfl (by decide +kernel)) (pi_list (pe_fn (ok_pieces T) hr (pa_cons (pv 0) pa_nil))) (blkOk_by (own := [("piece", 7)]) (N := ["web", "ring", "gone", "word", "home", "tree", "orders", "piece"]) (sc := defScope s_parts_of) (by decide +kernel)) (fun _ _ _ _ _ => pg_name (i := 7) sc_parts_of.nd rfl (Or.inl rfl)) (fun _ _ _ _ _ => (pts_one (pt_cmpR op_ne (pv 7) (pv 4) (nomark _)))) (fun _ _ _ _ _ => (pe_ix (show IxR _ (rIxL K) from ix_list) (pe_dget hu (pv 2) (pv 7) (fun _ _ => rfl)) (pe_un un_neg pe_int) (fun _ _ => rfl))))
    (pss_cons (ps_set (i := 6) sc_parts_of.nd rfl (Or.inl rfl) (pe_lst pa_nil))
    (pss_cons (ps_for PassesOwn.never rfl (pi_list (pe_fn (ok_pieces T) hr (pa_cons (pv 0) pa_nil))) (pg_name (i := 7) sc_parts_of.nd rfl (Or.inl rfl))
    (pss_one (ps_if (pt_cmpR op_eq (pv 7) (pv 4) (nomark _))
    (pss_one (ps_expr (pe_bm PySem.F.plainAttrs_list PySem.F.slot_list_append PySem.F.type_list_append mt_append (pv 6) (pa_cons (pe_callTy call_tuple_of (by rfl) T.n_tuple (by decide +kernel) (pa_cons (pe_slice sl_list (pe_dget hu (pv 2) (pv 7) (fun _ _ => rfl)) (po_some pe_int) po_none) pa_nil)) pa_nil))))
    (pss_one (ps_expr (pe_bm PySem.F.plainAttrs_list PySem.F.slot_list_append PySem.F.type_list_append mt_append (pv 6) (pa_cons (pe_callTy call_tuple_of (by rfl) T.n_tuple (by decide +kernel) (pa_cons (pe_slice sl_list (pe_dget hu (pv 2) (pv 7) (fun _ _ => rfl)) po_none (po_some (pe_un un_neg pe_int))) pa_nil)) pa_nil)))))))
    (pss_one (ps_ret (pe_tup (pa_cons (pv 5) (pa_cons (pv 6) pa_nil)))))))))))), ?_⟩
    refine ⟨_, rfl, _, rfl, p, t, ws, S, L, rfl, W, o, fun H1 s1 => ⟨true, rfl, iteFe rfl ?_⟩⟩
    have W1 := W.same s1
    intro d nd
    have nd0 : H d = none := s1.free nd
    have s2 : Same H (upd H1 d (.dK [])) := s1.trans (same_upd nd)
    have W2 := W.same s2
    obtain ⟨dx, hob⟩ := W2.ob
    refine ⟨_, rfl, _, rfl, p, CW, dx, _, _, rfl, hob, T.cWeb, T.aWeb_length, webF_length _ _, S, bgn x0, L, rfl, R, fun q1 H2 s3 n3 e3 => ?_⟩
    have nqd : q1 ≠ d := (ne_of_none upd_same n3).symm
    have hd2 := s3 _ _ (upd_same (H := H1) (a := d) (o := .dK []))
    have s4 : Same H H2 := s2.trans s3
    have nq0 : H q1 = none := s2.free n3
    refine ⟨q1, rfl, ⟨_, SqL.of e3⟩, ?_⟩
    obtain ⟨Hx, hHx⟩ : ∃ Hx : Hp, Hx = fun a => if a = d then none else H2 a := ⟨_, rfl⟩
    have ndx : Hx d = none := by rw [hHx]; exact if_pos rfl
    have sx : Same H Hx := fun a v e => by
      rw [hHx]
      show (if a = d then none else H2 a) = some v
      rw [if_neg (ne_of_none e nd0)]; exact s4 _ _ e
    have sx2 : Same Hx H2 := fun a v e => by
      rw [hHx] at e
      have e : (if a = d then none else H2 a) = some v := e
      by_cases g : a = d
      · rw [if_pos g] at e; cases e
      · rw [if_neg g] at e; exact e
    have eqx : Hx q1 = some (.lst (sL S)) := by rw [hHx]; show (if q1 = d then none else H2 q1) = _; rw [if_neg nqd]; exact e3
    refine for_list (K := K) (a := q1) (xs := sL S) (fun i σ H' => ∃ z ks g, σ = [some (.ref p), some (sV (rtx S)), some (.ref d), z, none, none, none, none] ∧ Same Hx H' ∧ ByAt Hx H' d ks g (S.take i))
      ⟨none, [], fun _ => d, rfl, sx2, ⟨hd2, List.nodup_nil, fun k => by simp, fun k hk => (by cases hk), fun k hk => (by cases hk), fun k hk => (by cases hk), fun k hk => (by cases hk)⟩⟩ (fun i σ H' _ h => ?_) (fun i x σ H' hx h => ?_) (fun σ H' h => ?_)
    · obtain ⟨_, _, _, _, hs, _⟩ := h
      exact SqL.of (hs _ _ eqx)
    · obtain ⟨z, ks, g, rfl, hs, B⟩ := h
      obtain ⟨y, hy, rfl⟩ := sL_at hx
      have hyl : y.length ≤ 1000 := by have := R.len y (List.mem_of_getElem? hy); have := R.hi; omega
      have et := take_snoc hy
      have hkl := by_len B
      rw [List.length_take] at hkl
      refine ⟨_, rfl, d, rfl, .inl ⟨_, .of B.hd⟩, _, rfl, y, rfl, hyl, (by show 0 ≤ sizeLine; decide), fun l nl => ?_⟩
      have nl0 : Hx l = none := hs.free nl
      have nld : l ≠ d := (ne_of_none B.hd nl).symm
      have hd1 : (upd H' l (.lst [])) d = some (.dK (dkv ks fun k => .ref (g k))) := by rw [upd_ne nld.symm]; exact B.hd
      have gone_snoc : ∀ k, gone bgn (S.take (i + 1)) k = gone bgn (S.take i) k ++ (if bgn y = k then [y] else []) := fun k => by
        rw [et]; unfold gone; rw [filter_snoc]
        by_cases e : bgn y = k
        · rw [if_pos (by simpa using e), if_pos e]
        · rw [if_neg (by simpa using e), if_neg e]
      refine ⟨_, Sum.inr (stS (bgn y)), hd1, rfl, by rw [dkv_len]; exact small1000 (by omega), fun v hv => ?_, fun hv => ?_⟩
      · -- the begin is there
        rw [dkv_val] at hv
        by_cases hk : bgn y ∈ ks
        · rw [if_pos hk] at hv
          have ev : v = .ref (g (bgn y)) := (Option.some.inj hv).symm
          subst ev
          have hgl : g (bgn y) ≠ l := ne_of_none (B.cont _ hk) nl
          have hc : (upd H' l (.lst [])) (g (bgn y)) = some (.lst (sL (gone bgn (S.take i) (bgn y)))) := by rw [upd_ne hgl]; exact B.cont _ hk
          refine ⟨.inl ⟨rfl, _, SqL.of hc⟩, _, rfl, g (bgn y), _, _, rfl, rfl, hc, ?_, ?_⟩
          · rw [sL_len]
            refine small1000 (Nat.le_trans (List.length_filter_le ..) ?_)
            rw [List.length_take]; omega
          · refine ⟨_, ks, g, rfl, same_chg (same_chg hs nl0) (B.fresh _ hk), ⟨by rw [upd_ne (B.nod _ hk).symm]; exact hd1, B.nd, fun k => ?_, B.inj, B.nod, B.fresh, fun k hk2 => ?_⟩⟩
            · rw [B.mem]
              constructor
              · rintro ⟨x, hx, e⟩
                exact ⟨x, (mem_take_succ hy x).mpr (.inl hx), e⟩
              · rintro ⟨x, hx, e⟩
                rcases (mem_take_succ hy x).mp hx with hx | rfl
                · exact ⟨x, hx, e⟩
                · rw [← e]; exact (B.mem _).mp hk
            · rw [gone_snoc]
              by_cases e : k = bgn y
              · subst e
                rw [upd_same, if_pos rfl, sL_app]; rfl
              · have hgk : g k ≠ g (bgn y) := fun h => e (B.inj k hk2 _ hk h)
                rw [upd_ne hgk, upd_ne (ne_of_none (B.cont k hk2) nl), if_neg fun h => e h.symm, List.append_nil]
                exact B.cont k hk2
        · rw [if_neg hk] at hv; cases hv
      · -- it is new
        rw [dkv_val] at hv
        have hk : bgn y ∉ ks := fun hk => by rw [if_pos hk] at hv; cases hv
        rw [dkv_put, fup_ref]
        have hl2 : (upd (upd H' l (.lst [])) d (.dK (dkv (kadd ks (bgn y)) fun j => .ref (fup g (bgn y) l j)))) l = some (.lst []) := by rw [upd_ne nld, upd_same]
        have g0 : gone bgn (S.take i) (bgn y) = [] := List.filter_eq_nil_iff.mpr fun x hx => by
          simp only [decide_eq_true_eq]
          exact fun e => hk ((B.mem _).mpr ⟨x, hx, e⟩)
        have fl : ∀ k ∈ ks, k ≠ bgn y := fun k hk2 e => hk (e ▸ hk2)
        refine ⟨.inl ⟨rfl, _, SqL.of hl2⟩, _, rfl, l, _, _, rfl, rfl, hl2, (by show 0 < sizeLine; decide), ?_⟩
        refine ⟨_, kadd ks (bgn y), fup g (bgn y) l, rfl, same_chg (same_chg (same_chg hs nl0) ndx) nl0, ⟨by rw [upd_ne nld.symm, upd_same], kadd_nd B.nd, fun k => ?_, fun k hk1 j hj1 e => ?_, fun k hk1 => ?_, fun k hk1 => ?_, fun k hk1 => ?_⟩⟩
        · rw [mem_kadd, B.mem]
          constructor
          · rintro (⟨x, hx, e⟩ | e)
            · exact ⟨x, (mem_take_succ hy x).mpr (.inl hx), e⟩
            · exact ⟨y, (mem_take_succ hy y).mpr (.inr rfl), e.symm⟩
          · rintro ⟨x, hx, e⟩
            rcases (mem_take_succ hy x).mp hx with hx | rfl
            · exact .inl ⟨x, hx, e⟩
            · exact .inr e.symm
        · have gne : ∀ k ∈ ks, g k ≠ l := fun k hk2 => ne_of_none (B.cont k hk2) nl
          rcases mem_kadd.mp hk1 with hk1 | rfl
          · rcases mem_kadd.mp hj1 with hj1 | rfl
            · rw [fup_ne _ _ (fl k hk1), fup_ne _ _ (fl j hj1)] at e; exact B.inj k hk1 j hj1 e
            · rw [fup_ne _ _ (fl k hk1), fup_same] at e; exact absurd e (gne k hk1)
          · rcases mem_kadd.mp hj1 with hj1 | rfl
            · rw [fup_ne _ _ (fl j hj1), fup_same] at e; exact absurd e.symm (gne j hj1)
            · rfl
        · rcases mem_kadd.mp hk1 with hk1 | rfl
          · rw [fup_ne _ _ (fl k hk1)]; exact B.nod k hk1
          · rw [fup_same]; exact nld
        · rcases mem_kadd.mp hk1 with hk1 | rfl
          · rw [fup_ne _ _ (fl k hk1)]; exact B.fresh k hk1
          · rw [fup_same]; exact nl0
        · rw [gone_snoc]
          rcases mem_kadd.mp hk1 with hk1 | rfl
          · have hgl : g k ≠ l := ne_of_none (B.cont k hk1) nl
            rw [fup_ne _ _ (fl k hk1), upd_ne hgl, upd_ne (B.nod k hk1), upd_ne hgl, if_neg fun h => fl k hk1 h.symm, List.append_nil]
            exact B.cont k hk1
          · rw [fup_same, upd_same, g0, if_pos rfl]; rfl
    · obtain ⟨z, ks, g, rfl, hs, B⟩ := h
      rw [sL_len, List.take_length] at B
      have hs := sx.trans hs
      have WL := W.same hs
      obtain ⟨dxL, hobL⟩ := WL.ob
      obtain ⟨y0, r1, ews⟩ : ∃ x r, ws = x :: r := by
        match ws, W.ok.ne with
        | x :: r, _ => exact ⟨x, r, rfl⟩
      have hy0 : y0 ∈ ws := by rw [ews]; exact List.mem_cons_self ..
      have hhd : ws.headD [] = y0 := by rw [ews]; rfl
      refine ⟨_, rfl, p, CW, dxL, _, _, rfl, hobL, T.cWeb, T.aWeb_words, webF_words _ _, t, sL ws, 0, sV y0, rfl, rfl, SqT.of WL.tp, at_of (j := 0) rfl (by rw [ews]; rfl), y0, rfl, w1000 W.ok hy0, ?_⟩
      have ksP : ∀ v ∈ pcs ws, v ∈ ks := fun v hv => (B.mem v).mpr (gone_ne ok o.perm hv)
      refine ⟨_, rfl, p, t, ws, L, rfl, WL, fun q2 H3 s5 n5 e5 => ?_⟩
      have hs5 : Same H H3 := hs.trans s5
      refine ⟨q2, rfl, ⟨_, SqL.of e5⟩, fun D nD => ?_⟩
      refine lc_list (K := K) (a := q2) (xs := sL (pcs ws)) (fun i H' => Same H3 H' ∧ H' D = some (.lst (sL ((wo ((pcs ws).take i) (bgn y0)).map (lastW S))))) ⟨same_upd nD, upd_same⟩ (fun i H' _ h => SqL.of (h.1 _ _ e5)) (fun i x H' hx ⟨hs6, hD⟩ => ?_) (fun H' ⟨hs6, hD⟩ => ?_)
      · obtain ⟨v, hv, rfl⟩ := sL_at hx
        have hvm := List.mem_of_getElem? hv
        have hin := ksP v hvm
        have hi : i < (pcs ws).length := by
          by_cases g : i < (pcs ws).length
          · exact g
          · rw [List.getElem?_eq_none (by omega)] at hv; cases hv
        refine ⟨rfl, _, rfl, _, rfl, rfl, _, rfl, ?_⟩
        rw [take_snoc hv, wo_snoc]
        by_cases e : v = bgn y0
        · rw [if_neg (show ¬ v ≠ bgn y0 from fun h => h e), List.append_nil]
          refine iteFe (by show (!decide (sV v = sV (bgn y0))) = false; rw [dec_sV, decide_eq_true e]; rfl) ?_
          exact ⟨hs6, hD⟩
        · rw [if_pos e]
          refine iteTe (by show (!decide (sV v = sV (bgn y0))) = true; rw [dec_sV, decide_eq_false e]; rfl) ?_
          have hls := lastW_spec (gone_ne ok o.perm hvm)
          refine ⟨_, rfl, _, rfl, d, _, rfl, dget_in (.of (hs6 _ _ (s5 _ _ B.hd))) hin, _, rfl, g v, sL (gone bgn S v), _, sV (lastW S v), rfl, rfl, SqL.of (hs6 _ _ (s5 _ _ (B.cont v hin))), at_end (sL_last hls.1), _, hD, ?_, same_chg hs6 nD, ?_⟩
          · rw [sL_len, List.length_map]
            have := List.length_filter_le (fun z => decide (z ≠ bgn y0)) ((pcs ws).take i)
            refine small1000 (Nat.le_trans this ?_)
            rw [List.length_take]; omega
          · rw [upd_same, List.map_append, sL_app]; rfl
      · rw [sL_len, List.take_length] at hD
        have s7 : Same H H' := hs5.trans hs6
        refine ⟨(by show 0 ≤ sizeLine; decide), fun oa na => ?_⟩
        have nDa : D ≠ oa := ne_of_none hD na
        have s8 : Same H' (upd H' oa (.lst [])) := same_upd na
        refine ⟨_, rfl, p, t, ws, L, rfl, (W.same s7).same s8, fun q3 H5 s9 n9 e9 => ?_⟩
        have na0 : H' oa = none := na
        have qa : q3 ≠ oa := (ne_of_none upd_same n9).symm
        refine ⟨q3, rfl, ⟨_, SqL.of e9⟩, ?_⟩
        have hds : ∀ {H6 : Hp}, Same H' H6 → H6 d = some (.dK (dkv ks fun k => .ref (g k))) := fun h => h _ _ (hs6 _ _ (s5 _ _ B.hd))
        refine for_list (K := K) (a := q3) (xs := sL (pcs ws)) (fun i σ H6 => ∃ z7 f, σ = [some (.ref p), some (sV (rtx S)), some (.ref d), z, some (sV (bgn y0)), some (.ref D), some (.ref oa), z7] ∧ Same H' H6 ∧ H6 q3 = some (.lst (sL (pcs ws))) ∧ OrdAt H6 oa ws S ((pcs ws).take i) f)
          ⟨none, fun _ => oa, rfl, s8.trans s9, e9, ⟨s9 _ _ upd_same, fun v hv => (by cases hv)⟩⟩ (fun i σ H6 _ h => ?_) (fun i x σ H6 hx h => ?_) (fun σ H6 h => ?_)
        · obtain ⟨_, _, _, _, hq, _⟩ := h
          exact SqL.of hq
        · obtain ⟨z7, f, rfl, hs10, hq, B6⟩ := h
          obtain ⟨v, hv, rfl⟩ := sL_at hx
          have hvm := List.mem_of_getElem? hv
          have hin := ksP v hvm
          have hi : i < (pcs ws).length := by
            by_cases g : i < (pcs ws).length
            · exact g
            · rw [List.getElem?_eq_none (by omega)] at hv; cases hv
          have hnv : v ∉ (pcs ws).take i := fun hm => by
            obtain ⟨j, hj, ej⟩ := List.getElem_of_mem hm
            rw [List.length_take] at hj
            have e3 : (pcs ws)[j]? = some v := by rw [List.getElem_take] at ej; rw [List.getElem?_eq_getElem (by omega), ej]
            have := nd_ix (pcs_nd ws) e3 hv
            omega
          have hc : H6 (g v) = some (.lst (sL (gone bgn S v))) := hs10 _ _ (hs6 _ _ (s5 _ _ (B.cont v hin)))
          have qoa : oa ≠ q3 := qa.symm
          have osz : (((pcs ws).take i).map fun v => V.ref (f v)).length < sizeLine := by
            rw [List.length_map, List.length_take]; exact small1000 (by omega)
          refine ⟨_, rfl, _, rfl, rfl, _, rfl, ?_⟩
          rw [dec_sV]
          by_cases e : v = bgn y0
          · refine iteTe (decide_eq_true e) ?_
            refine ⟨_, rfl, .inl ⟨rfl, _, SqL.of B6.top⟩, _, rfl, _, rfl, d, _, rfl, dget_in (.of (hds hs10)) hin, 1, rfl, g v, sL (gone bgn S v), rfl, SqL.of hc, fun y ny => ?_⟩
            rw [cut_tail]
            refine ⟨y, _, rfl, .inl ⟨SqL.of upd_same, fun u nu => ?_⟩⟩
            refine ⟨oa, _, _, rfl, rfl, ((same_upd ny).trans (same_upd nu)) _ _ B6.top, osz, some (sV v), fup f v u, rfl, same_chg ((hs10.trans (same_upd ny)).trans (same_upd nu)) na, ?_, ?_⟩
            · rw [upd_ne qoa.symm]; exact ((same_upd ny).trans (same_upd nu)) _ _ hq
            · rw [take_snoc hv]; exact B6.add hnv (by unfold ordL; rw [hhd, if_pos e]) ny nu
          · refine iteFe (decide_eq_false e) ?_
            refine ⟨_, rfl, .inl ⟨rfl, _, SqL.of B6.top⟩, _, rfl, _, rfl, d, _, rfl, dget_in (.of (hds hs10)) hin, _, rfl, (-1 : Int), rfl, g v, sL (gone bgn S v), rfl, SqL.of hc, fun y ny => ?_⟩
            rw [cut_front]
            refine ⟨y, _, rfl, .inl ⟨SqL.of upd_same, fun u nu => ?_⟩⟩
            refine ⟨oa, _, _, rfl, rfl, ((same_upd ny).trans (same_upd nu)) _ _ B6.top, osz, some (sV v), fup f v u, rfl, same_chg ((hs10.trans (same_upd ny)).trans (same_upd nu)) na, ?_, ?_⟩
            · rw [upd_ne qoa.symm]; exact ((same_upd ny).trans (same_upd nu)) _ _ hq
            · rw [take_snoc hv]; exact B6.add hnv (by unfold ordL; rw [hhd, if_neg e]) ny nu
        · obtain ⟨z7, f, rfl, hs10, hq, B6⟩ := h
          rw [sL_len, List.take_length] at B6
          refine ⟨_, rfl, _, rfl, (by show 2 ≤ sizeLine; decide), fun u nu => ?_⟩
          have sl := same_upd (o := .tup [.ref D, .ref oa]) nu
          refine q _ u D oa f ((s7.trans hs10).trans sl) upd_same ?_ (B6.same sl)
          have : treeL ws S = (wo (pcs ws) (bgn y0)).map (lastW S) := by unfold treeL; rw [hhd]
          rw [this]
          exact sl _ _ (hs10 _ _ hD)
end
end Tw
namespace Tw
open PySem PySem.Spec PyProof.Rows L2 MT MW
section
variable {P : Program} {w : World} {K : PySem.W.Frag} {mg : Str → Option Value} {base : Heap} {CW CD : Addr}
open MD
theorem len_rd {X : Cx} : CallR X (.builtin "len") (fun xs H Q => ∃ (a : Addr) (ks : List Wd) (f : Wd → V), xs = [V.ref a] ∧ Rd H a (.dK (dkv ks f)) ∧ Q (.int ks.length) H) := by
  intro pins s σ H vs us Q I r ⟨a, ks, f, e, ha, q⟩
  subst e
  obtain ⟨u, e, ru⟩ := vals1 r
  subst e
  cases ru
  refine d_len I ha fun t s' I' => ⟨.int (dkv ks f).length, H, I', ⟨t, rfl⟩, ?_⟩
  rw [dkv_len]; exact q
/-! ### trees -/
theorem lt_app : ∀ {p q : Wd} (r s : Wd), p.length = q.length → p < q → p ++ r < q ++ s
  | [], [], _, _, _, h => absurd h (List.lt_irrefl _)
  | [], _ :: _, _, _, e, _ => by cases e
  | _ :: _, [], _, _, e, _ => by cases e
  | a :: p, b :: q, r, s, e, h => by
    rcases List.cons_lt_cons_iff.mp h with h | ⟨h1, h2⟩
    · exact List.cons_lt_cons_iff.mpr (.inl h)
    · exact List.cons_lt_cons_iff.mpr (.inr ⟨h1, lt_app r s (by simpa using e) h2⟩)
theorem ltw_bgn {x y : Wd} (e : x.length = y.length) (h : ltw (bgn x) (bgn y) = true) : ltw x y = true := by
  have h1 := of_decide_eq_true h
  have hx : x ≠ [] := fun z => by
    subst z
    have : y = [] := List.length_eq_zero_iff.mp e.symm
    subst this
    exact absurd h1 (List.lt_irrefl _)
  have hy : y ≠ [] := fun z => by
    subst z
    exact hx (List.length_eq_zero_iff.mp e)
  have h2 := lt_app [x.getLast hx] [y.getLast hy] (by unfold bgn; rw [List.length_dropLast, List.length_dropLast, e]) h1
  unfold bgn at h2
  rw [List.dropLast_concat_getLast, List.dropLast_concat_getLast] at h2
  exact decide_eq_true h2
theorem treeL_asc {ws S : List Wd} {L : Nat} (W : WebOk ws L) (ok : RingOk ws) (o : S.Perm ws) : Asc ltw (treeL ws S) := by
  unfold treeL
  refine List.pairwise_map.mpr ?_
  have h1 : Asc ltw (wo (pcs ws) (bgn (ws.headD []))) := List.Pairwise.filter _ (pcs_asc ws)
  refine List.Pairwise.imp_of_mem (fun {a b} ha hb h => ?_) h1
  have la := lastW_spec (gone_ne ok o (mem_wo.mp ha).1)
  have lb := lastW_spec (gone_ne ok o (mem_wo.mp hb).1)
  refine ltw_bgn ?_ ?_
  · rw [W.len _ (o.mem_iff.mp la.2.1), W.len _ (o.mem_iff.mp lb.2.1)]
  · rw [la.2.2, lb.2.2]; exact h
theorem treeL_bgn {ws S : List Wd} (ok : RingOk ws) (o : S.Perm ws) : (treeL ws S).map bgn = wo (pcs ws) (bgn (ws.headD [])) := by
  unfold treeL
  rw [List.map_map]
  conv => rhs; rw [← List.map_id (wo (pcs ws) (bgn (ws.headD [])))]
  refine List.map_congr_left fun v hv => ?_
  exact (lastW_spec (gone_ne ok o (mem_wo.mp hv).1)).2.2
def spComes : Sp := fun vs H Q _ => ∃ (d : Addr) (S ks : List Wd) (v h : Wd), vs = [.ref d, sV v, sV h] ∧ Rd H d (.dK (dkv ks fun k => sV (lastW S k))) ∧ ks.length ≤ 100 ∧ (∀ x ∈ S, x.length ≤ 1000) ∧ (∀ k, k ∈ ks ↔ k ≠ h ∧ ∃ x ∈ S, bgn x = k) ∧ Q (.bl (decide (hops bgn enn h S ks.length v = h))) H
theorem hop_key {S ks : List Wd} {h v : Wd} (hk : ∀ k, k ∈ ks ↔ k ≠ h ∧ ∃ x ∈ S, bgn x = k) : hop bgn enn h S v = if v ∈ ks then enn (lastW S v) else v := by
  unfold hop
  by_cases e : v = h
  · rw [if_pos e, if_neg fun z => ((hk v).mp z).1 e]
  · rw [if_neg e]
    by_cases g : ∃ x ∈ S, bgn x = v
    · rw [if_pos ((hk v).mpr ⟨e, g⟩), (lastW_spec g).1]
    · rw [if_neg fun z => g ((hk v).mp z).2]
      have : gone bgn S v = [] := List.filter_eq_nil_iff.mpr fun x hx => by simpa using fun z => g ⟨x, hx, z⟩
      rw [this]; rfl
theorem hops_snoc {S : List Wd} {h : Wd} : ∀ (n : Nat) (v : Wd), hops bgn enn h S (n + 1) v = hop bgn enn h S (hops bgn enn h S n v)
  | 0, v => rfl
  | n + 1, v => hops_snoc n (hop bgn enn h S v)
theorem ok_comes_to (T : Txt K mg CW CD) : Df P w K mg base 2 "comes_to" ["chosen", "text", "piece"] spComes := by
  refine df_of T.d_comes_to sc_comes_to bd_comes_to (fun vs H Q E h => ?_) (fun f cdv A outer s H vs Q E hr h => ?_)
  · obtain ⟨d, S, ks, v, h, rfl, _⟩ := h
    rfl
  · obtain ⟨d, S, ks, v, hm, rfl, hd, hl, hw, hk, q⟩ := h
    have hu := hu_of hr
    refine ⟨_, (pss_cons (ps_set (i := 3) sc_comes_to.nd rfl (Or.inl rfl) (pv 1))
    (pss_cons (ps_for PassesOwn.never rfl (pi_range1 (by rfl) T.n_range (pa_cons (pe_callB len_rd (by rfl) T.n_len PySem.boot_len (pa_cons (pv 0) pa_nil)) pa_nil)) (pg_name (i := 4) sc_comes_to.nd rfl (Or.inl rfl))
    (pss_one (ps_if (pt_cmp (pc_din hu (pv 3) (pv 0)))
    (pss_one (ps_set (i := 3) sc_comes_to.nd rfl (Or.inl rfl) (pe_fn (ok_end_of T) hr (pa_cons (pe_dget hu (pv 0) (pv 3) (fun _ _ => rfl)) pa_nil))))
    pss_nil)))
    (pss_one (ps_ret (pe_cmpR op_eq (pv 3) (pv 2) (nomark _)))))), ?_⟩
    refine ⟨_, rfl, _, rfl, d, ks, _, rfl, hd, ks.length, rfl, by omega, by omega, ?_⟩
    refine for_range (lo := 0) (n := ks.length) (fun k σ H' => ∃ y, σ = [some (.ref d), some (sV v), some (sV hm), some (sV (hops bgn enn hm S k v)), y] ∧ H' = H) ⟨none, rfl, rfl⟩ (fun k σ H' hlt h => ?_) (fun σ H' h => ?_)
    · obtain ⟨y, rfl, rfl⟩ := h
      refine ⟨_, rfl, _, rfl, d, _, rfl, dget_rd hd, _, rfl, ?_⟩
      rw [hops_snoc, hop_key hk]
      by_cases g : hops bgn enn hm S k v ∈ ks
      · rw [if_pos g, if_pos g]
        refine iteTe rfl ?_
        have hls := lastW_spec ((hk _).mp g).2
        exact ⟨_, rfl, _, rfl, d, _, rfl, dget_in hd g, lastW S _, rfl, hw _ hls.2.1, _, rfl, rfl⟩
      · rw [if_neg g, if_neg g]
        exact iteFe rfl ⟨_, rfl, rfl⟩
    · obtain ⟨y, rfl, rfl⟩ := h
      refine ⟨_, rfl, _, rfl, rfl, ?_⟩
      rw [dec_sV]; exact q
end
end Tw
namespace Tw
open PySem PySem.Spec PyProof.Rows L2 MT MW
section
variable {P : Program} {w : World} {K : PySem.W.Frag} {mg : Str → Option Value} {base : Heap} {CW CD : Addr}
open MD
def spTree (CW : Addr) : Sp := fun vs H Q _ => ∃ (p t ta : Addr) (ws S : List Wd) (L : Nat), vs = [.ref p, sV (bgn (ws.headD [])), .ref ta] ∧ WebAt CW H p ws L t ∧ RingOk ws ∧ RingOrd ws S ∧ H ta = some (.lst (sL (treeL ws S))) ∧ ∀ H', Same H H' → Q (.bl true) H'
theorem head_mem {ws : List Wd} {L : Nat} (W : WebOk ws L) : ws.headD [] ∈ ws ∧ ws.head? = some (ws.headD []) := by
  match ws, W.ne with
  | x :: r, _ => exact ⟨List.mem_cons_self .., rfl⟩
theorem home_all {ws S : List Wd} {L : Nat} (W : WebOk ws L) (ok : RingOk ws) (o : RingOrd ws S) {v : Wd} (hv : v ∈ wo (pcs ws) (bgn (ws.headD []))) :
    decide (hops bgn enn (bgn (ws.headD [])) S (wo (pcs ws) (bgn (ws.headD []))).length v = bgn (ws.headD [])) = true := by
  refine decide_eq_true ?_
  obtain ⟨x, hx, e⟩ := gone_ne ok o.perm (mem_wo.mp hv).1
  obtain ⟨A, B, eS⟩ := List.append_of_mem hx
  have hw := o.walk (ws.headD []) (by rw [o.head]; exact (head_mem W).2)
  rw [eS] at hw ⊢
  obtain ⟨m, _, w2⟩ := isWalk_split hw
  have em : m = v := by rw [← e]; exact w2.1.symm
  rw [em] at w2
  refine hops_ok (pcs_nd ws) _ A (x :: B) v ?_ w2 fun y hy => bgn_pcs (o.perm.mem_iff.mp (by rw [eS]; exact List.mem_append_right _ hy))
  unfold MW.cnt wo
  rw [← List.countP_eq_length_filter, ← List.countP_eq_length_filter]
  refine List.countP_mono_left fun k _ h => ?_
  exact decide_eq_true (of_decide_eq_true h).1
theorem ok_is_tree (T : Txt K mg CW CD) : Df P w K mg base 4 "is_tree" ["web", "piece", "tree"] (spTree CW) := by
  refine df_of T.d_is_tree sc_is_tree bd_is_tree (fun vs H Q E h => ?_) (fun f cdv A outer s H vs Q E hr h => ?_)
  · obtain ⟨p, t, ta, ws, S, L, rfl, _⟩ := h
    rfl
  · obtain ⟨p, t, ta, ws, S, L, rfl, W, ok, o, hta, q⟩ := h
    have hu := hu_of hr
    have hhm := head_mem W.ok
    have hpc := W.ok.pc
    have hasc := treeL_asc W.ok ok o.perm
    have hbg := treeL_bgn ok o.perm
    have hwl := wo_length (pcs_nd ws) (bgn_pcs hhm.1)
    have hlen : (treeL ws S).length ≤ 8 := by
      have : (treeL ws S).length = (wo (pcs ws) (bgn (ws.headD []))).length := by rw [← hbg, List.length_map]
      omega
    have htw : ∀ x ∈ treeL ws S, x ∈ ws := fun x hx => by
      obtain ⟨v, hv, e⟩ := List.mem_map.mp hx
      rw [← e]
      exact o.perm.mem_iff.mp (lastW_spec (gone_ne ok o.perm (mem_wo.mp hv).1)).2.1
    have hlo : Lo (treeL ws S) := fun x hx => sg_lo W.ok x (htw x hx)
    refine ⟨_, (pss_cons (ps_set (i := 3) sc_is_tree.nd rfl (Or.inl rfl) (pe_fn (ok_ways_toward T) hr (pa_cons (pv 0) (pa_cons (pv 1) pa_nil))))
    (pss_cons (ps_if (PW.pt (pw_or (pt_cmpR (op_neW hr.units) (pe_callTy call_list_of (by rfl) T.n_list (by decide +kernel) (pa_cons (pv 2) pa_nil)) (pe_callB cr_sortW (by rfl) T.n_sorted (by decide +kernel) (pa_cons (pv 2) pa_nil)) (nomark _)) (pw_or1 (pt_cmpR (op_neW hr.units) (pe_lc (own := [("word", 5)]) (g := gName 5) rfl sc_is_tree.nd (pi_list (pv 2)) (blkOk_by (own := [("word", 5)]) (N := ["web", "piece", "tree", "ways", "chosen", "word", "text"]) (sc := defScope s_is_tree) (by decide +kernel)) (fun _ _ _ _ _ => pg_name (i := 5) sc_is_tree.nd rfl (Or.inl rfl)) (fun _ _ _ _ _ => pts_nil) (fun _ _ _ _ _ => (pe_fn (ok_begin_of T) hr (pa_cons (pv 5) pa_nil)))) (pe_callB (cr_sortDW rfl) (by rfl) T.n_sorted (by decide +kernel) (pa_cons (pv 3) pa_nil)) (nomark _)))))
    (pss_one (ps_ret pe_bl))
    pss_nil)
    (pss_cons (ps_set (i := 4) sc_is_tree.nd rfl (Or.inr rfl) pe_dnewK)
    (pss_cons (ps_for PassesOwn.never rfl (pi_list (pv 2)) (pg_name (i := 5) sc_is_tree.nd rfl (Or.inl rfl))
    (pss_cons (ps_if (pt_cmpR op_notInW (pv 5) (pe_fld (pv 0) rfl) rfl)
    (pss_one (ps_ret pe_bl))
    pss_nil)
    (pss_one (ps_dput hu (pv 4) (pe_fn (ok_begin_of T) hr (pa_cons (pv 5) pa_nil)) (pv 5) rfl))))
    (pss_one (ps_ret (pe_callB (cr_all rfl) (by rfl) T.n_all (by decide +kernel) (pa_cons (pe_lock (pe_lc (own := [("text", 6)]) (g := gName 6) rfl sc_is_tree.nd (pi_keys (pv 4)) (blkOk_by (own := [("text", 6)]) (N := ["web", "piece", "tree", "ways", "chosen", "word", "text"]) (sc := defScope s_is_tree) (by decide +kernel)) (fun _ _ _ _ _ => pg_name (i := 6) sc_is_tree.nd rfl (Or.inl rfl)) (fun _ _ _ _ _ => pts_nil) (fun _ _ _ _ _ => (pe_fn (ok_comes_to T) hr (pa_cons (pv 4) (pa_cons (pv 6) (pa_cons (pv 1) pa_nil))))))) pa_nil)))))))), ?_⟩
    refine ⟨_, rfl, _, rfl, p, t, ws, L, _, rfl, W, bgn_pcs hhm.1, fun d H1 g s1 n1 e1 hg => ?_⟩
    have hta1 := s1 _ _ hta
    refine ⟨_, rfl, ta, _, rfl, .inl (SqL.of hta1), fun l nl => ?_⟩
    have s2 := same_upd (o := .lst (sL (treeL ws S))) nl
    refine ⟨_, rfl, ta, treeL ws S, rfl, SqL.of (s2 _ _ hta1), asc_nd hasc, by omega, fun y ny => ?_⟩
    rw [srt_self hasc]
    have s3 := s2.trans (same_upd (o := .lst (sL (treeL ws S))) ny)
    refine ⟨l, y, treeL ws S, treeL ws S, rfl, rfl, .inl ⟨SqL.of ((same_upd ny) _ _ upd_same), SqL.of upd_same⟩, hlo, hlo, ?_⟩
    refine ⟨_, rfl, iteFe (by show (if true = true then !decide (treeL ws S = treeL ws S) else _) = false; rw [if_pos rfl, decide_eq_true rfl]; rfl) ?_⟩
    have hta2 := s3 _ _ hta1
    refine ⟨_, rfl, ta, rfl, ⟨_, SqL.of hta2⟩, fun D nD => ?_⟩
    refine lc_list (K := K) (a := ta) (xs := sL (treeL ws S)) (fun i H' => Same (upd (upd H1 l (.lst (sL (treeL ws S)))) y (.lst (sL (treeL ws S)))) H' ∧ H' D = some (.lst (sL (((treeL ws S).take i).map bgn)))) ⟨same_upd nD, upd_same⟩ (fun i H' _ h => SqL.of (h.1 _ _ hta2)) (fun i x H' hx ⟨hs6, hD⟩ => ?_) (fun H' ⟨hs6, hD⟩ => ?_)
    · obtain ⟨v, hv, rfl⟩ := sL_at hx
      have hvm := List.mem_of_getElem? hv
      refine ⟨rfl, ?_⟩
      unfold tYes; dsimp only
      rw [if_pos rfl]
      refine ⟨_, rfl, v, rfl, w1000 W.ok (htw v hvm), _, hD, ?_, same_chg hs6 nD, ?_⟩
      · rw [sL_len, List.length_map, List.length_take]; exact small1000 (by omega)
      · rw [upd_same, take_snoc hv, List.map_append, sL_app]; rfl
    · rw [sL_len, List.take_length, hbg] at hD
      have s4 := s3.trans hs6
      have e5 := s4 _ _ e1
      have hwo : srt (wo (pcs ws) (bgn (ws.headD []))) = wo (pcs ws) (bgn (ws.headD [])) := srt_self (List.Pairwise.filter _ (pcs_asc ws))
      have hwlo : Lo (wo (pcs ws) (bgn (ws.headD []))) := fun v hv c hc => by
        rw [← hbg] at hv
        obtain ⟨x, hx, e⟩ := List.mem_map.mp hv
        rw [← e] at hc
        exact hlo x hx c (List.dropLast_subset _ hc)
      refine ⟨_, rfl, d, _, _, rfl, .of e5, wo_nodup (pcs_nd ws), by omega, fun z nz => ?_⟩
      rw [hwo]
      refine ⟨D, z, _, _, rfl, rfl, .inl ⟨SqL.of ((same_upd nz) _ _ hD), SqL.of upd_same⟩, hwlo, hwlo, ?_⟩
      refine ⟨_, rfl, iteFe (by show (if true = true then !decide (wo (pcs ws) (bgn (ws.headD [])) = wo (pcs ws) (bgn (ws.headD []))) else _) = false; rw [if_pos rfl, decide_eq_true rfl]; rfl) ?_⟩
      have s5 := (s1.trans s4).trans (same_upd (o := .lst (sL (wo (pcs ws) (bgn (ws.headD []))))) nz)
      intro c nc
      have nc0 : H c = none := s5.free nc
      have s6 := s5.trans (same_upd (o := .dK []) nc)
      refine ⟨_, rfl, ta, rfl, ⟨_, SqL.of (s6 _ _ hta)⟩, ?_⟩
      refine for_list (K := K) (a := ta) (xs := sL (treeL ws S)) (fun i σ H' => ∃ z5, σ = [some (.ref p), some (sV (bgn (ws.headD []))), some (.ref ta), some (.ref d), some (.ref c), z5, none] ∧ Same H H' ∧ H' c = some (.dK (dkv (((treeL ws S).take i).map bgn) fun k => sV (lastW S k))))
        ⟨none, rfl, s6, upd_same⟩ (fun i σ H' _ h => ?_) (fun i x σ H' hx h => ?_) (fun σ H' h => ?_)
      · obtain ⟨_, _, hs, _⟩ := h
        exact SqL.of (hs _ _ hta)
      · obtain ⟨z5, rfl, hs, hd⟩ := h
        obtain ⟨v, hv, rfl⟩ := sL_at hx
        have hvm := List.mem_of_getElem? hv
        have Wi := W.same hs
        obtain ⟨dx, hob⟩ := Wi.ob
        refine ⟨_, rfl, _, rfl, p, CW, dx, _, _, rfl, hob, T.cWeb, T.aWeb_words, webF_words _ _, v, t, ws, rfl, rfl, .inr (SqT.of Wi.tp), _, rfl, ?_⟩
        refine iteFe (by show (if true = true then !decide (v ∈ ws) else _) = false; rw [if_pos rfl, decide_eq_true (htw v hvm)]; rfl) ?_
        have hbv : lastW S (bgn v) = v := by
          obtain ⟨k, hk, e⟩ := List.mem_map.mp hvm
          have := (lastW_spec (gone_ne ok o.perm (mem_wo.mp hk).1)).2.2
          rw [← e, this]
        refine ⟨_, rfl, _, rfl, _, rfl, v, rfl, w1000 W.ok (htw v hvm), c, _, rfl, dput_w hd ?_, ?_⟩
        · rw [List.length_map, List.length_take]; omega
        · have hnv : bgn v ∉ ((treeL ws S).take i).map bgn := fun hm => by
            obtain ⟨y, hy, e⟩ := List.mem_map.mp hm
            obtain ⟨j, hj, ej⟩ := List.getElem_of_mem hy
            rw [List.length_take] at hj
            have e3 : (treeL ws S)[j]? = some y := by rw [List.getElem_take] at ej; rw [List.getElem?_eq_getElem (by omega), ej]
            have hyb : lastW S (bgn y) = y := by
              obtain ⟨k, hk, e⟩ := List.mem_map.mp (List.mem_of_getElem? e3)
              have := (lastW_spec (gone_ne ok o.perm (mem_wo.mp hk).1)).2.2
              rw [← e, this]
            have eyv : y = v := by rw [← hyb, e, hbv]
            rw [eyv] at e3
            have := nd_ix (asc_nd hasc) e3 hv
            omega
          have ek : kadd (((treeL ws S).take i).map bgn) (bgn v) = ((treeL ws S).take (i + 1)).map bgn := by
            unfold kadd; rw [if_neg hnv, take_snoc hv, List.map_append]; rfl
          have ef : fup (fun k => sV (lastW S k)) (bgn v) (sV v) = fun k => sV (lastW S k) := by
            funext k
            unfold fup
            by_cases e : k = bgn v
            · rw [if_pos e, e, hbv]
            · rw [if_neg e]
          rw [ek, ef]
          exact ⟨some (sV v), rfl, same_chg hs nc0, upd_same⟩
      · obtain ⟨z5, rfl, hs, hd⟩ := h
        rw [sL_len, List.take_length, hbg] at hd
        refine ⟨c, _, hd, True.intro, fun od => ?_⟩
        refine ⟨_, rfl, c, od, rfl, .inl ⟨_, upd_same, fun D2 nD2 => ?_⟩⟩
        have hne : D2 ≠ c := fun e => by rw [e, upd_same] at nD2; cases nD2
        have nD0 : H D2 = none := by
          rw [upd_ne hne] at nD2
          exact hs.free nD2
        have hWm : ∀ k ∈ wo (pcs ws) (bgn (ws.headD [])), True := fun _ _ => trivial
        refine lc_keys (fun i H2 => (∀ b o, H b = some o → H2 b = some o) ∧ H2 c = some (.frz od (.dK (dkv (wo (pcs ws) (bgn (ws.headD []))) fun k => sV (lastW S k)))) ∧ H2 D2 = some (.lst (((wo (pcs ws) (bgn (ws.headD []))).take i).map fun k => V.bl true)))
          ⟨fun b o e => ?_, by rw [upd_ne hne.symm, upd_same], upd_same⟩ (fun i H2 h => h.2.1) (fun i k x H2 hx h => ?_) (fun H2 h => ?_)
        · rw [upd_ne (ne_of_none e nD0), upd_ne (ne_of_none e nc0)]; exact hs b o e
        · obtain ⟨h1, h2, h3⟩ := h
          obtain ⟨v, hv, rfl, rfl⟩ := dkv_at hx
          have hvm := List.mem_of_getElem? hv
          have hWL := W.ok.hi
          refine ⟨rfl, ?_⟩
          unfold tYes; dsimp only
          rw [if_pos rfl]
          refine ⟨_, rfl, _, rfl, _, rfl, c, S, _, v, bgn (ws.headD []), rfl, .inr ⟨od, h2⟩, by omega, fun x hx => w1000 W.ok (o.perm.mem_iff.mp hx), fun k => ?_, ?_⟩
          · rw [mem_wo]
            constructor
            · rintro ⟨a, b⟩
              exact ⟨b, gone_ne ok o.perm a⟩
            · rintro ⟨a, x, hx, e⟩
              exact ⟨by rw [← e]; exact bgn_pcs (o.perm.mem_iff.mp hx), a⟩
          · rw [home_all W.ok ok o hvm]
            refine ⟨_, h3, ?_, fun b o e => ?_, ?_, ?_⟩
            · rw [List.length_map, List.length_take]; exact small1000 (by omega)
            · rw [upd_ne (ne_of_none e nD0)]; exact h1 b o e
            · rw [upd_ne hne.symm]; exact h2
            · rw [upd_same, take_snoc hv, List.map_append]; rfl
        · obtain ⟨h1, h2, h3⟩ := h
          rw [dkv_len, List.take_length] at h3
          refine ⟨h2, D2, (wo (pcs ws) (bgn (ws.headD []))).map fun k => true, rfl, SqL.of (by rw [upd_ne hne, h3, List.map_map]; rfl), ?_⟩
          have eall : ((wo (pcs ws) (bgn (ws.headD []))).map fun k => true).all id = true := by simp
          show Q (.bl (((wo (pcs ws) (bgn (ws.headD []))).map fun k => true).all id)) _
          rw [eall]
          refine q _ fun b o e => ?_
          by_cases hb : b = c
          · exfalso; rw [hb, nc0] at e; cases e
          · rw [upd_ne hb]; exact h1 b o e
end
end Tw
namespace Tw
open PySem PySem.Spec PyProof.Rows L2 MT MW
section
variable {P : Program} {w : World} {K : PySem.W.Frag} {mg : Str → Option Value} {base : Heap} {CW CD : Addr}
open MD
/-! ### the ways of a ring's parts -/
/-- lists of words by pieces, each its own -/
structure WaysAt (H0 H : Hp) (d : Addr) (ks : List Wd) (g : Wd → Addr) (c : Wd → List Wd) : Prop where
  hd : H d = some (.dK (dkv ks fun k => .ref (g k)))
  inj : ∀ k ∈ ks, ∀ j ∈ ks, g k = g j → k = j
  nod : ∀ k ∈ ks, g k ≠ d
  fresh : ∀ k ∈ ks, H0 (g k) = none
  cont : ∀ k ∈ ks, H (g k) = some (.lst (sL (c k)))
theorem WaysAt.same {H0 H H' : Hp} {d : Addr} {ks : List Wd} {g : Wd → Addr} {c : Wd → List Wd} (B : WaysAt H0 H d ks g c) (s : Same H H') : WaysAt H0 H' d ks g c :=
  ⟨s _ _ B.hd, B.inj, B.nod, B.fresh, fun k hk => s _ _ (B.cont k hk)⟩
theorem WaysAt.add {H0 H : Hp} {d r : Addr} {ks : List Wd} {g : Wd → Addr} {c : Wd → List Wd} {v : Wd} (B : WaysAt H0 H d ks g c) (hv : v ∉ ks) (nr : H r = none) (nr0 : H0 r = none) :
    WaysAt H0 (upd (upd H r (.lst (sL (c v)))) d (.dK (dkv (kadd ks v) (fup (fun k => .ref (g k)) v (.ref r))))) d (ks ++ [v]) (fup g v r) c := by
  have nrd : r ≠ d := (ne_of_none B.hd nr).symm
  have fl : ∀ k ∈ ks, k ≠ v := fun k hk e => hv (e ▸ hk)
  have gne : ∀ k ∈ ks, g k ≠ r := fun k hk => ne_of_none (B.cont k hk) nr
  have ek : kadd ks v = ks ++ [v] := by unfold kadd; rw [if_neg hv]
  refine ⟨by rw [upd_same, fup_ref, ek], fun k hk j hj e => ?_, fun k hk => ?_, fun k hk => ?_, fun k hk => ?_⟩
  · rcases List.mem_append.mp hk with hk1 | hk1
    · rcases List.mem_append.mp hj with hj1 | hj1
      · rw [fup_ne _ _ (fl k hk1), fup_ne _ _ (fl j hj1)] at e; exact B.inj k hk1 j hj1 e
      · have e2 := List.mem_singleton.mp hj1
        rw [fup_ne _ _ (fl k hk1), e2, fup_same] at e; exact absurd e (gne k hk1)
    · have e2 := List.mem_singleton.mp hk1
      rcases List.mem_append.mp hj with hj1 | hj1
      · rw [fup_ne _ _ (fl j hj1), e2, fup_same] at e; exact absurd e.symm (gne j hj1)
      · rw [e2]; exact (List.mem_singleton.mp hj1).symm
  · rcases List.mem_append.mp hk with hk | hk
    · rw [fup_ne _ _ (fl k hk)]; exact B.nod k hk
    · rw [List.mem_singleton.mp hk, fup_same]; exact nrd
  · rcases List.mem_append.mp hk with hk | hk
    · rw [fup_ne _ _ (fl k hk)]; exact B.fresh k hk
    · rw [List.mem_singleton.mp hk, fup_same]; exact nr0
  · rcases List.mem_append.mp hk with hk | hk
    · rw [fup_ne _ _ (fl k hk), upd_ne (B.nod k hk), upd_ne (gne k hk)]; exact B.cont k hk
    · rw [List.mem_singleton.mp hk, fup_same, upd_ne nrd, upd_same]
theorem gone_srt {ws S : List Wd} {L : Nat} (W : WebOk ws L) (o : S.Perm ws) (v : Wd) : srt (gone bgn S v) = gone bgn ws v :=
  srt_eq (List.Pairwise.filter _ W.asc) fun x => by rw [mem_gone, mem_gone, o.mem_iff]
theorem not_mem_take {l : List Wd} (n : l.Nodup) {i : Nat} {v : Wd} (hv : l[i]? = some v) : v ∉ l.take i := fun hm => by
  obtain ⟨j, hj, ej⟩ := List.getElem_of_mem hm
  rw [List.length_take] at hj
  have e3 : l[j]? = some v := by rw [List.getElem_take] at ej; rw [List.getElem?_eq_getElem (by omega), ej]
  have := nd_ix n e3 hv
  omega
theorem dropLast_last {l : List Wd} {x : Wd} (h : l.getLast? = some x) : l.dropLast ++ [x] = l := by
  have hp : l ≠ [] := fun e => by rw [e] at h; cases h
  rw [List.getLast?_eq_some_getLast hp] at h
  rw [← Option.some.inj h, List.dropLast_concat_getLast]
def spWaysOf (CW : Addr) : Sp := fun vs H Q _ => ∃ (p t ta oa : Addr) (ws S : List Wd) (L : Nat) (f : Wd → Addr), vs = [.ref p, .ref ta, .ref oa] ∧ WebAt CW H p ws L t ∧ RingOk ws ∧ RingOrd ws S ∧ H ta = some (.lst (sL (treeL ws S))) ∧ OrdAt H oa ws S (pcs ws) f ∧
  ∀ (H' : Hp) (d : Addr) (g : Wd → Addr), Same H H' → H d = none → WaysAt H H' d (pcs ws) g (gone bgn S) → Q (.ref d) H'
theorem ok_ways_of (T : Txt K mg CW CD) : Df P w K mg base 5 "ways_of" ["web", "tree", "orders"] (spWaysOf CW) := by
  refine df_of T.d_ways_of sc_ways_of bd_ways_of (fun vs H Q E h => ?_) (fun f cdv A outer s H vs Q E hr h => ?_)
  · obtain ⟨p, t, ta, oa, ws, S, L, f, rfl, _⟩ := h
    rfl
  · obtain ⟨p, t, ta, oa, ws, S, L, f, rfl, W, ok, o, hta, OB, q⟩ := h
    have hu := hu_of hr
    have hhm := head_mem W.ok
    have hpc := W.ok.pc
    have hfew := W.ok.few
    have hhl := w1000 W.ok hhm.1
    have hlo := sg_lo W.ok
    have hix : ∀ (l : List Wd), l = ws → atI (sL l) 0 = some (sV (ws.headD [])) := fun l e => by
      subst e
      exact at_of (j := 0) rfl (sL_get (by rw [← List.head?_eq_getElem?]; exact hhm.2))
    refine ⟨_, (pss_cons (ps_set (i := 3) sc_ways_of.nd rfl (Or.inl rfl) (pe_fn (ok_pieces T) hr (pa_cons (pv 0) pa_nil)))
    (pss_cons (ps_set (i := 4) sc_ways_of.nd rfl (Or.inl rfl) (pe_fn (ok_begin_of T) hr (pa_cons (pe_ix ix_tup (pe_fld (pv 0) rfl) pe_int (fun _ _ => rfl)) pa_nil)))
    (pss_cons (ps_if (PW.pt (pw_or (pt_not (pt_val (pe_fn (ok_is_tree T) hr (pa_cons (pv 0) (pa_cons (pv 4) (pa_cons (pv 1) pa_nil)))))) (pw_or1 (pt_cmpR op_ne (pe_callB call_len_seq (by rfl) T.n_len PySem.boot_len (pa_cons (pv 2) pa_nil)) (pe_callB call_len_seq (by rfl) T.n_len PySem.boot_len (pa_cons (pv 3) pa_nil)) (nomark _)))))
    (pss_one (ps_ret pe_non))
    pss_nil)
    (pss_cons (ps_set (i := 5) sc_ways_of.nd rfl (Or.inl rfl) pe_dnewK)
    (pss_cons (ps_for PassesOwn.never rfl (pi_list (pv 1)) (pg_name (i := 6) sc_ways_of.nd rfl (Or.inl rfl))
    (pss_one (ps_dput hu (pv 5) (pe_fn (ok_begin_of T) hr (pa_cons (pv 6) pa_nil)) (pe_lst (pa_cons (pv 6) pa_nil)) rfl)))
    (pss_cons (ps_set (i := 7) sc_ways_of.nd rfl (Or.inl rfl) pe_dnewK)
    (pss_cons (ps_for PassesOwn.never rfl (pi_zip (by rfl) T.n_zip (pa_cons (pv 3) (pa_cons (pv 2) pa_nil))) (pg_tup (by rfl) (pgs_cons (pg_name (i := 8) sc_ways_of.nd rfl (Or.inl rfl)) (pgs_cons (pg_name (i := 9) sc_ways_of.nd rfl (Or.inl rfl)) pgs_nil)))
    (pss_cons (ps_if (pt_cmpR op_eq (pv 8) (pv 4) (nomark _))
    (pss_one (ps_dput hu (pv 7) (pv 8) (pe_op op_cat (pe_lst (pa_cons (pe_ix ix_tup (pe_fld (pv 0) rfl) pe_int (fun _ _ => rfl)) pa_nil)) (pe_callTy call_list_of (by rfl) T.n_list (by decide +kernel) (pa_cons (pv 9) pa_nil))) rfl))
    (pss_one (ps_dput hu (pv 7) (pv 8) (pe_op op_cat (pe_callTy call_list_of (by rfl) T.n_list (by decide +kernel) (pa_cons (pv 9) pa_nil)) (pe_dget hu (pv 5) (pv 8) (fun _ _ => rfl))) rfl)))
    (pss_one (ps_if (pt_cmpR (op_neW hr.units) (pe_callB cr_sortW (by rfl) T.n_sorted (by decide +kernel) (pa_cons (pe_dget hu (pv 7) (pv 8) (fun _ _ => rfl)) pa_nil)) (pe_fn (ok_outs T) hr (pa_cons (pv 0) (pa_cons (pv 8) pa_nil))) (nomark _))
    (pss_one (ps_ret pe_non))
    pss_nil))))
    (pss_one (ps_ret (pv 7)))))))))), ?_⟩
    refine ⟨_, rfl, p, t, ws, L, rfl, W, fun q1 H1 s1 n1 e1 => ?_⟩
    have W1 := W.same s1
    obtain ⟨dx, hob⟩ := W1.ob
    refine ⟨_, rfl, p, CW, dx, _, _, rfl, hob, T.cWeb, T.aWeb_words, webF_words _ _, t, sL ws, 0, _, rfl, rfl, SqT.of W1.tp, hix ws rfl, ws.headD [], rfl, hhl, ?_⟩
    refine ⟨_, rfl, _, rfl, _, rfl, p, t, ta, ws, S, L, rfl, W1, ok, o, s1 _ _ hta, fun H2 s2 => ⟨true, rfl, iteFe rfl ?_⟩⟩
    have s12 := s1.trans s2
    have e2 := s2 _ _ e1
    refine ⟨_, rfl, oa, _, rfl, .inl (SqL.of (s12 _ _ OB.top)), _, rfl, q1, _, rfl, .inl (SqL.of e2), rfl, _, rfl, ?_⟩
    refine iteFe (by rw [sL_len, List.length_map, decide_eq_true rfl]; rfl) ?_
    intro ld nld
    have s3 := s12.trans (same_upd (o := .dK []) nld)
    have nld0 : H ld = none := s12.free nld
    have tlen : (treeL ws S).length ≤ 8 := by
      have := treeL_bgn ok o.perm
      have h2 : (treeL ws S).length = (wo (pcs ws) (bgn (ws.headD []))).length := by rw [← this, List.length_map]
      have := wo_length (pcs_nd ws) (bgn_pcs hhm.1)
      omega
    have htw : ∀ x ∈ treeL ws S, x ∈ ws ∧ lastW S (bgn x) = x := fun x hx => by
      obtain ⟨v, hv, e⟩ := List.mem_map.mp hx
      have := lastW_spec (gone_ne ok o.perm (mem_wo.mp hv).1)
      rw [← e]
      exact ⟨o.perm.mem_iff.mp this.2.1, by rw [this.2.2]⟩
    have hq2 : ld ≠ q1 := (ne_of_none e2 nld).symm
    refine ⟨_, rfl, ta, rfl, ⟨_, SqL.of (s3 _ _ hta)⟩, ?_⟩
    refine for_list (K := K) (a := ta) (xs := sL (treeL ws S)) (fun i σ H' => ∃ z6 ks gl, σ = [some (.ref p), some (.ref ta), some (.ref oa), some (.ref q1), some (sV (bgn (ws.headD []))), some (.ref ld), z6, none, none, none] ∧ Same H H' ∧ H' q1 = some (.lst (sL (pcs ws))) ∧ H' ld = some (.dK (dkv ks fun k => .ref (gl k))) ∧ ks.length ≤ i ∧ (∀ k, k ∈ ks ↔ ∃ x ∈ (treeL ws S).take i, bgn x = k) ∧ ∀ k ∈ ks, H' (gl k) = some (.lst [sV (lastW S k)]) ∧ gl k ≠ ld)
      ⟨none, [], fun _ => ld, rfl, s3, by rw [upd_ne hq2.symm]; exact e2, upd_same, Nat.le_refl _, fun k => by simp, fun k hk => (by cases hk)⟩ (fun i σ H' _ h => ?_) (fun i x σ H' hx h => ?_) (fun σ H' h => ?_)
    · obtain ⟨_, _, _, _, hs, _⟩ := h
      exact SqL.of (hs _ _ hta)
    · obtain ⟨z6, ks, gl, rfl, hs, hq, hld, hkl, hkm, hg⟩ := h
      obtain ⟨v, hv, rfl⟩ := sL_at hx
      have hvm := List.mem_of_getElem? hv
      have hi : i < (treeL ws S).length := by
        by_cases g : i < (treeL ws S).length
        · exact g
        · rw [List.getElem?_eq_none (by omega)] at hv; cases hv
      have hb := htw v hvm
      refine ⟨_, rfl, (by show 1 ≤ sizeLine; decide), fun l nl => ?_⟩
      have nlq : q1 ≠ l := ne_of_none hq nl
      have nlld : l ≠ ld := (ne_of_none hld nl).symm
      refine ⟨_, rfl, _, rfl, v, rfl, w1000 W.ok hb.1, ld, _, rfl, dput_w ((same_upd nl) _ _ hld) (by omega), ?_⟩
      rw [fup_ref]
      refine ⟨some (sV v), kadd ks (bgn v), fup gl (bgn v) l, rfl, same_chg (hs.trans (same_upd nl)) nld0, by rw [upd_ne hq2.symm, upd_ne nlq]; exact hq, upd_same, Nat.le_trans kadd_len (by omega), fun k => ?_, fun k hk => ?_⟩
      · rw [mem_kadd, hkm]
        constructor
        · rintro (⟨x, hx, e⟩ | e)
          · exact ⟨x, (mem_take_succ hv x).mpr (.inl hx), e⟩
          · exact ⟨v, (mem_take_succ hv v).mpr (.inr rfl), e.symm⟩
        · rintro ⟨x, hx, e⟩
          rcases (mem_take_succ hv x).mp hx with hx | rfl
          · exact .inl ⟨x, hx, e⟩
          · exact .inr e.symm
      · by_cases e : k = bgn v
        · subst e
          rw [fup_same, upd_ne nlld, upd_same, hb.2]
          exact ⟨rfl, nlld⟩
        · rw [fup_ne _ _ e]
          have hk' : k ∈ ks := (mem_kadd.mp hk).resolve_right e
          have := hg k hk'
          rw [upd_ne this.2, upd_ne (ne_of_none this.1 nl)]
          exact this
    · obtain ⟨z6, ks, gl, rfl, hs, hq, hld, hkl, hkm, hg⟩ := h
      rw [sL_len] at hkm
      rw [List.take_length] at hkm
      have hkin : ∀ v ∈ pcs ws, v ≠ bgn (ws.headD []) → v ∈ ks := fun v hv hn => by
        rw [hkm]
        have hw : v ∈ wo (pcs ws) (bgn (ws.headD [])) := mem_wo.mpr ⟨hv, hn⟩
        rw [← treeL_bgn ok o.perm] at hw
        exact List.mem_map.mp hw
      intro fd nfd
      have nfd0 : H fd = none := hs.free nfd
      have s4 : Same H' (upd H' fd (.dK [])) := same_upd nfd
      refine ⟨_, rfl, _, rfl, q1, oa, _, _, rfl, SqL.of (s4 _ _ hq), SqL.of ((hs.trans s4) _ _ OB.top), ?_⟩
      refine RZ.for_zipL (K := K) (a := q1) (b := oa) (xs := sL (pcs ws)) (ys := (pcs ws).map fun v => V.ref (f v)) (by rw [sL_len, List.length_map]) (fun i σ H6 => ∃ z8 z9 g, σ = [some (.ref p), some (.ref ta), some (.ref oa), some (.ref q1), some (sV (bgn (ws.headD []))), some (.ref ld), z6, some (.ref fd), z8, z9] ∧ Same H' H6 ∧ WaysAt H H6 fd ((pcs ws).take i) g (gone bgn S))
        ⟨none, none, fun _ => fd, rfl, s4, upd_same, fun k hk => (by cases hk), fun k hk => (by cases hk), fun k hk => (by cases hk), fun k hk => (by cases hk)⟩ (fun i σ H6 h => ?_) (fun i x y u σ H6 hx hy h nu => ?_) (fun σ H6 h => ?_)
      · obtain ⟨_, _, _, _, hs6, _⟩ := h
        exact ⟨SqL.of (hs6 _ _ hq), SqL.of ((hs.trans hs6) _ _ OB.top)⟩
      · obtain ⟨z8, z9, g, rfl, hs6, B⟩ := h
        obtain ⟨v, hv, rfl⟩ := sL_at hx
        have hvm := List.mem_of_getElem? hv
        have hi : i < (pcs ws).length := by
          by_cases g : i < (pcs ws).length
          · exact g
          · rw [List.getElem?_eq_none (by omega)] at hv; cases hv
        have ey : y = .ref (f v) := by rw [List.getElem?_map, hv] at hy; exact (Option.some.inj hy).symm
        subst ey
        have hvn := not_mem_take (pcs_nd ws) hv
        have su : Same H6 (upd H6 u (.tup [sV v, .ref (f v)])) := same_upd nu
        have B1 := B.same su
        have s7 := hs6.trans su
        have hof : ∀ {H7 : Hp}, Same H' H7 → H7 (f v) = some (.tup (sL (ordL ws S v))) := fun h => (hs.trans h) _ _ (OB.cont v hvm)
        have glen : ∀ v, (gone bgn S v).length ≤ 16 := fun v => by
          have := List.length_filter_le (fun x => decide (bgn x = v)) S
          have h2 := o.perm.length_eq
          unfold gone; omega
        have gsub : ∀ x ∈ gone bgn S v, x ∈ ws := fun x hx => o.perm.mem_iff.mp (mem_gone.mp hx).1
        have gnd : (gone bgn S v).Nodup := (o.perm.nodup_iff.mpr W.ok.nd).filter _
        refine ⟨u, _, rfl, SqT.of upd_same, rfl, _, _, rfl, _, _, rfl, rfl, ?_⟩
        refine ⟨_, rfl, _, rfl, rfl, _, rfl, ?_⟩
        rw [dec_sV]
        by_cases e : v = bgn (ws.headD [])
        · refine iteTe (decide_eq_true e) ?_
          have W7 := W.same (hs.trans s7)
          obtain ⟨dx7, hob7⟩ := W7.ob
          refine ⟨_, rfl, p, CW, dx7, _, _, rfl, hob7, T.cWeb, T.aWeb_words, webF_words _ _, t, sL ws, 0, _, rfl, rfl, SqT.of W7.tp, hix ws rfl, (by show 1 ≤ sizeLine; decide), fun c nc => ?_⟩
          have sc := same_upd (o := .lst [sV (ws.headD [])]) nc
          have s8 := s7.trans sc
          refine ⟨_, rfl, f v, _, rfl, .inr (SqT.of (hof s8)), fun l nl => ?_⟩
          have sl := same_upd (o := .lst (sL (ordL ws S v))) nl
          have s9 := s8.trans sl
          have eg : [sV (ws.headD [])] ++ sL (ordL ws S v) = sL (gone bgn S v) := by
            unfold ordL; rw [if_pos e]
            obtain ⟨x0, r0, e0, hx0, _⟩ := rg_of o W.ok
            have e1 : ws.headD [] = x0 := Option.some.inj (hhm.2.symm.trans hx0)
            rw [e1] at e
            rw [e0, e1, e]
            unfold gone
            rw [List.filter_cons_of_pos (by simp)]; rfl
          refine ⟨c, l, _, _, rfl, rfl, sl _ _ upd_same, upd_same, ?_, fun r nr => ?_⟩
          · have h1 : ([sV (ws.headD [])] ++ sL (ordL ws S v)).length = (gone bgn S v).length := by rw [eg, sL_len]
            rw [List.length_append] at h1
            have := glen v
            rw [h1]
            exact Nat.le_of_lt (small1000 (by omega))
          rw [eg]
          have B2 := (B1.same sc).same sl
          have nr0 : H r = none := (hs.trans s9).free nr
          have sr := same_upd (o := .lst (sL (gone bgn S v))) nr
          have B3 := B2.add hvn nr nr0
          refine ⟨_, rfl, _, rfl, fd, _, rfl, dput_w (sr _ _ B2.hd) (by rw [List.length_take]; omega), ?_⟩
          have s10 : Same H' (upd (upd _ r (.lst (sL (gone bgn S v)))) fd (.dK (dkv (kadd ((pcs ws).take i) v) (fup (fun k => .ref (g k)) v (.ref r))))) := same_chg (s9.trans sr) nfd
          have hvin : v ∈ (pcs ws).take i ++ [v] := List.mem_append_right _ (List.mem_singleton.mpr rfl)
          have hgr := B3.cont v hvin
          rw [fup_same] at hgr
          refine ⟨_, rfl, _, rfl, fd, _, rfl, dget_in (.of upd_same) (mem_kadd.mpr (.inr rfl)), r, gone bgn S v, by rw [fup_same], SqL.of hgr, gnd, by have := glen v; omega, fun sa nsa => ?_⟩
          rw [gone_srt W.ok o.perm v]
          have ssa := same_upd (o := .lst (sL (gone bgn ws v))) nsa
          refine ⟨_, rfl, _, rfl, p, t, ws, L, v, rfl, (W.same (hs.trans s10)).same ssa, fun qa H9 sq nq eq => ?_⟩
          have glo : Lo (gone bgn ws v) := fun x hx => hlo x (mem_gone.mp hx).1
          refine ⟨sa, qa, _, _, rfl, rfl, .inl ⟨SqL.of (sq _ _ upd_same), SqL.of eq⟩, glo, glo, _, rfl, ?_⟩
          refine iteFe (by show (if true = true then !decide (gone bgn ws v = gone bgn ws v) else _) = false; rw [if_pos rfl, decide_eq_true rfl]; rfl) ?_
          refine ⟨some (sV v), some (.ref (f v)), fup g v r, rfl, (s10.trans ssa).trans sq, ?_⟩
          rw [take_snoc hv]
          exact (B3.same ssa).same sq
        · refine iteFe (decide_eq_false e) ?_
          refine ⟨_, rfl, f v, _, rfl, .inr (SqT.of (hof s7)), fun l nl => ?_⟩
          have sl := same_upd (o := .lst (sL (ordL ws S v))) nl
          have s9 := s7.trans sl
          have hl := hkin v hvm e
          have hlg := hg v hl
          have hls := lastW_spec (gone_ne ok o.perm hvm)
          have eg : sL (ordL ws S v) ++ [sV (lastW S v)] = sL (gone bgn S v) := by
            unfold ordL; rw [if_neg e]
            have h1 : [sV (lastW S v)] = sL [lastW S v] := rfl
            rw [h1, ← sL_app, dropLast_last hls.1]
          refine ⟨_, rfl, _, rfl, ld, _, rfl, dget_in (.of (s9 _ _ hld)) hl, l, gl v, _, _, rfl, rfl, upd_same, s9 _ _ hlg.1, ?_, fun r nr => ?_⟩
          · have h1 : (sL (ordL ws S v) ++ [sV (lastW S v)]).length = (gone bgn S v).length := by rw [eg, sL_len]
            rw [List.length_append] at h1
            have := glen v
            rw [h1]
            exact Nat.le_of_lt (small1000 (by omega))
          rw [eg]
          have B2 := B1.same sl
          have nr0 : H r = none := (hs.trans s9).free nr
          have sr := same_upd (o := .lst (sL (gone bgn S v))) nr
          have B3 := B2.add hvn nr nr0
          refine ⟨_, rfl, _, rfl, fd, _, rfl, dput_w (sr _ _ B2.hd) (by rw [List.length_take]; omega), ?_⟩
          have s10 : Same H' (upd (upd _ r (.lst (sL (gone bgn S v)))) fd (.dK (dkv (kadd ((pcs ws).take i) v) (fup (fun k => .ref (g k)) v (.ref r))))) := same_chg (s9.trans sr) nfd
          have hvin : v ∈ (pcs ws).take i ++ [v] := List.mem_append_right _ (List.mem_singleton.mpr rfl)
          have hgr := B3.cont v hvin
          rw [fup_same] at hgr
          refine ⟨_, rfl, _, rfl, fd, _, rfl, dget_in (.of upd_same) (mem_kadd.mpr (.inr rfl)), r, gone bgn S v, by rw [fup_same], SqL.of hgr, gnd, by have := glen v; omega, fun sa nsa => ?_⟩
          rw [gone_srt W.ok o.perm v]
          have ssa := same_upd (o := .lst (sL (gone bgn ws v))) nsa
          refine ⟨_, rfl, _, rfl, p, t, ws, L, v, rfl, (W.same (hs.trans s10)).same ssa, fun qa H9 sq nq eq => ?_⟩
          have glo : Lo (gone bgn ws v) := fun x hx => hlo x (mem_gone.mp hx).1
          refine ⟨sa, qa, _, _, rfl, rfl, .inl ⟨SqL.of (sq _ _ upd_same), SqL.of eq⟩, glo, glo, _, rfl, ?_⟩
          refine iteFe (by show (if true = true then !decide (gone bgn ws v = gone bgn ws v) else _) = false; rw [if_pos rfl, decide_eq_true rfl]; rfl) ?_
          refine ⟨some (sV v), some (.ref (f v)), fup g v r, rfl, (s10.trans ssa).trans sq, ?_⟩
          rw [take_snoc hv]
          exact (B3.same ssa).same sq
      · obtain ⟨z8, z9, g, rfl, hs6, B⟩ := h
        rw [sL_len, List.take_length] at B
        exact ⟨_, rfl, q H6 fd g (hs.trans hs6) nfd0 B⟩
end
end Tw
namespace Tw
open PySem PySem.Spec PyProof.Rows L2 MT MW
section
variable {P : Program} {w : World} {K : PySem.W.Frag} {mg : Str → Option Value} {base : Heap} {CW CD : Addr}
open MD
theorem walk_next : ∀ {l : List Wd} {h r : Wd}, isWalk bgn enn h l r → ∀ {k : Nat} {x y : Wd}, l[k]? = some x → l[k + 1]? = some y → bgn y = enn x
  | [], _, _, _, _, _, _, hx, _ => by cases hx
  | a :: l, h, r, hw, 0, x, y, hx, hy => by
    have e : a = x := Option.some.inj hx
    subst e
    match l, hw, hy with
    | b :: l, hw, hy =>
      have e : b = y := Option.some.inj hy
      subst e
      exact hw.2.1
  | a :: l, h, r, hw, k + 1, x, y, hx, hy => walk_next hw.2 (k := k) hx hy
theorem ix_first {x : Wd} {l : List Wd} : seqIndex? 0 (sL (x :: l)).length = some 0 := by
  unfold seqIndex?
  have : (decide ((0 : Int) ≤ 0) && decide ((0 : Int) < ((sL (x :: l)).length : Nat))) = true := by
    rw [sL_len, List.length_cons]; simp
  exact if_pos this
theorem WaysAt.put {H0 H : Hp} {d : Addr} {ks : List Wd} {g : Wd → Addr} {c c' : Wd → List Wd} {v : Wd} (B : WaysAt H0 H d ks g c) (hv : v ∈ ks) (hc : ∀ k, k ≠ v → c' k = c k) :
    WaysAt H0 (upd H (g v) (.lst (sL (c' v)))) d ks g c' := by
  refine ⟨by rw [upd_ne (B.nod v hv).symm]; exact B.hd, B.inj, B.nod, B.fresh, fun k hk => ?_⟩
  by_cases e : k = v
  · rw [e, upd_same]
  · rw [upd_ne fun z => e (B.inj k hk v hv z), hc k e]; exact B.cont k hk
def spRingOf (CW : Addr) : Sp := fun vs H Q _ => ∃ (p t ta oa : Addr) (ws S : List Wd) (L : Nat) (f : Wd → Addr), vs = [.ref p, .ref ta, .ref oa] ∧ WebAt CW H p ws L t ∧ RingOk ws ∧ RingOrd ws S ∧ H ta = some (.lst (sL (treeL ws S))) ∧ OrdAt H oa ws S (pcs ws) f ∧
  ∀ (H' : Hp), Same H H' → Q (sV (rtx S)) H'
theorem ok_ring_of (T : Txt K mg CW CD) : Df P w K mg base 6 "ring_of" ["web", "tree", "orders"] (spRingOf CW) := by
  refine df_of T.d_ring_of sc_ring_of bd_ring_of (fun vs H Q E h => ?_) (fun f cdv A outer s H vs Q E hr h => ?_)
  · obtain ⟨p, t, ta, oa, ws, S, L, f, rfl, _⟩ := h
    rfl
  · obtain ⟨p, t, ta, oa, ws, S, L, f, rfl, W, ok, o, hta, OB, q⟩ := h
    have hu := hu_of hr
    have hhm := head_mem W.ok
    have hfew := W.ok.few
    have hhl := w1000 W.ok hhm.1
    have hpl := o.perm.length_eq
    obtain ⟨x0, r0, e0, hx0, R⟩ := rg_of o W.ok
    have eh : ws.headD [] = x0 := Option.some.inj (hhm.2.symm.trans hx0)
    refine ⟨_, (pss_cons (ps_set (i := 3) sc_ring_of.nd rfl (Or.inl rfl) (pe_fn (ok_why_no_ring T) hr (pa_cons (pv 0) pa_nil)))
    (pss_cons (ps_if (pt_cmpR op_notN (pv 3) pe_non (nomark _))
    (pss_one ps_never)
    pss_nil)
    (pss_cons (ps_set (i := 4) sc_ring_of.nd rfl (Or.inl rfl) (pe_fn (ok_ways_of T) hr (pa_cons (pv 0) (pa_cons (pv 1) (pa_cons (pv 2) pa_nil)))))
    (pss_cons (ps_if (pt_cmpR op_isN (pv 4) pe_non (nomark _))
    (pss_one ps_never)
    pss_nil)
    (pss_cons (ps_set (i := 5) sc_ring_of.nd rfl (Or.inl rfl) (pe_fn (ok_begin_of T) hr (pa_cons (pe_ix ix_tup (pe_fld (pv 0) rfl) pe_int (fun _ _ => rfl)) pa_nil)))
    (pss_cons (ps_set (i := 6) sc_ring_of.nd rfl (Or.inl rfl) pe_str)
    (pss_cons (ps_for PassesOwn.never rfl (pi_range1 (by rfl) T.n_range (pa_cons (pe_callB call_len_seq (by rfl) T.n_len PySem.boot_len (pa_cons (pe_fld (pv 0) rfl) pa_nil)) pa_nil)) (pg_name (i := 7) sc_ring_of.nd rfl (Or.inl rfl))
    (pss_cons (ps_set (i := 8) sc_ring_of.nd rfl (Or.inl rfl) (pe_bm PySem.F.plainAttrs_list PySem.F.slot_list_pop PySem.F.type_list_pop mt_popAt (pe_dget hu (pv 4) (pv 5) (fun _ _ => rfl)) (pa_cons pe_int pa_nil)))
    (pss_cons (ps_set (i := 6) sc_ring_of.nd rfl (Or.inl rfl) (pe_op op_add_str (pv 6) (pe_ix ix_str (pv 8) pe_int (fun _ _ => rfl))))
    (pss_one (ps_set (i := 5) sc_ring_of.nd rfl (Or.inl rfl) (pe_fn (ok_end_of T) hr (pa_cons (pv 8) pa_nil)))))))
    (pss_one (ps_ret (pv 6)))))))))), ?_⟩
    refine ⟨_, rfl, p, t, ws, L, rfl, W, fun _ H1 s1 => ?_, fun nok => absurd ok nok⟩
    refine ⟨_, rfl, rfl, _, rfl, iteFe rfl ?_⟩
    refine ⟨_, rfl, _, rfl, _, rfl, p, t, ta, oa, ws, S, L, f, rfl, W.same s1, ok, o, s1 _ _ hta, OB.same s1, fun H2 d g s2 nd B => ?_⟩
    refine ⟨_, rfl, rfl, _, rfl, iteFe rfl ?_⟩
    have s12 := s1.trans s2
    have W2 := W.same s12
    have nd0 : H d = none := s1.free nd
    obtain ⟨dx, hob⟩ := W2.ob
    refine ⟨_, rfl, p, CW, dx, _, _, rfl, hob, T.cWeb, T.aWeb_words, webF_words _ _, t, sL ws, 0, sV (ws.headD []), rfl, rfl, SqT.of W2.tp, at_of (j := 0) rfl (sL_get (by rw [← List.head?_eq_getElem?]; exact hhm.2)), ws.headD [], rfl, hhl, ?_⟩
    refine ⟨_, rfl, p, CW, dx, _, _, rfl, hob, T.cWeb, T.aWeb_words, webF_words _ _, t, _, rfl, .inr (SqT.of W2.tp), _, rfl, ?_, ?_, ?_⟩
    · rw [sL_len]; omega
    · rw [sL_len]; omega
    rw [sL_len]
    refine for_range (lo := 0) (n := ws.length) (fun k σ H' => ∃ here z7 z8, σ = [some (.ref p), some (.ref ta), some (.ref oa), some .non, some (.ref d), some (sV here), some (sV (rtx (S.take k))), z7, z8] ∧ Same H H' ∧ (∀ x, S[k]? = some x → here = bgn x) ∧ WaysAt H H' d (pcs ws) g (gone bgn (S.drop k)))
      ⟨bgn (ws.headD []), none, none, rfl, s12, fun x hx => by rw [eh]; rw [e0] at hx; exact congrArg bgn (Option.some.inj hx), ⟨B.hd, B.inj, B.nod, fun k hk => s1.free (B.fresh k hk), B.cont⟩⟩ (fun k σ H' hk h => ?_) (fun σ H' h => ?_)
    · obtain ⟨here, z7, z8, rfl, hs, hh, B2⟩ := h
      have hkS : k < S.length := by omega
      have hx : S[k]? = some S[k] := List.getElem?_eq_getElem hkS
      generalize S[k] = x at hx
      have hxm := List.mem_of_getElem? hx
      have hxw := o.perm.mem_iff.mp hxm
      have eh := hh x hx
      subst eh
      have hbp := bgn_pcs hxw
      have hgn := gone_next R.walk hx
      have hc := B2.cont _ hbp
      rw [hgn.1] at hc
      refine ⟨_, rfl, _, rfl, d, _, rfl, dget_in (.of B2.hd) hbp, .inl ⟨rfl, _, SqL.of hc⟩, g (bgn x), sL (x :: gone bgn (S.drop (k + 1)) (bgn x)), 0, 0, sV x, rfl, rfl, hc, by decide, by decide, ?_, rfl, ?_⟩
      · exact ix_first
      have B3 : WaysAt H (upd H' (g (bgn x)) (.lst (sL (gone bgn (S.drop (k + 1)) (bgn x))))) d (pcs ws) g (gone bgn (S.drop (k + 1))) := B2.put hbp fun v hv => (hgn.2 v hv).symm
      have hf : x[0]? = some (fsg x) := by
        have := W.ok.len x hxw
        have := W.ok.lo
        match x, this with
        | [], _ => exact absurd (show (0 : Nat) = L from ‹_›) (by omega)
        | c :: _, _ => rfl
      refine ⟨_, rfl, _, rfl, _, 0, fsg x, rfl, rfl, by rw [S_len]; exact Nat.le_of_lt (small1000 (w1000 W.ok hxw)), at_sg hf, _, _, rfl, rfl, ?_, ?_⟩
      · rw [S_len, rtx_len, List.length_take]
        exact Nat.le_of_lt (small1000 (show min k S.length + 1 ≤ 1000 by omega))
      refine ⟨_, rfl, x, rfl, w1000 W.ok hxw, ?_⟩
      refine ⟨enn x, some (V.int ((0 : Int) + k)), some (sV x), ?_, same_chg hs (B2.fresh _ hbp), fun y hy => (walk_next R.walk hx hy).symm, B3⟩
      have e1 : (⟨(rtx (S.take k)).toArray⟩ : Str) ++ ⟨#[fsg x]⟩ = ⟨(rtx (S.take (k + 1))).toArray⟩ := by
        have : (⟨#[fsg x]⟩ : Str) = ⟨([fsg x] : Wd).toArray⟩ := rfl
        rw [this, S_cat, take_snoc hx]
        unfold rtx
        rw [List.map_append]; rfl
      rw [e1]; rfl
    · obtain ⟨here, z7, z8, rfl, hs, hh, B2⟩ := h
      refine ⟨_, rfl, ?_⟩
      rw [← hpl, List.take_length]
      exact q H' hs
end
end Tw
namespace Tw
open PySem PySem.Spec PyProof.Rows L2 MT MW
section
variable {P : Program} {w : World} {K : PySem.W.Frag} {mg : Str → Option Value} {base : Heap} {CW CD : Addr}
open MD
/-! ### exchanges -/
def spAsk (CW : Addr) : Sp := fun vs H Q _ => ∃ (p t : Addr) (ws l : List Wd) (L : Nat), vs = [.ref p, sV (rtx l)] ∧ WebAt CW H p ws L t ∧ RingOrd ws l ∧ ∀ H', Same H H' → Q .non H'
theorem ok_ask_ring (T : Txt K mg CW CD) : Df P w K mg base 3 "ask_ring" ["web", "ring"] (spAsk CW) := by
  refine df_of T.d_ask_ring sc_ask_ring bd_ask_ring (fun vs H Q E h => ?_) (fun f cdv A outer s H vs Q E hr h => ?_)
  · obtain ⟨p, t, ws, l, L, rfl, _⟩ := h
    rfl
  · obtain ⟨p, t, ws, l, L, rfl, W, o, q⟩ := h
    refine ⟨_, (pss_one (ps_if (pt_not (pt_val (pe_fn (ok_is_ring T) hr (pa_cons (pv 0) (pa_cons (pv 1) pa_nil)))))
    (pss_one ps_never)
    pss_nil)), ?_⟩
    exact ⟨_, rfl, _, rfl, p, t, ws, l, L, rfl, W, o, fun H1 s1 => ⟨true, rfl, iteFe rfl (q H1 s1)⟩⟩
def spAlong (CW : Addr) : Sp := fun vs H Q _ => ∃ (p t : Addr) (ws l : List Wd) (L : Nat), vs = [.ref p, sV (rtx l)] ∧ WebAt CW H p ws L t ∧ RingOrd ws l ∧ ∀ q H', Same H H' → H q = none → H' q = some (.lst (sL (alng bgn l (bgn (ws.headD []))))) → Q (.ref q) H'
theorem ok_pieces_along (T : Txt K mg CW CD) : Df P w K mg base 2 "pieces_along" ["web", "ring"] (spAlong CW) := by
  refine df_of T.d_pieces_along sc_pieces_along bd_pieces_along (fun vs H Q E h => ?_) (fun f cdv A outer s H vs Q E hr h => ?_)
  · obtain ⟨p, t, ws, l, L, rfl, _⟩ := h
    rfl
  · obtain ⟨p, t, ws, l, L, rfl, W, o, q⟩ := h
    obtain ⟨x0, r0, e0, hx0, R⟩ := rg_of o W.ok
    have hhm := head_mem W.ok
    have eh : ws.headD [] = x0 := Option.some.inj (hhm.2.symm.trans hx0)
    have hpl := o.perm.length_eq
    have hfew := W.ok.few
    obtain ⟨dx, hob⟩ := W.ob
    refine ⟨_, (pss_cons (ps_setLc (i := 2) (own := [("window", 3)]) (g := gName 3) rfl sc_pieces_along.nd rfl rfl (sw_true rfl rfl rfl (by decide +kernel)) (pi_list (pe_fn (ok_windows T) hr (pa_cons (pv 1) (pa_cons (pe_fld (pv 0) rfl) (pa_cons pe_bl pa_nil))))) (blkOk_by (own := [("window", 3)]) (N := ["web", "ring", "found", "window"]) (sc := defScope s_pieces_along) (by decide +kernel)) (fun _ _ _ _ _ => pg_name (i := 3) sc_pieces_along.nd rfl (Or.inl rfl)) (fun _ _ _ _ _ => pts_nil) (fun _ _ _ _ _ => (pe_slice sl_str (pv 3) po_none (po_some (pe_un un_neg pe_int)))))
    (pss_one (ps_ret (pe_op op_cat (pv 2) (pe_lst (pa_cons (pe_ix ix_list (pv 2) pe_int (fun _ _ => rfl)) pa_nil)))))), ?_⟩
    refine ⟨_, rfl, _, rfl, p, CW, dx, _, _, rfl, hob, T.cWeb, T.aWeb_length, webF_length _ _, l, bgn x0, L, rfl, R, fun q1 H1 s1 n1 e1 => ?_⟩
    refine ⟨q1, rfl, ⟨_, SqL.of e1⟩, fun D nD => ?_⟩
    refine lc_list (K := K) (a := q1) (xs := sL l) (fun i H' => Same H1 H' ∧ H' D = some (.lst (sL ((l.take i).map bgn)))) ⟨same_upd nD, upd_same⟩ (fun i H' _ h => SqL.of (h.1 _ _ e1)) (fun i y H' hx ⟨hs, hD⟩ => ?_) (fun H' ⟨hs, hD⟩ => ?_)
    · obtain ⟨v, hv, rfl⟩ := sL_at hx
      have hvw := o.perm.mem_iff.mp (List.mem_of_getElem? hv)
      refine ⟨rfl, ?_⟩
      unfold tYes; dsimp only
      rw [if_pos rfl]
      refine ⟨_, rfl, _, rfl, (-1 : Int), rfl, _, rfl, by rw [S_len]; exact Nat.le_of_lt (small1000 (w1000 W.ok hvw)), _, hD, ?_, same_chg hs nD, ?_⟩
      · rw [sL_len, List.length_map, List.length_take]; exact small1000 (by omega)
      · rw [cut_bgn, upd_same, take_snoc hv, List.map_append, sL_app]; rfl
    · rw [sL_len, List.take_length] at hD
      have hz : (sL (l.map bgn))[0]? = some (sV (bgn x0)) := by rw [e0]; rfl
      refine ⟨_, rfl, _, rfl, D, _, _, _, rfl, rfl, SqL.of hD, at_of (j := 0) rfl hz, (by show 1 ≤ sizeLine; decide), fun c nc => ?_⟩
      have sc := same_upd (o := .lst [sV (bgn x0)]) nc
      refine ⟨D, c, _, _, rfl, rfl, sc _ _ hD, upd_same, ?_, fun r nr => ?_⟩
      · rw [sL_len, List.length_map]
        exact Nat.le_of_lt (small1000 (show l.length + 1 ≤ 1000 by omega))
      · have ea : sL (l.map bgn) ++ [sV (bgn x0)] = sL (alng bgn l (bgn (ws.headD []))) := by
          unfold alng; rw [eh, sL_app]; rfl
        rw [ea]
        have s2 := (s1.trans hs).trans sc
        exact q r _ (s2.trans (same_upd nr)) (s2.free nr) upd_same
/-- a deed's places -/
abbrev De := Nat × Nat × Nat × Nat
def deV (e : De) : List V := [.int (e.1 : Nat), .int (e.2.1 : Nat), .int (e.2.2.1 : Nat), .int (e.2.2.2 : Nat)]
abbrev dex {a : Type} (u : List a) (e : De) : List a := exch u e.1 e.2.1 e.2.2.1 e.2.2.2
structure Dok (n : Nat) (e : De) : Prop where
  a1 : 1 ≤ e.1
  ab : e.1 < e.2.1
  bc : e.2.1 ≤ e.2.2.1
  cd : e.2.2.1 < e.2.2.2
  dn : e.2.2.2 ≤ n
def spDone (K : PySem.W.Frag) : Sp := fun vs H Q _ => ∃ (t : Wd) (q : Addr) (e : De), vs = [sV t, .ref q] ∧ H q = some (.tup (deV e)) ∧ Dok t.length e ∧ t.length ≤ 100 ∧ Q (sV (dex t e)) H
theorem ok_done (T : Txt K mg CW CD) : Df P w K mg base 1 "done" ["ring", "deed"] (spDone K) := by
  refine df_of T.d_done sc_done bd_done (fun vs H Q E h => ?_) (fun f cdv A outer s H vs Q E hr h => ?_)
  · obtain ⟨t, q, e, rfl, _⟩ := h
    rfl
  · obtain ⟨t, q, ⟨a, b, c, d⟩, rfl, hq, ok, hl, q⟩ := h
    have o1 := ok.a1
    have o2 := ok.ab
    have o3 := ok.bc
    have o4 := ok.cd
    have o5 := ok.dn
    dsimp only at o1 o2 o3 o4 o5
    have hz : (⟨t.toArray⟩ : Str).length ≤ sizeLine := by rw [S_len]; exact Nat.le_of_lt (small1000 (by omega))
    have lz : ∀ n, n ≤ 1000 → n ≤ sizeLine := fun n h => Nat.le_of_lt (small1000 h)
    refine ⟨_, (pss_cons (ps_asg (pv 1) (pg_tup (by rfl) (pgs_cons (pg_name (i := 2) sc_done.nd rfl (Or.inl rfl)) (pgs_cons (pg_name (i := 3) sc_done.nd rfl (Or.inl rfl)) (pgs_cons (pg_name (i := 4) sc_done.nd rfl (Or.inl rfl)) (pgs_cons (pg_name (i := 5) sc_done.nd rfl (Or.inl rfl)) pgs_nil))))))
    (pss_one (ps_ret (pe_op op_add_str (pe_op op_add_str (pe_op op_add_str (pe_op op_add_str (pe_slice sl_str (pv 0) po_none (po_some (pv 2))) (pe_slice sl_str (pv 0) (po_some (pv 4)) (po_some (pv 5)))) (pe_slice sl_str (pv 0) (po_some (pv 3)) (po_some (pv 4)))) (pe_slice sl_str (pv 0) (po_some (pv 2)) (po_some (pv 3)))) (pe_slice sl_str (pv 0) (po_some (pv 5)) po_none))))), ?_⟩
    refine ⟨_, rfl, _, _, rfl, SqT.of hq, rfl, _, _, rfl, _, _, rfl, _, _, rfl, _, _, rfl, rfl, ?_⟩
    refine ⟨_, rfl, _, rfl, _, rfl, _, rfl, hz, ?_⟩
    refine ⟨_, rfl, _, rfl, _, rfl, _, rfl, _, rfl, _, rfl, hz, ?_⟩
    rw [cut_to (by dsimp only; omega), cut_nat (by dsimp only; omega) (by dsimp only; omega)]
    refine ⟨_, _, rfl, rfl, ?_, ?_⟩
    · rw [S_len, S_len, List.length_take, List.length_take, List.length_drop]; exact lz _ (by omega)
    refine ⟨_, rfl, _, rfl, _, rfl, _, rfl, _, rfl, _, rfl, hz, ?_⟩
    rw [S_cat, cut_nat (by dsimp only; omega) (by dsimp only; omega)]
    refine ⟨_, _, rfl, rfl, ?_, ?_⟩
    · rw [S_len, S_len]; simp only [List.length_append, List.length_take, List.length_drop]; exact lz _ (by omega)
    refine ⟨_, rfl, _, rfl, _, rfl, _, rfl, _, rfl, _, rfl, hz, ?_⟩
    rw [S_cat, cut_nat (by dsimp only; omega) (by dsimp only; omega)]
    refine ⟨_, _, rfl, rfl, ?_, ?_⟩
    · rw [S_len, S_len]; simp only [List.length_append, List.length_take, List.length_drop]; exact lz _ (by omega)
    refine ⟨_, rfl, _, rfl, _, rfl, _, rfl, hz, ?_⟩
    rw [S_cat, cut_from (by dsimp only; omega)]
    refine ⟨_, _, rfl, rfl, ?_, ?_⟩
    · rw [S_len, S_len]; simp only [List.length_append, List.length_take, List.length_drop]; exact lz _ (by omega)
    rw [S_cat]
    have e : t.take a ++ (t.drop c).take (d - c) ++ (t.drop b).take (c - b) ++ (t.drop a).take (b - a) ++ t.drop d = dex t (a, b, c, d) := by
      unfold dex exch
      simp only [List.append_assoc]
    rw [e]
    exact q
end
end Tw
namespace Tw
open PySem PySem.Spec PyProof.Rows L2 MT MW
section
variable {P : Program} {w : World} {K : PySem.W.Frag} {mg : Str → Option Value} {base : Heap} {CW CD : Addr}
open MD
theorem deed_place {ws S U : List Wd} (hn : ws.Nodup) (o : RingOrd ws S) (u : RingOrd ws U) (ne : S ≠ U) : ∃ (p B C t : List Wd) (y : Wd), S = p ++ (B ++ y :: C) ∧ U = p ++ y :: t ∧ B ≠ [] ∧ p ≠ [] ∧ S[p.length]? ≠ some y := by
  have hS := o.perm.nodup_iff.mpr hn
  have hU := u.perm.nodup_iff.mpr hn
  rcases first_diff S U (o.perm.length_eq.trans u.perm.length_eq.symm) with e | ⟨p, x, y, l', k', e1, e2, e3⟩
  · exact absurd e ne
  have hy : y ∈ S := o.perm.mem_iff.mpr (u.perm.mem_iff.mp (by rw [e2]; exact List.mem_append_right _ (List.mem_cons_self ..)))
  have hp : y ∉ p := fun h => by
    rw [e2] at hU
    exact (List.nodup_append.mp hU).2.2 y h y (List.mem_cons_self ..) rfl
  rw [e1] at hy
  have hl : y ∈ l' := by
    rcases List.mem_append.mp hy with h | h
    · exact absurd h hp
    · rcases List.mem_cons.mp h with h | h
      · exact absurd h.symm e3
      · exact h
  obtain ⟨B, C, e4⟩ := List.append_of_mem hl
  refine ⟨p, x :: B, C, k', y, by rw [e1, e4]; rfl, e2, by simp, fun e => ?_, fun h => ?_⟩
  · subst e
    have h1 := o.head
    have h2 := u.head
    rw [e1] at h1
    rw [e2] at h2
    exact e3 (Option.some.inj (h1.trans h2.symm))
  · rw [e1, List.getElem?_append_right (Nat.le_refl _), Nat.sub_self] at h
    exact e3 (Option.some.inj h)
theorem eqV_sV (x y : Wd) : eqV (sV x) (sV y) = decide (x = y) := by
  show decide (_ = _) = _
  by_cases g : x = y
  · subst g; simp
  · rw [decide_eq_false g]; exact decide_eq_false fun z => g (by first | exact stS_inj z | exact sV_inj z)
def spNext (CW : Addr) : Sp := fun vs H Q _ => ∃ (p t : Addr) (ws S U : List Wd) (L : Nat), vs = [.ref p, sV (rtx S), sV (rtx U)] ∧ WebAt CW H p ws L t ∧ RingOrd ws S ∧ RingOrd ws U ∧ S ≠ U ∧
  ∀ q H' e, Same H H' → H q = none → H' q = some (.tup (deV e)) → Dok S.length e → RingOrd ws (dex S e) → (dex S e).take (e.1 + 1) = U.take (e.1 + 1) → S[e.1]? ≠ U[e.1]? → Q (.ref q) H'
theorem ok_next_deed (T : Txt K mg CW CD) : Df P w K mg base 3 "next_deed" ["web", "now", "two"] (spNext CW) := by
  refine df_of T.d_next_deed sc_next_deed bd_next_deed (fun vs H Q E h => ?_) (fun f cdv A outer s H vs Q E hr h => ?_)
  · obtain ⟨p, t, ws, S, U, L, rfl, _⟩ := h
    rfl
  · obtain ⟨p, t, ws, S, U, L, rfl, W, o, u, ne, q⟩ := h
    obtain ⟨x0, r0, e0, hx0, R⟩ := rg_of o W.ok
    obtain ⟨x1, r1, e1, hx1, RU⟩ := rg_of u W.ok
    have hSl := o.perm.length_eq
    have hUl := u.perm.length_eq
    have hfew := W.ok.few
    have hS := o.perm.nodup_iff.mpr W.ok.nd
    have hU := u.perm.nodup_iff.mpr W.ok.nd
    obtain ⟨pp, B, C, tt, y, eS, eU, hB, hp, hne⟩ := deed_place W.ok.nd o u ne
    have hhm := head_mem W.ok
    have eh : ws.headD [] = x0 := Option.some.inj (hhm.2.symm.trans hx0)
    have ex : x1 = x0 := Option.some.inj (hx1.symm.trans hx0)
    rw [ex] at RU
    have p1 := List.length_pos_iff.mpr hp
    have b1 := List.length_pos_iff.mpr hB
    have lS : S.length = pp.length + B.length + C.length + 1 := by rw [eS]; simp only [List.length_append, List.length_cons]; omega
    have hUy : U[pp.length]? = some y := by rw [eU, List.getElem?_append_right (Nat.le_refl _), Nat.sub_self]; rfl
    have hSy : S[pp.length + B.length]? = some y := by
      rw [eS, List.getElem?_append_right (by omega), List.getElem?_append_right (by omega)]
      have : pp.length + B.length - pp.length - B.length = 0 := by omega
      rw [this]; rfl
    have same : ∀ i, i < pp.length → S[i]? = U[i]? := fun i hi => by rw [eS, eU, List.getElem?_append_left hi, List.getElem?_append_left hi]
    have there := exch_there (bg := bgn) (en := enn) (h := bgn x0) (r := bgn x0) (by rw [← eS]; exact R.walk) (by rw [← eU]; exact RU.walk) (by rw [← eS, ← eU]; exact o.perm.trans u.perm.symm) (by rw [← eS]; exact hS) hB
    rw [← eS] at there
    obtain ⟨A1, A2, j0, l0, v0, j1, j2, j3, j4, j5, j6⟩ := there
    obtain ⟨dx, hob⟩ := W.ob
    refine ⟨_, (pss_cons (ps_set (i := 3) sc_next_deed.nd rfl (Or.inl rfl) (pe_fn (ok_windows T) hr (pa_cons (pv 1) (pa_cons (pe_fld (pv 0) rfl) (pa_cons pe_bl pa_nil)))))
    (pss_cons (ps_set (i := 4) sc_next_deed.nd rfl (Or.inl rfl) (pe_fn (ok_windows T) hr (pa_cons (pv 2) (pa_cons (pe_fld (pv 0) rfl) (pa_cons pe_bl pa_nil)))))
    (pss_cons (ps_set (i := 5) sc_next_deed.nd rfl (Or.inl rfl) pe_int)
    (pss_cons (ps_while PassesOwn.never (pt_cmpR op_eq (pe_ix ix_list (pv 3) (pv 5) (fun _ _ => rfl)) (pe_ix ix_list (pv 4) (pv 5) (fun _ _ => rfl)) (nomark _))
    (pss_one (ps_set (i := 5) sc_next_deed.nd rfl (Or.inl rfl) (pe_op op_add (pv 5) pe_int))))
    (pss_cons (ps_set (i := 6) sc_next_deed.nd rfl (Or.inl rfl) (pe_bm PySem.F.plainAttrs_list PySem.F.slot_list_index PySem.F.type_list_index mt_index (pv 3) (pa_cons (pe_ix ix_list (pv 4) (pv 5) (fun _ _ => rfl)) pa_nil)))
    (pss_cons (ps_set (i := 7) sc_next_deed.nd rfl (Or.inl rfl) (pe_fn (ok_pieces_along T) hr (pa_cons (pv 0) (pa_cons (pv 1) pa_nil))))
    (pss_cons (ps_for PassesOwn.never rfl (pi_range2 (by rfl) T.n_range (pa_cons (pe_op op_add (pv 5) pe_int) (pa_cons (pe_op op_add (pv 6) pe_int) pa_nil))) (pg_name (i := 8) sc_next_deed.nd rfl (Or.inl rfl))
    (pss_one (ps_for PassesOwn.never rfl (pi_range2 (by rfl) T.n_range (pa_cons (pe_op op_add (pv 6) pe_int) (pa_cons (pe_callB call_len_seq (by rfl) T.n_len PySem.boot_len (pa_cons (pv 7) pa_nil)) pa_nil))) (pg_name (i := 9) sc_next_deed.nd rfl (Or.inl rfl))
    (pss_one (ps_if (pt_cmpR op_eq (pe_ix ix_list (pv 7) (pv 8) (fun _ _ => rfl)) (pe_ix ix_list (pv 7) (pv 9) (fun _ _ => rfl)) (nomark _))
    (pss_one (ps_ret (pe_tup (pa_cons (pv 5) (pa_cons (pv 8) (pa_cons (pv 6) (pa_cons (pv 9) pa_nil)))))))
    pss_nil)))))
    (pss_one (ps_ret pe_non))))))))), ?_⟩
    refine ⟨_, rfl, _, rfl, p, CW, dx, _, _, rfl, hob, T.cWeb, T.aWeb_length, webF_length _ _, S, bgn x0, L, rfl, R, fun q1 H1 s1 n1 e1 => ?_⟩
    obtain ⟨dx1, hob1⟩ := (W.same s1).ob
    refine ⟨_, rfl, _, rfl, p, CW, dx1, _, _, rfl, hob1, T.cWeb, T.aWeb_length, webF_length _ _, U, bgn x0, L, rfl, RU, fun q2 H2 s2 n2 e2 => ?_⟩
    have s12 := s1.trans s2
    have e1' := s2 _ _ e1
    refine ⟨fun m σ H' => ∃ i : Nat, σ = [some (.ref p), some (sV (rtx S)), some (sV (rtx U)), some (.ref q1), some (.ref q2), some (.int (i : Nat)), none, none, none, none] ∧ 1 ≤ i ∧ i ≤ pp.length ∧ H' = H2 ∧ m = pp.length - i, ⟨_, 1, rfl, Nat.le_refl _, p1, rfl, rfl⟩, ?_⟩
    rintro m σ H' ⟨i, rfl, hi1, hi2, rfl, rfl⟩
    have gS : S[i]? = some S[i] := List.getElem?_eq_getElem (by omega)
    have gU : U[i]? = some U[i] := List.getElem?_eq_getElem (by omega)
    refine ⟨_, rfl, _, rfl, q1, _, _, _, rfl, rfl, SqL.of e1', at_of rfl (sL_get gS), _, rfl, _, rfl, q2, _, _, _, rfl, rfl, SqL.of e2, at_of rfl (sL_get gU), rfl, _, rfl, ?_⟩
    rw [dec_sV]
    by_cases hlt : i < pp.length
    · have := same i hlt
      rw [gS, gU] at this
      refine iteTe (decide_eq_true (Option.some.inj this)) ?_
      refine ⟨fun σ' H2' => ∃ m', m' < pp.length - i ∧ ∃ i : Nat, σ' = [some (.ref p), some (sV (rtx S)), some (sV (rtx U)), some (.ref q1), some (.ref q2), some (.int (i : Nat)), none, none, none, none] ∧ 1 ≤ i ∧ i ≤ pp.length ∧ H2' = H' ∧ m' = pp.length - i, fun σ' H2 h => h, ?_⟩
      exact ⟨_, rfl, _, _, rfl, rfl, _, by omega, i + 1, rfl, by omega, by omega, rfl, rfl⟩
    · have ei : i = pp.length := by omega
      subst ei
      have hdiff : S[pp.length] ≠ U[pp.length] := fun h => by
        rw [gU] at hUy
        rw [gS, h] at hne
        exact hne hUy
      refine iteFe (decide_eq_false hdiff) ?_
      -- the place of y
      refine ⟨_, rfl, .inl ⟨rfl, _, SqL.of e1'⟩, _, rfl, _, rfl, q2, _, _, _, rfl, rfl, SqL.of e2, at_of rfl (sL_get hUy), q1, sL S, sV y, pp.length + B.length, sV y, rfl, rfl, SqL.of e1', rfl, flat_strs S, sL_get hSy, ?_, fun m' z hm hz => ?_, ?_⟩
      · exact eqV_sV y y ▸ decide_eq_true rfl
      · obtain ⟨zw, hzw, rfl⟩ := sL_at hz
        rw [eqV_sV]
        refine decide_eq_false fun e => ?_
        rw [e] at hzw
        have := nd_ix hS hzw hSy
        omega
      refine ⟨_, rfl, _, rfl, p, t, ws, S, L, rfl, W.same s12, o, fun q3 H3 s3 n3 e3 => ?_⟩
      rw [eh] at e3
      have al := alng_len (bg := bgn) S (bgn x0)
      have s13 := s12.trans s3
      refine ⟨_, rfl, _, _, rfl, rfl, _, rfl, _, _, rfl, rfl, _, _, rfl, ?_, ?_⟩
      · exact ⟨by omega, by omega, by omega, by omega⟩
      have en : (((pp.length + B.length : Nat) : Int) + 1 - ((pp.length : Nat) + 1)).toNat = B.length := by omega
      rw [en]
      refine for_range (lo := (pp.length : Int) + 1) (n := B.length) (fun i σ H' => ∃ z8 z9, σ = [some (.ref p), some (sV (rtx S)), some (sV (rtx U)), some (.ref q1), some (.ref q2), some (.int (pp.length : Nat)), some (.int (pp.length + B.length : Nat)), some (.ref q3), z8, z9] ∧ H' = H3 ∧
          ∀ j l v, pp.length < j → j < pp.length + 1 + i → pp.length + B.length < l → l ≤ S.length → (alng bgn S (bgn x0))[j]? = some v → (alng bgn S (bgn x0))[l]? = some v → False)
        ⟨none, none, rfl, rfl, fun j l v h1 h2 => by omega⟩ (fun i σ H' hi h => ?_) (fun σ H' h => ?_)
      · obtain ⟨z8, z9, rfl, rfl, hno⟩ := h
        refine ⟨_, rfl, _, _, rfl, rfl, _, rfl, q3, _, rfl, .inl (SqL.of e3), _, _, rfl, ?_, ?_⟩
        · rw [sL_len, al]
          exact ⟨by omega, by omega, by omega, by omega⟩
        rw [sL_len, al]
        have en : (((S.length + 1 : Nat) : Int) - (((pp.length + B.length : Nat) : Int) + 1)).toNat = C.length + 1 := by omega
        rw [en]
        have hb : (alng bgn S (bgn x0))[pp.length + 1 + i]? = some (alng bgn S (bgn x0))[pp.length + 1 + i] := List.getElem?_eq_getElem (by rw [al]; omega)
        generalize (alng bgn S (bgn x0))[pp.length + 1 + i] = vb at hb
        refine for_range (lo := ((pp.length + B.length : Nat) : Int) + 1) (n := C.length + 1) (fun k σ Hk => ∃ z9, σ = [some (.ref p), some (sV (rtx S)), some (sV (rtx U)), some (.ref q1), some (.ref q2), some (.int (pp.length : Nat)), some (.int (pp.length + B.length : Nat)), some (.ref q3), some (.int ((pp.length : Int) + 1 + i)), z9] ∧ Hk = H' ∧
            ∀ l, pp.length + B.length < l → l < pp.length + B.length + 1 + k → (alng bgn S (bgn x0))[l]? = some vb → False)
          ⟨_, rfl, rfl, fun l h1 h2 => by omega⟩ (fun k σ H' hk h => ?_) (fun σ H' h => ?_)
        · obtain ⟨z9, rfl, rfl, hno2⟩ := h
          have hd : (alng bgn S (bgn x0))[pp.length + B.length + 1 + k]? = some (alng bgn S (bgn x0))[pp.length + B.length + 1 + k] := List.getElem?_eq_getElem (by rw [al]; omega)
          generalize (alng bgn S (bgn x0))[pp.length + B.length + 1 + k] = vd at hd
          refine ⟨_, rfl, _, rfl, q3, _, _, _, rfl, rfl, SqL.of e3, at_of (j := pp.length + 1 + i) (by omega) (sL_get hb), _, rfl, _, rfl, q3, _, _, _, rfl, rfl, SqL.of e3, at_of (j := pp.length + B.length + 1 + k) (by omega) (sL_get hd), rfl, _, rfl, ?_⟩
          rw [dec_sV]
          by_cases g : vb = vd
          · refine iteTe (decide_eq_true g) ?_
            subst g
            refine ⟨_, rfl, _, rfl, _, rfl, _, rfl, (by show 4 ≤ sizeLine; decide), fun uu nu => ?_⟩
            refine q uu _ (pp.length, pp.length + 1 + i, pp.length + B.length, pp.length + B.length + 1 + k) (s13.trans (same_upd nu)) (s13.free nu) ?_ ⟨p1, by show pp.length < pp.length + 1 + i; omega, by show pp.length + 1 + i ≤ pp.length + B.length; omega, by show pp.length + B.length < pp.length + B.length + 1 + k; omega, by show pp.length + B.length + 1 + k ≤ S.length; omega⟩ ?_ ?_ ?_
            · rw [upd_same]
              have c1 : ((pp.length : Int) + 1 + i) = ((pp.length + 1 + i : Nat) : Int) := by omega
              have c2 : (((pp.length + B.length : Nat) : Int) + 1 + k) = ((pp.length + B.length + 1 + k : Nat) : Int) := by omega
              rw [c1, c2]; rfl
            · have hw := exch_walk (bg := bgn) (en := enn) R.walk (i := pp.length) (j := pp.length + 1 + i) (k := pp.length + B.length) (l := pp.length + B.length + 1 + k) (by omega) (by omega) (by omega) (by omega) A1 A2 hb hd
              have hpm := exch_perm S (i := pp.length) (j := pp.length + 1 + i) (k := pp.length + B.length) (l := pp.length + B.length + 1 + k) (by omega) (by omega) (by omega) (by omega)
              have hhd : (exch S pp.length (pp.length + 1 + i) (pp.length + B.length) (pp.length + B.length + 1 + k)).head? = some x0 := by
                obtain ⟨n, hn⟩ : ∃ n, pp.length = n + 1 := ⟨pp.length - 1, by omega⟩
                unfold exch
                rw [e0, hn]; rfl
              refine ⟨hpm.trans o.perm, hhd.trans hx0.symm, fun x hx => ?_⟩
              have : x0 = x := Option.some.inj (hhd.symm.trans hx)
              rw [← this]; exact hw
            · show (exch S pp.length (pp.length + 1 + i) (pp.length + B.length) (pp.length + B.length + 1 + k)).take (pp.length + 1) = U.take (pp.length + 1)
              have t1 : S.take pp.length = pp := by rw [eS]; exact List.take_left' rfl
              have t2 : S.drop (pp.length + B.length) = y :: C := by rw [eS, ← List.append_assoc]; exact List.drop_left' (by rw [List.length_append])
              have tk : ∀ z : List Wd, (pp ++ y :: z).take (pp.length + 1) = pp ++ [y] := fun z => by
                rw [List.take_append, List.take_of_length_le (by omega), show pp.length + 1 - pp.length = 1 by omega]; rfl
              unfold exch
              rw [t1, t2, show pp.length + B.length + 1 + k - (pp.length + B.length) = k + 1 by omega, eU, tk]
              exact tk _
            · show S[pp.length]? ≠ U[pp.length]?
              rw [hUy]; exact hne
          · refine iteFe (decide_eq_false g) ⟨_, rfl, rfl, fun l h1 h2 h3 => ?_⟩
            by_cases h4 : l = pp.length + B.length + 1 + k
            · rw [h4, hd] at h3
              exact g (Option.some.inj h3).symm
            · exact hno2 l h1 (by omega) h3
        · obtain ⟨z9, rfl, rfl, hno2⟩ := h
          refine ⟨_, _, rfl, rfl, fun j l v h1 h2 h3 h4 h5 h6 => ?_⟩
          by_cases g : j = pp.length + 1 + i
          · rw [g, hb] at h5
            rw [← Option.some.inj h5] at h6
            exact hno2 l h3 (by omega) h6
          · exact hno j l v h1 (by omega) h3 h4 h5 h6
      · obtain ⟨z8, z9, rfl, rfl, hno⟩ := h
        exact absurd j6 fun z => hno j0 l0 v0 j1 (by omega) j3 j4 j5 z
end
end Tw
namespace Tw
open PySem PySem.Spec PyProof.Rows L2 MT MW
section
variable {P : Program} {w : World} {K : PySem.W.Frag} {mg : Str → Option Value} {base : Heap} {CW CD : Addr}
open MD
/-! ### the way from ring to ring -/
def Runs (ws : List Wd) : List Wd → List De → List Wd → Prop
  | S, [], U => S = U
  | S, e :: ds, U => Dok S.length e ∧ RingOrd ws (dex S e) ∧ Runs ws (dex S e) ds U
theorem Runs.snoc {ws U : List Wd} {e : De} : ∀ {ds : List De} {S : List Wd}, Runs ws S ds U → Dok U.length e → RingOrd ws (dex U e) → Runs ws S (ds ++ [e]) (dex U e)
  | [], S, h, h1, h2 => by
    have e : S = U := h
    subst e
    exact ⟨h1, h2, rfl⟩
  | d :: ds, S, h, h1, h2 => ⟨h.1, h.2.1, h.2.2.snoc h1 h2⟩
/-- deeds as they stand -/
structure DeAt (H : Hp) (q : Addr) (rs : List Addr) (ds : List De) : Prop where
  top : H q = some (.lst (rs.map V.ref))
  len : rs.length = ds.length
  cont : ∀ (i : Nat) (r : Addr) (e : De), rs[i]? = some r → ds[i]? = some e → H r = some (.tup (deV e))
def spLed (CW : Addr) : Sp := fun vs H Q _ => ∃ (p t : Addr) (ws S U : List Wd) (L : Nat), vs = [.ref p, sV (rtx S), sV (rtx U)] ∧ WebAt CW H p ws L t ∧ RingOrd ws S ∧ RingOrd ws U ∧
  ∀ q H' rs ds, Same H H' → DeAt H' q rs ds → Runs ws S ds U → ds.length < ws.length → Q (.ref q) H'
theorem ok_led (T : Txt K mg CW CD) : Df P w K mg base 4 "led" ["web", "one", "two"] (spLed CW) := by
  refine df_of T.d_led sc_led bd_led (fun vs H Q E h => ?_) (fun f cdv A outer s H vs Q E hr h => ?_)
  · obtain ⟨p, t, ws, S, U, L, rfl, _⟩ := h
    rfl
  · obtain ⟨p, t, ws, S, U, L, rfl, W, o, u, q⟩ := h
    have hfew := W.ok.few
    have hUl := u.perm.length_eq
    have hSl := o.perm.length_eq
    have hne := List.length_pos_iff.mpr W.ok.ne
    obtain ⟨x0, r0, e0, hx0, R⟩ := rg_of o W.ok
    obtain ⟨x1, r1, e1, hx1, RU⟩ := rg_of u W.ok
    have ex : x1 = x0 := Option.some.inj (hx1.symm.trans hx0)
    subst ex
    refine ⟨_, (pss_cons (ps_expr (pe_fn (ok_ask_ring T) hr (pa_cons (pv 0) (pa_cons (pv 1) pa_nil))))
    (pss_cons (ps_expr (pe_fn (ok_ask_ring T) hr (pa_cons (pv 0) (pa_cons (pv 2) pa_nil))))
    (pss_cons (ps_set (i := 3) sc_led.nd rfl (Or.inl rfl) (pe_lst pa_nil))
    (pss_cons (ps_while PassesOwn.never (pt_cmpR op_ne (pv 1) (pv 2) (nomark _))
    (pss_cons (ps_set (i := 4) sc_led.nd rfl (Or.inl rfl) (pe_fn (ok_next_deed T) hr (pa_cons (pv 0) (pa_cons (pv 1) (pa_cons (pv 2) pa_nil)))))
    (pss_cons (ps_expr (pe_bm PySem.F.plainAttrs_list PySem.F.slot_list_append PySem.F.type_list_append mt_append (pv 3) (pa_cons (pv 4) pa_nil)))
    (pss_one (ps_set (i := 1) sc_led.nd rfl (Or.inl rfl) (pe_fn (ok_done T) hr (pa_cons (pv 1) (pa_cons (pv 4) pa_nil))))))))
    (pss_one (ps_ret (pv 3))))))), ?_⟩
    refine ⟨_, rfl, _, rfl, p, t, ws, S, L, rfl, W, o, fun H1 s1 => ?_⟩
    refine ⟨_, rfl, _, rfl, p, t, ws, U, L, rfl, W.same s1, u, fun H2 s2 => ?_⟩
    have s12 := s1.trans s2
    refine ⟨(by show 0 ≤ sizeLine; decide), fun a na => ?_⟩
    have na0 : H a = none := s12.free na
    have s3 := s12.trans (same_upd (o := .lst []) na)
    refine ⟨fun m σ H' => ∃ (N : List Wd) (j : Nat) (rs : List Addr) (ds : List De) (z4 : Option V), σ = [some (.ref p), some (sV (rtx N)), some (sV (rtx U)), some (.ref a), z4] ∧ Same H H' ∧ RingOrd ws N ∧ N.take j = U.take j ∧ j ≤ U.length ∧ ds.length + 1 ≤ j ∧ DeAt H' a rs ds ∧ Runs ws S ds N ∧ m = U.length - j,
      ⟨_, S, 1, [], [], none, rfl, s3, o, by rw [e0, e1]; rfl, by omega, Nat.le_refl _, ⟨upd_same, rfl, fun i r e h => by cases h⟩, rfl, rfl⟩, ?_⟩
    rintro m σ H' ⟨N, j, rs, ds, z4, rfl, hs, oN, htk, hj, hdl, B, hR, rfl⟩
    obtain ⟨x2, r2, e2, hx2, RN⟩ := rg_of oN W.ok
    have ex : x2 = x1 := Option.some.inj (hx2.symm.trans hx1)
    rw [ex] at RN
    have hNl := oN.perm.length_eq
    refine ⟨_, rfl, _, rfl, rfl, _, rfl, ?_⟩
    rw [dec_sV]
    by_cases g : N = U
    · refine iteFe (by rw [g, decide_eq_true rfl]; rfl) ?_
      subst g
      exact ⟨_, rfl, q a H' rs ds hs B hR (by omega)⟩
    · have gt : rtx N ≠ rtx U := fun e => g (rtx_inj RN.walk RN.len RU.walk RU.len e)
      refine iteTe (by rw [decide_eq_false gt]; rfl) ?_
      refine ⟨fun σ' H2' => ∃ m', m' < U.length - j ∧ ∃ (N : List Wd) (j : Nat) (rs : List Addr) (ds : List De) (z4 : Option V), σ' = [some (.ref p), some (sV (rtx N)), some (sV (rtx U)), some (.ref a), z4] ∧ Same H H2' ∧ RingOrd ws N ∧ N.take j = U.take j ∧ j ≤ U.length ∧ ds.length + 1 ≤ j ∧ DeAt H2' a rs ds ∧ Runs ws S ds N ∧ m' = U.length - j, fun σ' H2 h => h, ?_⟩
      refine ⟨_, rfl, _, rfl, _, rfl, p, t, ws, N, U, L, rfl, W.same hs, oN, u, g, fun b H3 e s4 nb hb ok oE hpre hdf => ?_⟩
      have o2 := ok.ab
      have o3 := ok.bc
      have o4 := ok.cd
      have o5 := ok.dn
      have hje : j ≤ e.1 := by
        refine Classical.byContradiction fun h => hdf ?_
        have h1 : (N.take j)[e.1]? = (U.take j)[e.1]? := by rw [htk]
        rw [List.getElem?_take, List.getElem?_take, if_pos (by omega), if_pos (by omega)] at h1
        exact h1
      have hnab : a ≠ b := ne_of_none B.top nb
      have B3 := s4 _ _ B.top
      have rl := B.len
      refine ⟨_, rfl, .inl ⟨rfl, _, SqL.of B3⟩, _, rfl, a, _, _, rfl, rfl, B3, ?_, ?_⟩
      · rw [List.length_map, rl]; exact small1000 (by omega)
      have hb2 : (upd H3 a (.lst (rs.map V.ref ++ [.ref b]))) b = some (.tup (deV e)) := by rw [upd_ne hnab.symm]; exact hb
      refine ⟨_, rfl, _, rfl, rtx N, b, e, rfl, hb2, by rw [rtx_len]; exact ok, by rw [rtx_len]; omega, ?_⟩
      have em : dex (rtx N) e = rtx (dex N e) := (exch_map fsg N e.1 e.2.1 e.2.2.1 e.2.2.2).symm
      rw [em]
      refine ⟨_, ?_, dex N e, e.1 + 1, rs ++ [b], ds ++ [e], some (.ref b), rfl, same_chg (hs.trans s4) na0, oE, hpre, by omega, by rw [List.length_append]; show ds.length + 1 + 1 ≤ _; omega, ⟨by rw [upd_same, List.map_append]; rfl, by rw [List.length_append, List.length_append, rl]; rfl, fun i r d hr hd => ?_⟩, hR.snoc ok oE, rfl⟩
      · omega
      · by_cases hi : i < rs.length
        · rw [List.getElem?_append_left hi] at hr
          rw [List.getElem?_append_left (by omega)] at hd
          have hc := B.cont i r d hr hd
          have hra : r ≠ a := fun z => by rw [z, B.top] at hc; cases hc
          rw [upd_ne hra]; exact s4 _ _ hc
        · rw [List.getElem?_append_right (by omega)] at hr
          rw [List.getElem?_append_right (by omega)] at hd
          have hi0 : i - rs.length = 0 := by
            by_cases h : i - rs.length = 0
            · exact h
            · rw [List.getElem?_eq_none (by simp; omega)] at hr; cases hr
          rw [hi0] at hr
          rw [show i - ds.length = 0 by omega] at hd
          have er : b = r := Option.some.inj hr
          have ed : e = d := Option.some.inj hd
          rw [← er, ← ed]; exact hb2
end
end Tw
namespace Tw
open PySem PySem.Spec PyProof.Rows L2 MT MW
section
variable {P : Program} {w : World} {K : PySem.W.Frag} {mg : Str → Option Value} {base : Heap} {CW CD : Addr}
open MD
/-! ### a desk -/
structure DkF (fs : List (Str × V)) (home : Wd) (many L : Nat) (text : Wd) (la pa : Addr) : Prop where
  f1 : fs.lookup ("home" : Str) = some (sV home)
  f2 : fs.lookup ("many" : Str) = some (.int many)
  f3 : fs.lookup ("length" : Str) = some (.int L)
  f4 : fs.lookup ("text" : Str) = some (sV text)
  f5 : fs.lookup ("left" : Str) = some (.ref la)
  f6 : fs.lookup ("passed" : Str) = some (.ref pa)
  m1 : fs.lookup ("done" : Str) = none
  m2 : fs.lookup ("ways_by" : Str) = none
  m3 : fs.lookup ("steps" : Str) = none
  m4 : fs.lookup ("ahead" : Str) = none
  m5 : fs.lookup ("write" : Str) = none
def dkF (home : Wd) (many L : Nat) (text : Wd) (la pa : Addr) : List (Str × V) := putF "passed" (.ref pa) (putF "left" (.ref la) (putF "text" (sV text) (putF "length" (.int L) (putF "many" (.int many) (putF "home" (sV home) [])))))
theorem dkF_ok (home : Wd) (many L : Nat) (text : Wd) (la pa : Addr) : DkF (dkF home many L text la pa) home many L text la pa := by
  constructor
  all_goals
    unfold dkF
    (repeat (rw [lookup_putF]; first | rw [if_neg (by decide +kernel)] | rw [if_pos rfl]))
  all_goals rfl
theorem DkF.txt {fs : List (Str × V)} {home : Wd} {many L : Nat} {text t2 : Wd} {la pa : Addr} (F : DkF fs home many L text la pa) : DkF (putF "text" (sV t2) fs) home many L t2 la pa := by
  constructor
  all_goals (rw [lookup_putF]; first | rw [if_neg (by decide +kernel)] | rw [if_pos rfl])
  · exact F.f1
  · exact F.f2
  · exact F.f3
  · exact F.f5
  · exact F.f6
  · exact F.m1
  · exact F.m2
  · exact F.m3
  · exact F.m4
  · exact F.m5
structure DeskAt (CD : Addr) (H : Hp) (k : Addr) (home : Wd) (many L : Nat) (text : Wd) (left : List Wd) (ps : List Int) (la pa : Addr) : Prop where
  ob : ∃ dx fs, H k = some (.ins CD dx fs) ∧ DkF fs home many L text la pa ∧ fs.length ≤ 6 + ps.length
  lf : H la = some (.lst (sL left))
  pd : H pa = some (.lst (ps.map V.int))
  ne : la ≠ pa
theorem DeskAt.same {CD : Addr} {H H' : Hp} {k : Addr} {home : Wd} {many L : Nat} {text : Wd} {left : List Wd} {ps : List Int} {la pa : Addr} (D : DeskAt CD H k home many L text left ps la pa) (s : Same H H') : DeskAt CD H' k home many L text left ps la pa :=
  ⟨let ⟨dx, fs, h, r⟩ := D.ob; ⟨dx, fs, s _ _ h, r⟩, s _ _ D.lf, s _ _ D.pd, D.ne⟩
def spDesk (CW CD : Addr) : Sp := fun vs H Q _ => ∃ (x p t dx : Addr) (ws : List Wd) (L : Nat) (H0 : Hp), vs = [.ref x, .ref p] ∧ H x = some (.ins CD dx []) ∧ WebAt CW H0 p ws L t ∧ Same H0 H ∧ H0 x = none ∧ RingOk ws ∧
  ∀ (H' : Hp) (la pa : Addr), Same H0 H' → H0 la = none → H0 pa = none → DeskAt CD H' x (bgn (ws.headD [])) ws.length L (ws.headD []) ws.tail [0] la pa → Q .non H'
theorem putF_len {f : Str} {v : V} {fs : List (Str × V)} {n : Nat} (h : fs.length ≤ n) : (putF f v fs).length ≤ n + 1 := Nat.le_trans (length_putF f v fs) (Nat.succ_le_succ h)
theorem ok_Desk_init (T : Txt K mg CW CD) : Dk P w K mg base CD 6 "Desk" ["self", "web"] (spDesk CW CD) := by
  refine dk_of T.gDesk T.mDesk sc_Desk_init bd_Desk_init (fun vs H Q E h => ?_) (fun f cdv A outer s H vs Q E hr h => ?_)
  · obtain ⟨x, p, t, dx, ws, L, H0, rfl, _⟩ := h
    rfl
  · obtain ⟨x, p, t, dx, ws, L, H0, rfl, hx, W0, s0, nx, ok, q⟩ := h
    have W := W0.same s0
    have hhm := head_mem W0.ok
    have hhl := w1000 W0.ok hhm.1
    refine ⟨_, (pss_cons (ps_set (i := 2) sc_Desk_init.nd rfl (Or.inl rfl) (pe_fn (ok_why_no_ring T) hr (pa_cons (pv 1) pa_nil)))
    (pss_cons (ps_if (pt_cmpR op_notN (pv 2) pe_non (nomark _))
    (pss_one ps_never)
    pss_nil)
    (pss_cons (ps_fld (pv 0) (pe_fn (ok_begin_of T) hr (pa_cons (pe_ix ix_tup (pe_fld (pv 1) rfl) pe_int (fun _ _ => rfl)) pa_nil)) rfl)
    (pss_cons (ps_fld (pv 0) (pe_callB call_len_seq (by rfl) T.n_len PySem.boot_len (pa_cons (pe_fld (pv 1) rfl) pa_nil)) rfl)
    (pss_cons (ps_fld (pv 0) (pe_fld (pv 1) rfl) rfl)
    (pss_cons (ps_fld (pv 0) (pe_ix ix_tup (pe_fld (pv 1) rfl) pe_int (fun _ _ => rfl)) rfl)
    (pss_cons (ps_fld (pv 0) (pe_callTy call_list_of (by rfl) T.n_list (by decide +kernel) (pa_cons (pe_slice sl_tup (pe_fld (pv 1) rfl) (po_some pe_int) po_none) pa_nil)) rfl)
    (pss_one (ps_fld (pv 0) (pe_lst (pa_cons pe_int pa_nil)) rfl))))))))), ?_⟩
    refine ⟨_, rfl, p, t, ws, L, rfl, W, fun _ H1 s1 => ?_, fun nok => absurd ok nok⟩
    refine ⟨_, rfl, rfl, _, rfl, iteFe rfl ?_⟩
    have hx1 := s1 _ _ hx
    have t1 := s0.trans s1
    obtain ⟨d1, o1⟩ := (W0.same t1).ob
    refine ⟨_, rfl, p, CW, d1, _, _, rfl, o1, T.cWeb, T.aWeb_words, webF_words _ _, t, sL ws, 0, sV (ws.headD []), rfl, rfl, SqT.of (W0.same t1).tp, at_of (j := 0) rfl (sL_get (by rw [← List.head?_eq_getElem?]; exact hhm.2)), ws.headD [], rfl, hhl, ?_⟩
    refine ⟨_, rfl, x, CD, dx, _, rfl, hx1, T.cDesk, T.aDesk_home, by decide, ?_⟩
    have t2 := same_chg (o := .ins CD dx (putF "home" (sV (bgn (ws.headD []))) [])) t1 nx
    obtain ⟨d2, o2⟩ := (W0.same t2).ob
    refine ⟨_, rfl, p, CW, d2, _, _, rfl, o2, T.cWeb, T.aWeb_words, webF_words _ _, t, _, rfl, .inr (SqT.of (W0.same t2).tp), ?_⟩
    rw [sL_len]
    refine ⟨_, rfl, x, CD, dx, _, rfl, upd_same, T.cDesk, T.aDesk_many, Nat.lt_of_le_of_lt (putF_len (Nat.le_refl 0)) (by decide), ?_⟩
    rw [upd_upd]
    have t3 := same_chg (o := .ins CD dx (putF "many" (.int ws.length) (putF "home" (sV (bgn (ws.headD []))) []))) t1 nx
    obtain ⟨d3, o3⟩ := (W0.same t3).ob
    refine ⟨_, rfl, p, CW, d3, _, _, rfl, o3, T.cWeb, T.aWeb_length, webF_length _ _, ?_⟩
    refine ⟨_, rfl, x, CD, dx, _, rfl, upd_same, T.cDesk, T.aDesk_length, Nat.lt_of_le_of_lt (putF_len (putF_len (Nat.le_refl 0))) (by decide), ?_⟩
    rw [upd_upd]
    have t4 := same_chg (o := .ins CD dx (putF "length" (.int L) (putF "many" (.int ws.length) (putF "home" (sV (bgn (ws.headD []))) [])))) t1 nx
    obtain ⟨d4, o4⟩ := (W0.same t4).ob
    refine ⟨_, rfl, p, CW, d4, _, _, rfl, o4, T.cWeb, T.aWeb_words, webF_words _ _, t, sL ws, 0, sV (ws.headD []), rfl, rfl, SqT.of (W0.same t4).tp, at_of (j := 0) rfl (sL_get (by rw [← List.head?_eq_getElem?]; exact hhm.2)), ?_⟩
    refine ⟨_, rfl, x, CD, dx, _, rfl, upd_same, T.cDesk, T.aDesk_text, Nat.lt_of_le_of_lt (putF_len (putF_len (putF_len (Nat.le_refl 0)))) (by decide), ?_⟩
    rw [upd_upd]
    have t5 := same_chg (o := .ins CD dx (putF "text" (sV (ws.headD [])) (putF "length" (.int L) (putF "many" (.int ws.length) (putF "home" (sV (bgn (ws.headD []))) []))))) t1 nx
    obtain ⟨d5, o5⟩ := (W0.same t5).ob
    refine ⟨_, rfl, p, CW, d5, _, _, rfl, o5, T.cWeb, T.aWeb_words, webF_words _ _, 1, rfl, t, sL ws, rfl, SqT.of (W0.same t5).tp, not_whole W0.ok.ne, fun y ny => ?_⟩
    rw [cut_tail]
    refine ⟨y, _, rfl, .inr (SqT.of upd_same), fun l nl => ?_⟩
    have t6 := (t5.trans (same_upd (o := .tup (sL ws.tail)) ny)).trans (same_upd (o := .lst (sL ws.tail)) nl)
    have s56 := (same_upd (o := .tup (sL ws.tail)) ny).trans (same_upd (o := .lst (sL ws.tail)) nl)
    have ly := same_upd (o := .tup (sL ws.tail)) ny
    have hx6 := s56 _ _ (upd_same (H := H1) (a := x) (o := .ins CD dx (putF "text" (sV (ws.headD [])) (putF "length" (.int L) (putF "many" (.int ws.length) (putF "home" (sV (bgn (ws.headD []))) []))))))
    have nlx : l ≠ x := (ne_of_none (ly _ _ upd_same) nl).symm
    have nl0 : H0 l = none := (t5.trans ly).free nl
    refine ⟨_, rfl, x, CD, dx, _, rfl, hx6, T.cDesk, T.aDesk_left, Nat.lt_of_le_of_lt (putF_len (putF_len (putF_len (putF_len (Nat.le_refl 0))))) (by decide), ?_⟩
    refine ⟨(by show 1 ≤ sizeLine; decide), fun c nc => ?_⟩
    have ncx : c ≠ x := (ne_of_none upd_same nc).symm
    have t7 := same_chg (o := .ins CD dx (putF "left" (.ref l) (putF "text" (sV (ws.headD [])) (putF "length" (.int L) (putF "many" (.int ws.length) (putF "home" (sV (bgn (ws.headD []))) [])))))) t6 nx
    have nc0 : H0 c = none := t7.free nc
    have ncl : l ≠ c := ne_of_none (by rw [upd_ne nlx]; exact upd_same) nc
    refine ⟨_, rfl, x, CD, dx, _, rfl, by rw [upd_ne ncx.symm]; exact upd_same, T.cDesk, T.aDesk_passed, Nat.lt_of_le_of_lt (putF_len (putF_len (putF_len (putF_len (putF_len (Nat.le_refl 0)))))) (by decide), ?_⟩
    refine q _ l c (same_chg (t7.trans (same_upd nc)) nx) nl0 nc0 ⟨⟨dx, _, upd_same, dkF_ok _ _ _ _ _ _, Nat.le_trans (putF_len (putF_len (putF_len (putF_len (putF_len (putF_len (Nat.le_refl 0))))))) (by decide)⟩, ?_, ?_, ncl⟩
    · rw [upd_ne nlx, upd_ne ncl, upd_ne nlx]; exact upd_same
    · rw [upd_ne ncx]; exact upd_same
end
end Tw
namespace Tw
open PySem PySem.Spec PyProof.Rows L2 MT MW
section
variable {P : Program} {w : World} {K : PySem.W.Frag} {mg : Str → Option Value} {base : Heap} {CW CD : Addr}
open MD
def spDkDone (CD : Addr) : Sp := fun vs H Q _ => ∃ (k la pa : Addr) (home : Wd) (many L : Nat) (text : Wd) (ps : List Int), vs = [.ref k] ∧ DeskAt CD H k home many L text [] ps la pa ∧ many ≤ text.length ∧ text.length ≤ 1000 ∧ Q (sV (text.take many)) H
theorem ok_Desk_done (T : Txt K mg CW CD) : Dm P w K mg base CD 1 "done" ["self"] (spDkDone CD) := by
  refine dm_of T.cDesk T.mDesk_done sc_Desk_done bd_Desk_done (fun vs H Q E h => ?_) (fun f cdv A outer s H vs Q E hr h => ?_)
  · obtain ⟨k, la, pa, home, many, L, text, ps, rfl, _⟩ := h
    rfl
  · obtain ⟨k, la, pa, home, many, L, text, ps, rfl, D, hm, ht, q⟩ := h
    obtain ⟨dx, fs, o, F, _⟩ := D.ob
    refine ⟨_, (pss_cons (ps_if (pt_cmpR op_gt (pe_callB call_len_seq (by rfl) T.n_len PySem.boot_len (pa_cons (pe_fld (pv 0) rfl) pa_nil)) pe_int (nomark _))
    (pss_one (ps_ret pe_non))
    pss_nil)
    (pss_one (ps_ret (pe_slice sl_str (pe_fld (pv 0) rfl) po_none (po_some (pe_fld (pv 0) rfl)))))), ?_⟩
    refine ⟨_, rfl, k, CD, dx, fs, _, rfl, o, T.cDesk, T.aDesk_left, F.f5, la, _, rfl, .inl (SqL.of D.lf), _, _, rfl, rfl, _, rfl, iteFe rfl ?_⟩
    refine ⟨_, rfl, k, CD, dx, fs, _, rfl, o, T.cDesk, T.aDesk_text, F.f4, _, rfl, k, CD, dx, fs, _, rfl, o, T.cDesk, T.aDesk_many, F.f2, _, rfl, _, rfl, by rw [S_len]; exact Nat.le_of_lt (small1000 ht), ?_⟩
    rw [cut_to hm]
    exact q
def spWaysBy (CD : Addr) : Sp := fun vs H Q _ => ∃ (k la pa : Addr) (home : Wd) (many L : Nat) (text y : Wd) (ws left : List Wd) (ps : List Int), vs = [.ref k, sV y] ∧ DeskAt CD H k home many L text left ps la pa ∧ WebOk ws L ∧ left.Sublist ws ∧ home ∈ pcs ws ∧ y ∈ ws ∧
  ∀ H', Same H H' → Q (.int (N bgn enn (pcs ws) (wo left y) (enn y) home)) H'
theorem ok_Desk_ways_by (T : Txt K mg CW CD) : Dm P w K mg base CD 5 "ways_by" ["self", "word"] (spWaysBy CD) := by
  refine dm_of T.cDesk T.mDesk_ways_by sc_Desk_ways_by bd_Desk_ways_by (fun vs H Q E h => ?_) (fun f cdv A outer s H vs Q E hr h => ?_)
  · obtain ⟨k, la, pa, home, many, L, text, y, ws, left, ps, rfl, _⟩ := h
    rfl
  · obtain ⟨k, la, pa, home, many, L, text, y, ws, left, ps, rfl, D, W, hsub, hh, hy, q⟩ := h
    obtain ⟨dx, fs, o, F, _⟩ := D.ob
    have hll := sub_few W hsub
    refine ⟨_, (pss_cons (ps_setLc (i := 2) (own := [("one", 3)]) (g := gName 3) rfl sc_Desk_ways_by.nd rfl rfl (sw_true rfl rfl rfl (by decide +kernel)) (pi_list (pe_fld (pv 0) rfl)) (blkOk_by (own := [("one", 3)]) (N := ["self", "word", "rest", "one"]) (sc := defScope s_Desk_ways_by) (by decide +kernel)) (fun _ _ _ _ _ => pg_name (i := 3) sc_Desk_ways_by.nd rfl (Or.inl rfl)) (fun _ _ _ _ _ => (pts_one (pt_cmpR op_ne (pv 3) (pv 1) (nomark _)))) (fun _ _ _ _ _ => (pv 3)))
    (pss_one (ps_ret (pe_fn (ok_ways_on T) hr (pa_cons (pv 2) (pa_cons (pe_fn (ok_end_of T) hr (pa_cons (pv 1) pa_nil)) (pa_cons (pe_fld (pv 0) rfl) pa_nil))))))), ?_⟩
    refine ⟨_, rfl, k, CD, dx, fs, _, rfl, o, T.cDesk, T.aDesk_left, F.f5, la, rfl, ⟨_, SqL.of D.lf⟩, fun E nE => ?_⟩
    refine lc_list (K := K) (a := la) (xs := sL left) (fun i H' => Same H H' ∧ H' E = some (.lst (sL (wo (left.take i) y)))) ⟨same_upd nE, upd_same⟩ (fun i H' _ h => SqL.of (h.1 _ _ D.lf)) (fun i x H' hx ⟨hs, hD⟩ => ?_) (fun H' ⟨hs, hD⟩ => ?_)
    · obtain ⟨v, hv, rfl⟩ := sL_at hx
      refine ⟨rfl, _, rfl, _, rfl, rfl, _, rfl, ?_⟩
      rw [take_snoc hv, wo_snoc]
      by_cases e : v = y
      · rw [if_neg (show ¬ v ≠ y from fun h => h e), List.append_nil]
        refine iteFe (by show (!decide (sV v = sV y)) = false; rw [dec_sV, decide_eq_true e]; rfl) ?_
        exact ⟨hs, hD⟩
      · rw [if_pos e]
        refine iteTe (by show (!decide (sV v = sV y)) = true; rw [dec_sV, decide_eq_false e]; rfl) ?_
        refine ⟨_, rfl, _, hD, ?_, same_chg hs nE, ?_⟩
        · rw [sL_len]
          have := List.length_filter_le (fun z => decide (z ≠ y)) (left.take i)
          refine small1000 (Nat.le_trans this ?_)
          rw [List.length_take]; omega
        · rw [upd_same, sL_app]; rfl
    · rw [sL_len, List.take_length] at hD
      obtain ⟨dx2, fs2, o2, F2, _⟩ := (D.same hs).ob
      refine ⟨_, rfl, _, rfl, y, rfl, w1000 W hy, _, rfl, k, CD, dx2, fs2, _, rfl, o2, T.cDesk, T.aDesk_home, F2.f1, E, ws, wo left y, L, enn y, home, rfl, SqL.of hD, W, sub_wo hsub y, enn_pcs hy, hh, fun H4 z s4 ez => ?_⟩
      rw [ez]
      exact q H4 (hs.trans s4)
noncomputable abbrev nby (ws left : List Wd) (home y : Wd) : Int := N bgn enn (pcs ws) (wo left y) (enn y) home
/-- the steps that can come -/
noncomputable def zs (ws left : List Wd) (home here : Wd) : List Wd := left.filter fun y => decide (bgn y = here) && decide (0 < nby ws left home y)
structure StAt (H : Hp) (q : Addr) (rs : List Addr) (ys : List Wd) (f : Wd → Int) : Prop where
  top : H q = some (.lst (rs.map V.ref))
  len : rs.length = ys.length
  cont : ∀ (i : Nat) (r : Addr) (y : Wd), rs[i]? = some r → ys[i]? = some y → H r = some (.tup [sV y, .int (f y)])
theorem StAt.same {H H' : Hp} {q : Addr} {rs : List Addr} {ys : List Wd} {f : Wd → Int} (B : StAt H q rs ys f) (s : Same H H') : StAt H' q rs ys f := ⟨s _ _ B.top, B.len, fun i r y h1 h2 => s _ _ (B.cont i r y h1 h2)⟩
def spSteps (CD : Addr) : Sp := fun vs H Q _ => ∃ (k la pa : Addr) (home : Wd) (many L : Nat) (text x : Wd) (ws left : List Wd) (ps : List Int), vs = [.ref k] ∧ DeskAt CD H k home many L text left ps la pa ∧ WebOk ws L ∧ left.Sublist ws ∧ home ∈ pcs ws ∧
  text.length ≤ 1000 ∧ L ≤ text.length ∧ text.drop (text.length - L) = x ∧
  ∀ q H' rs, Same H H' → H q = none → StAt H' q rs (zs ws left home (enn x)) (nby ws left home) → Q (.ref q) H'
theorem ok_Desk_steps (T : Txt K mg CW CD) : Dm P w K mg base CD 6 "steps" ["self"] (spSteps CD) := by
  refine dm_of T.cDesk T.mDesk_steps sc_Desk_steps bd_Desk_steps (fun vs H Q E h => ?_) (fun f cdv A outer s H vs Q E hr h => ?_)
  · obtain ⟨k, la, pa, home, many, L, text, x, ws, left, ps, rfl, _⟩ := h
    rfl
  · obtain ⟨k, la, pa, home, many, L, text, x, ws, left, ps, rfl, D, W, hsub, hh, ht, hL, hx, q⟩ := h
    obtain ⟨dx, fs, o, F, _⟩ := D.ob
    have hll := sub_few W hsub
    have hsz : (⟨text.toArray⟩ : Str).length ≤ sizeLine := by rw [S_len]; exact Nat.le_of_lt (small1000 ht)
    have hxl : x.length ≤ 1000 := by rw [← hx, List.length_drop]; omega
    refine ⟨_, (pss_cons (ps_set (i := 1) sc_Desk_steps.nd rfl (Or.inl rfl) (pe_fn (ok_end_of T) hr (pa_cons (pe_slice sl_str (pe_fld (pv 0) rfl) (po_some (pe_op op_sub (pe_callB call_len_str (by rfl) T.n_len PySem.boot_len (pa_cons (pe_fld (pv 0) rfl) pa_nil)) (pe_fld (pv 0) rfl))) po_none) pa_nil)))
    (pss_cons (ps_set (i := 2) sc_Desk_steps.nd rfl (Or.inl rfl) (pe_lst pa_nil))
    (pss_cons (ps_for PassesOwn.never rfl (pi_list (pe_fld (pv 0) rfl)) (pg_name (i := 3) sc_Desk_steps.nd rfl (Or.inl rfl))
    (pss_one (ps_if (pt_cmpR op_eq (pe_fn (ok_begin_of T) hr (pa_cons (pv 3) pa_nil)) (pv 1) (nomark _))
    (pss_cons (ps_set (i := 4) sc_Desk_steps.nd rfl (Or.inl rfl) (pe_me (pv 0) (ok_Desk_ways_by T) hr (pa_cons (pv 3) pa_nil)))
    (pss_one (ps_if (pt_cmpR op_gt (pv 4) pe_int (nomark _))
    (pss_one (ps_expr (pe_bm PySem.F.plainAttrs_list PySem.F.slot_list_append PySem.F.type_list_append mt_append (pv 2) (pa_cons (pe_tup (pa_cons (pv 3) (pa_cons (pv 4) pa_nil))) pa_nil))))
    pss_nil)))
    pss_nil)))
    (pss_one (ps_ret (pv 2)))))), ?_⟩
    refine ⟨_, rfl, k, CD, dx, fs, _, rfl, o, T.cDesk, T.aDesk_text, F.f4, _, rfl, k, CD, dx, fs, _, rfl, o, T.cDesk, T.aDesk_text, F.f4, _, rfl, hsz, _, rfl, k, CD, dx, fs, _, rfl, o, T.cDesk, T.aDesk_length, F.f3, _, _, rfl, rfl, _, rfl, _, rfl, hsz, ?_⟩
    rw [show (((⟨text.toArray⟩ : Str).length : Nat) : Int) - (L : Int) = ((text.length - L : Nat) : Int) by rw [S_len]; omega, cut_from (by omega), hx]
    refine ⟨x, rfl, hxl, ?_⟩
    refine ⟨(by show 0 ≤ sizeLine; decide), fun c nc => ?_⟩
    have sc := same_upd (o := .lst []) nc
    have D1 := D.same sc
    obtain ⟨dx1, fs1, o1, F1, _⟩ := D1.ob
    refine ⟨_, rfl, k, CD, dx1, fs1, _, rfl, o1, T.cDesk, T.aDesk_left, F1.f5, la, rfl, ⟨_, SqL.of D1.lf⟩, ?_⟩
    refine for_list (K := K) (a := la) (xs := sL left) (fun i σ H' => ∃ z3 z4 rs, σ = [some (.ref k), some (sV (enn x)), some (.ref c), z3, z4] ∧ Same H H' ∧ StAt H' c rs ((left.take i).filter fun y => decide (bgn y = enn x) && decide (0 < nby ws left home y)) (nby ws left home))
      ⟨none, none, [], rfl, sc, ⟨upd_same, rfl, fun i r y h => (by cases h)⟩⟩ (fun i σ H' _ h => ?_) (fun i v σ H' hv h => ?_) (fun σ H' h => ?_)
    · obtain ⟨_, _, _, _, hs, _⟩ := h
      exact SqL.of (hs _ _ D.lf)
    · obtain ⟨z3, z4, rs, rfl, hs, B⟩ := h
      obtain ⟨y, hy, rfl⟩ := sL_at hv
      have hym := List.mem_of_getElem? hy
      have hyw := hsub.subset hym
      have hrl : rs.length ≤ 16 := by
        rw [B.len]
        have := List.length_filter_le (fun y => decide (bgn y = enn x) && decide (0 < nby ws left home y)) (left.take i)
        rw [List.length_take] at this
        omega
      refine ⟨_, rfl, y, rfl, w1000 W hyw, _, rfl, rfl, _, rfl, ?_⟩
      rw [dec_sV, take_snoc hy, filter_snoc]
      by_cases e : bgn y = enn x
      · refine iteTe (decide_eq_true e) ?_
        obtain ⟨dx2, fs2, o2, F2, _⟩ := (D.same hs).ob
        refine ⟨_, rfl, k, dx2, fs2, rfl, o2, F2.m2, _, rfl, k, la, pa, home, many, L, text, y, ws, left, ps, rfl, D.same hs, W, hsub, hh, hyw, fun H2 s2 => ?_⟩
        have B2 := B.same s2
        refine ⟨_, rfl, _, _, rfl, rfl, _, rfl, ?_⟩
        by_cases g : 0 < nby ws left home y
        · refine iteTe (decide_eq_true g) ?_
          rw [if_pos (by rw [decide_eq_true e, decide_eq_true g]; rfl)]
          refine ⟨_, rfl, .inl ⟨rfl, _, SqL.of B2.top⟩, _, rfl, _, rfl, (by show 2 ≤ sizeLine; decide), fun u nu => ?_⟩
          have su := same_upd (o := .tup [sV y, .int (nby ws left home y)]) nu
          have B3 := B2.same su
          have ncu : u ≠ c := (ne_of_none B2.top nu).symm
          have nc0 : H c = none := nc
          refine ⟨c, _, _, rfl, rfl, B3.top, by rw [List.length_map]; exact small1000 (by omega), ?_⟩
          refine ⟨_, _, rs ++ [u], rfl, same_chg ((hs.trans s2).trans su) nc0, ⟨by rw [upd_same, List.map_append]; rfl, by rw [List.length_append, List.length_append, B.len]; rfl, fun j r z hr hz => ?_⟩⟩
          by_cases hj : j < rs.length
          · rw [List.getElem?_append_left hj] at hr
            rw [List.getElem?_append_left (by rw [← B.len]; exact hj)] at hz
            have hc := B3.cont j r z hr hz
            have hra : r ≠ c := fun e => by rw [e, B3.top] at hc; cases hc
            rw [upd_ne hra]; exact hc
          · rw [List.getElem?_append_right (by omega)] at hr
            rw [List.getElem?_append_right (by rw [← B.len]; omega)] at hz
            have hi0 : j - rs.length = 0 := by
              by_cases h : j - rs.length = 0
              · exact h
              · rw [List.getElem?_eq_none (by simp; omega)] at hr; cases hr
            rw [hi0] at hr
            rw [← B.len, hi0] at hz
            have er : u = r := Option.some.inj hr
            have ez : y = z := Option.some.inj hz
            rw [← er, ← ez, upd_ne ncu, upd_same]
        · refine iteFe (decide_eq_false g) ?_
          rw [if_neg (by rw [decide_eq_false g, Bool.and_false]; decide), List.append_nil]
          exact ⟨_, _, rs, rfl, hs.trans s2, B2⟩
      · refine iteFe (decide_eq_false e) ?_
        rw [if_neg (by rw [decide_eq_false e, Bool.false_and]; decide), List.append_nil]
        exact ⟨_, _, rs, rfl, hs, B⟩
    · obtain ⟨z3, z4, rs, rfl, hs, B⟩ := h
      rw [sL_len, List.take_length] at B
      exact ⟨_, rfl, q c H' rs hs nc B⟩
def spAhead (K : PySem.W.Frag) (CD : Addr) : Sp := fun vs H Q _ => ∃ (k la pa : Addr) (home : Wd) (many L : Nat) (text : Wd) (left : List Wd) (ps : List Int), vs = [.ref k] ∧ DeskAt CD H k home many L text left ps la pa ∧ Q (.int ps.sum) H
theorem ok_Desk_ahead (T : Txt K mg CW CD) : Dm P w K mg base CD 1 "ahead" ["self"] (spAhead K CD) := by
  refine dm_of T.cDesk T.mDesk_ahead sc_Desk_ahead bd_Desk_ahead (fun vs H Q E h => ?_) (fun f cdv A outer s H vs Q E hr h => ?_)
  · obtain ⟨k, la, pa, home, many, L, text, left, ps, rfl, _⟩ := h
    rfl
  · obtain ⟨k, la, pa, home, many, L, text, left, ps, rfl, D, q⟩ := h
    obtain ⟨dx, fs, o, F, _⟩ := D.ob
    refine ⟨_, (pss_one (ps_ret (pe_callB (cr_sum rfl) (by rfl) T.n_sum (by decide +kernel) (pa_cons (pe_fld (pv 0) rfl) pa_nil)))), ?_⟩
    exact ⟨_, rfl, k, CD, dx, fs, _, rfl, o, T.cDesk, T.aDesk_passed, F.f6, pa, ps, rfl, SqL.of D.pd, q⟩
end
end Tw
namespace Tw
open PySem PySem.Spec PyProof.Rows L2 MT MW
section
variable {P : Program} {w : World} {K : PySem.W.Frag} {mg : Str → Option Value} {base : Heap} {CW CD : Addr}
open MD
theorem at_sl {v : Wd} {c : Nat} (h : v.getLast? = some c) : atI (⟨v.toArray⟩ : Str).cps.toList (-1) = some c := by
  show atI (v.toArray).toList (-1) = _
  rw [List.toList_toArray]; exact at_end h
theorem erase_wo {l : List Wd} (n : l.Nodup) (x : Wd) : l.erase x = wo l x := by
  rw [n.erase_eq_filter]
  unfold wo
  refine List.filter_congr fun y _ => ?_
  by_cases e : y = x
  · subst e; simp
  · simp [e]
theorem asc_take {l : List Wd} (h : Asc ltw l) {i : Nat} {x : Wd} (hx : l[i]? = some x) : l.take i = l.filter fun y => ltw y x := by
  induction l generalizing i with
  | nil => cases hx
  | cons a l ih =>
    obtain ⟨h1, h2⟩ := List.pairwise_cons.mp h
    cases i with
    | zero =>
      have e : a = x := Option.some.inj hx
      subst e
      rw [List.take_zero]
      refine (List.filter_eq_nil_iff.mpr fun y hy => ?_).symm
      rcases List.mem_cons.mp hy with rfl | hy
      · rw [lin.irr]; decide
      · have := h1 y hy
        intro g
        have := lin.tr _ _ _ this g
        rw [lin.irr] at this; cases this
    | succ i =>
      have hx' : l[i]? = some x := hx
      have ha := h1 x (List.mem_of_getElem? hx')
      rw [List.take_succ_cons, List.filter_cons_of_pos (p := fun y => ltw y x) ha, ih h2 hx']
theorem less_eq {ws left : List Wd} {L : Nat} {home here x : Wd} (W : WebOk ws L) (hs : left.Sublist ws) (hh : home ∈ pcs ws) {i : Nat} (hx : (zs ws left home here)[i]? = some x) (hb : bgn x = here) :
    lsum ((zs ws left home here).take i) (nby ws left home) = lsum (left.filter fun y => decide (bgn y = bgn x) && ltw y x) (nby ws left home) := by
  have as : Asc ltw (zs ws left home here) := List.Pairwise.filter _ (asc_sub W.asc hs)
  rw [asc_take as hx, hb]
  unfold zs
  rw [List.filter_filter, lsum_filter, lsum_filter]
  refine lsum_congr fun y hy => ?_
  by_cases e : bgn y = here
  · by_cases g : ltw y x = true
    · by_cases p : 0 < nby ws left home y
      · simp [e, g, p]
      · have nn : 0 ≤ nby ws left home y := N_nn home (W.gd (sub_wo hs y)) (enn_pcs (hs.subset hy))
        have z : nby ws left home y = 0 := by omega
        simp [e, g, z]
    · simp [g]
  · simp [e]
theorem sg_split {x : Wd} {c : Nat} (h : x.getLast? = some c) : x = bgn x ++ [c] := by
  have hp : x ≠ [] := fun e => by rw [e] at h; cases h
  rw [List.getLast?_eq_some_getLast hp] at h
  rw [← Option.some.inj h]
  exact (List.dropLast_concat_getLast hp).symm
def spWrite (CD : Addr) : Sp := fun vs H Q _ => ∃ (k la pa : Addr) (home : Wd) (many L : Nat) (text xp x : Wd) (ws left : List Wd) (ps : List Int) (c : Nat) (H0 : Hp), vs = [.ref k, sV [c]] ∧ DeskAt CD H k home many L text left ps la pa ∧ WebOk ws L ∧ left.Sublist ws ∧ home ∈ pcs ws ∧
  text.length ≤ 100 ∧ L ≤ text.length ∧ text.drop (text.length - L) = xp ∧ x ∈ left ∧ bgn x = enn xp ∧ x.getLast? = some c ∧ 0 < nby ws left home x ∧ ps.length ≤ 20 ∧ Same H0 H ∧ H0 k = none ∧ H0 la = none ∧ H0 pa = none ∧
  ∀ H', Same H0 H' → DeskAt CD H' k home many L (text ++ [c]) (wo left x) (ps ++ [lsum (left.filter fun y => decide (bgn y = bgn x) && ltw y x) (nby ws left home)]) la pa → Q (.bl true) H'
theorem ok_Desk_write (T : Txt K mg CW CD) : Dm P w K mg base CD 7 "write" ["self", "letter"] (spWrite CD) := by
  refine dm_of T.cDesk T.mDesk_write sc_Desk_write bd_Desk_write (fun vs H Q E h => ?_) (fun f cdv A outer s H vs Q E hr h => ?_)
  · obtain ⟨k, la, pa, home, many, L, text, xp, x, ws, left, ps, c, H0, rfl, _⟩ := h
    rfl
  · obtain ⟨k, la, pa, home, many, L, text, xp, x, ws, left, ps, c, H0, rfl, D, W, hsub, hh, ht, hL, hxp, hx, hxb, hxc, hpos, hpl, s0, nk, nla, npa, q⟩ := h
    obtain ⟨dx, fs, o, F, _⟩ := D.ob
    have hll := sub_few W hsub
    have hxz : x ∈ zs ws left home (enn xp) := List.mem_filter.mpr ⟨hx, by rw [decide_eq_true hxb, decide_eq_true hpos]; rfl⟩
    refine ⟨_, (pss_cons (ps_set (i := 2) sc_Desk_write.nd rfl (Or.inl rfl) pe_int)
    (pss_cons (ps_for PassesOwn.never rfl (pi_list (pe_me0 (pv 0) (ok_Desk_steps T) hr)) (pg_tup (by rfl) (pgs_cons (pg_name (i := 3) sc_Desk_write.nd rfl (Or.inl rfl)) (pgs_cons (pg_name (i := 4) sc_Desk_write.nd rfl (Or.inl rfl)) pgs_nil)))
    (pss_cons (ps_if (pt_cmpR op_eq (pe_ix ix_str (pv 3) (pe_un un_neg pe_int) (fun _ _ => rfl)) (pv 1) (nomark _))
    (pss_cons (ps_fldaug (pv 0) (pv 1) in_addS)
    (pss_cons (ps_expr (pe_bm PySem.F.plainAttrs_list PySem.F.slot_list_remove PySem.F.type_list_remove mt_removeS (pe_fld (pv 0) rfl) (pa_cons (pv 3) pa_nil)))
    (pss_cons (ps_expr (pe_bm PySem.F.plainAttrs_list PySem.F.slot_list_append PySem.F.type_list_append mt_append (pe_fld (pv 0) rfl) (pa_cons (pv 2) pa_nil)))
    (pss_one (ps_ret pe_bl)))))
    pss_nil)
    (pss_one (ps_aug (i := 2) sc_Desk_write.nd rfl (Or.inl rfl) (pv 4) ip_add))))
    (pss_one ps_never))), ?_⟩
    refine ⟨_, rfl, k, dx, fs, rfl, o, F.m3, k, la, pa, home, many, L, text, xp, ws, left, ps, rfl, D, W, hsub, hh, by omega, hL, hxp, fun a H1 rs s1 n1 B => ?_⟩
    refine ⟨a, rfl, ⟨_, SqL.of B.top⟩, ?_⟩
    refine for_list (K := K) (a := a) (xs := rs.map V.ref) (fun i σ H' => ∃ z3 z4, σ = [some (.ref k), some (sV [c]), some (.int (lsum ((zs ws left home (enn xp)).take i) (nby ws left home))), z3, z4] ∧ Same H1 H' ∧ ∀ y ∈ (zs ws left home (enn xp)).take i, y ≠ x)
      ⟨none, none, rfl, Same.refl H1, fun y hy => (by cases hy)⟩ (fun i σ H' _ h => ?_) (fun i v σ H' hv h => ?_) (fun σ H' h => ?_)
    · obtain ⟨_, _, _, hs, _⟩ := h
      exact SqL.of (hs _ _ B.top)
    · obtain ⟨z3, z4, rfl, hs, hno⟩ := h
      rw [List.getElem?_map] at hv
      obtain ⟨r, hr, rfl⟩ : ∃ r, rs[i]? = some r ∧ V.ref r = v := by
        cases e : rs[i]? with
        | none => rw [e] at hv; cases hv
        | some r => rw [e] at hv; exact ⟨r, rfl, Option.some.inj hv⟩
      have hi : i < (zs ws left home (enn xp)).length := by
        rw [← B.len]
        exact (List.getElem?_eq_some_iff.mp hr).1
      have hz : (zs ws left home (enn xp))[i]? = some (zs ws left home (enn xp))[i] := List.getElem?_eq_getElem hi
      generalize (zs ws left home (enn xp))[i] = z at hz
      have hzm := List.mem_filter.mp (List.mem_of_getElem? hz)
      have hzw := hsub.subset hzm.1
      have hzb : bgn z = enn xp := by
        have := (Bool.and_eq_true_iff.mp hzm.2).1
        exact of_decide_eq_true this
      have hc := hs _ _ (B.cont i r z hr hz)
      have hzl := W.len z hzw
      have hlo := W.lo
      have hzne : z ≠ [] := fun e => by rw [e] at hzl; have : (0 : Nat) = L := hzl; omega
      have hzc := List.getLast?_eq_some_getLast hzne
      generalize z.getLast hzne = cz at hzc
      refine ⟨r, _, rfl, SqT.of hc, rfl, _, _, rfl, _, _, rfl, rfl, ?_⟩
      refine ⟨_, rfl, _, rfl, _, _, cz, rfl, rfl, by rw [S_len]; exact Nat.le_of_lt (small1000 (w1000 W hzw)), at_sl hzc, _, rfl, rfl, _, rfl, ?_⟩
      have ed : decide (V.str ⟨#[cz]⟩ = sV [c]) = decide (([cz] : Wd) = [c]) := dec_sV [cz] [c]
      rw [ed]
      by_cases e : z = x
      · subst e
        have ec : cz = c := Option.some.inj (hzc.symm.trans hxc)
        refine iteTe (decide_eq_true (by rw [ec])) ?_
        have D1 := D.same (s1.trans hs)
        obtain ⟨dx1, fs1, o1, F1, l1⟩ := D1.ob
        have kla : k ≠ la := fun e => by have := D1.lf; rw [← e, o1] at this; cases this
        have kpa : k ≠ pa := fun e => by have := D1.pd; rw [← e, o1] at this; cases this
        refine ⟨_, rfl, k, CD, dx1, fs1, _, rfl, o1, T.cDesk, T.aDesk_text, F1.f4, _, rfl, _, _, rfl, rfl, ?_, dx1, fs1, o1, by omega, ?_⟩
        · rw [S_len, S_len]
          exact Nat.le_of_lt (small1000 (show text.length + 1 ≤ 1000 by omega))
        rw [S_cat]
        have F2 : DkF (putF "text" (sV (text ++ [c])) fs1) home many L (text ++ [c]) la pa := F1.txt
        have e2 : upd H' k (.ins CD dx1 (putF "text" (sV (text ++ [c])) fs1)) la = some (.lst (sL left)) := by rw [upd_ne kla.symm]; exact D1.lf
        have e3 : upd H' k (.ins CD dx1 (putF "text" (sV (text ++ [c])) fs1)) pa = some (.lst (ps.map V.int)) := by rw [upd_ne kpa.symm]; exact D1.pd
        refine ⟨_, rfl, k, CD, dx1, _, _, rfl, upd_same, T.cDesk, T.aDesk_left, F2.f5, .inl ⟨rfl, _, SqL.of e2⟩, _, rfl, la, left, z, rfl, rfl, e2, hx, ?_⟩
        have o3 : upd (upd H' k (.ins CD dx1 (putF "text" (sV (text ++ [c])) fs1))) la (.lst (sL (left.erase z))) k = some (.ins CD dx1 (putF "text" (sV (text ++ [c])) fs1)) := by rw [upd_ne kla]; exact upd_same
        have e4 : upd (upd H' k (.ins CD dx1 (putF "text" (sV (text ++ [c])) fs1))) la (.lst (sL (left.erase z))) pa = some (.lst (ps.map V.int)) := by rw [upd_ne D.ne.symm]; exact e3
        refine ⟨_, rfl, k, CD, dx1, _, _, rfl, o3, T.cDesk, T.aDesk_passed, F2.f6, .inl ⟨rfl, _, SqL.of e4⟩, _, rfl, pa, _, _, rfl, rfl, e4, by rw [List.length_map]; exact small1000 (by omega), ?_⟩
        refine q _ (same_chg (same_chg (same_chg (s0.trans (s1.trans hs)) nk) nla) npa) ⟨⟨dx1, _, by rw [upd_ne kpa]; exact o3, F2, ?_⟩, ?_, ?_, D.ne⟩
        · refine Nat.le_trans (length_putF _ _ _) ?_
          rw [List.length_append]
          show fs1.length + 1 ≤ 6 + (ps.length + 1)
          omega
        · rw [upd_ne D.ne, upd_same, erase_wo (W.nd.sublist hsub)]
        · rw [upd_same, List.map_append, less_eq W hsub hh hz hzb]; rfl
      · have ec : ¬ ([cz] : Wd) = [c] := fun h => by
          have h1 : cz = c := by injection h
          exact e ((sg_split hzc).trans (by rw [hzb, ← hxb, h1]; exact (sg_split hxc).symm))
        refine iteFe (decide_eq_false ec) ?_
        refine ⟨_, rfl, _, rfl, _, _, rfl, rfl, some (sV z), some (.int (nby ws left home z)), ?_, hs, fun y hy => ?_⟩
        · rw [take_snoc hz, lsum_app]
          rfl
        · rcases (mem_take_succ hz y).mp hy with hy | rfl
          · exact hno y hy
          · exact e
    · obtain ⟨z3, z4, rfl, hs, hno⟩ := h
      rw [List.length_map, B.len, List.take_length] at hno
      exact absurd rfl (hno x hxz)
end
end Tw
namespace Tw
open PySem PySem.Spec PyProof.Rows L2 MT MW
section
variable {P : Program} {w : World} {K : PySem.W.Frag} {mg : Str → Option Value} {base : Heap} {CW CD : Addr}
open MD
def spWeb (K : PySem.W.Frag) (CW : Addr) : Sp := fun vs H Q _ => ∃ (x a dx : Addr) (us : List Wd) (L : Nat) (H0 : Hp), vs = [.ref x, .ref a] ∧ H x = some (.ins CW dx []) ∧ Same H0 H ∧ H0 x = none ∧ SqL K H0 a (sL us) ∧ us.Nodup ∧ WebOk (srt us) L ∧
  ∀ (H' : Hp) (t : Addr), Same H0 H' → WebAt CW H' x (srt us) L t → Q .non H'
theorem ok_Web_init (T : Txt K mg CW CD) : Dk P w K mg base CW 2 "Web" ["self", "words"] (spWeb K CW) := by
  refine dk_of T.gWeb T.mWeb sc_Web_init bd_Web_init (fun vs H Q E h => ?_) (fun f cdv A outer s H vs Q E hr h => ?_)
  · obtain ⟨x, a, dx, us, L, H0, rfl, _⟩ := h
    rfl
  · obtain ⟨x, a, dx, us, L, H0, rfl, hx, s0, nx, ha0, nd, W, q⟩ := h
    have hp := srt_perm nd
    have hlen : us.length ≤ 16 := by rw [← srt_len nd]; exact W.few
    have hne : us ≠ [] := fun e => by
      have := W.ne
      rw [e] at this
      exact this rfl
    have hpos := List.length_pos_iff.mpr hne
    have hw : ∀ y ∈ us, y.length = L ∧ ∀ c ∈ y, 97 ≤ c ∧ c < 103 := fun y hy => ⟨W.len y (mem_srt.mpr hy), W.sg y (mem_srt.mpr hy)⟩
    have hlo := W.lo
    have hhi := W.hi
    obtain ⟨w0, r0, e0⟩ := List.exists_cons_of_ne_nil hne
    have hw0 : w0 ∈ us := by rw [e0]; exact List.mem_cons_self ..
    have lz : ∀ y ∈ us, (⟨y.toArray⟩ : Str).length ≤ sizeLine := fun y hy => by rw [S_len, (hw y hy).1]; exact Nat.le_of_lt (small1000 (by omega))
    have g0 : (sL us)[0]? = some (sV w0) := by rw [e0]; rfl
    have ha := s0.seq ha0
    refine ⟨_, (pss_cons (ps_if (pt_cmpR op_gt (pe_callB call_len_seq (by rfl) T.n_len PySem.boot_len (pa_cons (pv 1) pa_nil)) (pe_gl T.cMOST_WORDS) (nomark _))
    (pss_one ps_never)
    pss_nil)
    (pss_cons (ps_if (pt_cmpR op_eq (pe_callB call_len_seq (by rfl) T.n_len PySem.boot_len (pa_cons (pv 1) pa_nil)) pe_int (nomark _))
    (pss_one ps_never)
    pss_nil)
    (pss_cons (ps_for PassesOwn.never rfl (pi_list (pv 1)) (pg_name (i := 2) sc_Web_init.nd rfl (Or.inl rfl))
    (pss_one (ps_if (PW.pt (pw_or (pt_not (pt_val (pe_fn (ok_is_sound T) hr (pa_cons (pv 2) pa_nil)))) (pw_or1 (pt_cmpR op_ne (pe_callB call_len_str (by rfl) T.n_len PySem.boot_len (pa_cons (pv 2) pa_nil)) (pe_callB call_len_str (by rfl) T.n_len PySem.boot_len (pa_cons (pe_ix ix_list (pv 1) pe_int (fun _ _ => rfl)) pa_nil)) (nomark _)))))
    (pss_one ps_never)
    pss_nil)))
    (pss_cons (ps_if (pt_cmpR op_lt (pe_lenSetS rfl rfl T.n_len rfl T.n_set (pv 1)) (pe_callB call_len_seq (by rfl) T.n_len PySem.boot_len (pa_cons (pv 1) pa_nil)) (nomark _))
    (pss_one ps_never)
    pss_nil)
    (pss_cons (ps_fld (pv 0) (pe_callTy call_tuple_of (by rfl) T.n_tuple (by decide +kernel) (pa_cons (pe_callB cr_sortW (by rfl) T.n_sorted (by decide +kernel) (pa_cons (pv 1) pa_nil)) pa_nil)) rfl)
    (pss_one (ps_fld (pv 0) (pe_callB call_len_str (by rfl) T.n_len PySem.boot_len (pa_cons (pe_ix ix_list (pv 1) pe_int (fun _ _ => rfl)) pa_nil)) rfl))))))), ?_⟩
    refine ⟨_, rfl, a, _, rfl, .inl ha, _, _, rfl, rfl, _, rfl, iteFe (decide_eq_false (by rw [sL_len]; omega)) ?_⟩
    refine ⟨_, rfl, a, _, rfl, .inl ha, rfl, _, rfl, iteFe ?_ ?_⟩
    · rw [sL_len]
      refine decide_eq_false fun e => ?_
      injection e with e
      omega
    refine ⟨_, rfl, a, rfl, ⟨_, ha⟩, ?_⟩
    refine for_list (K := K) (a := a) (xs := sL us) (fun i σ H' => ∃ z, σ = [some (.ref x), some (.ref a), z] ∧ H' = H)
      ⟨none, rfl, rfl⟩ (fun i σ H' _ h => ?_) (fun i v σ H' hv h => ?_) (fun σ H' h => ?_)
    · obtain ⟨_, _, rfl⟩ := h
      exact ha
    · obtain ⟨z, rfl, rfl⟩ := h
      obtain ⟨y, hy, rfl⟩ := sL_at hv
      have hym := List.mem_of_getElem? hy
      have hyw := hw y hym
      refine ⟨_, rfl, y, rfl, by omega, by omega, hyw.2, true, rfl, iteFe rfl ?_⟩
      refine ⟨_, rfl, _, rfl, lz y hym, _, rfl, a, _, 0, _, rfl, rfl, ha, at_of (j := 0) rfl g0, _, rfl, lz w0 hw0, rfl, _, rfl, iteFe ?_ ⟨some (sV y), rfl, rfl⟩⟩
      rw [S_len, S_len, hyw.1, (hw w0 hw0).1, decide_eq_true rfl]; rfl
    · obtain ⟨z, rfl, rfl⟩ := h
      refine ⟨_, rfl, a, us, rfl, ha, by omega, nd, _, rfl, a, _, rfl, .inl ha, _, _, rfl, rfl, _, rfl, iteFe (decide_eq_false (by rw [sL_len]; omega)) ?_⟩
      refine ⟨_, rfl, a, us, rfl, ha, nd, by omega, fun u nu => ?_⟩
      have su := same_upd (o := .lst (sL (srt us))) nu
      refine ⟨u, _, rfl, .inl ⟨SqL.of upd_same, fun t nt => ?_⟩⟩
      have st := same_upd (o := .tup (sL (srt us))) nt
      have hx2 := (su.trans st) _ _ hx
      have ntx : t ≠ x := (ne_of_none (su _ _ hx) nt).symm
      refine ⟨_, rfl, x, CW, dx, _, rfl, hx2, T.cWeb, T.aWeb_words, by decide, ?_⟩
      have t1 := same_chg (o := .ins CW dx (putF "words" (.ref t) [])) (s0.trans (su.trans st)) nx
      refine ⟨_, rfl, a, _, 0, _, rfl, rfl, t1.seq ha0, at_of (j := 0) rfl g0, _, rfl, lz w0 hw0, ?_⟩
      refine ⟨_, rfl, x, CW, dx, _, rfl, upd_same, T.cWeb, T.aWeb_length, Nat.lt_of_le_of_lt (putF_len (Nat.le_refl 0)) (by decide), ?_⟩
      rw [upd_upd]
      refine q _ t (same_chg (s0.trans (su.trans st)) nx) ⟨⟨dx, ?_⟩, by rw [upd_ne ntx]; exact upd_same, W⟩
      rw [upd_same, S_len, (hw w0 hw0).1]; rfl
end
end Tw
namespace Tw
open PySem PySem.Spec PyProof.Rows L2 MT MW
section
variable {P : Program} {w : World} {K : PySem.W.Frag} {mg : Str → Option Value} {base : Heap} {CW CD : Addr}
open MD
/-! ### the law's helpers about a web -/
theorem for_str {w : Wd} {g : TG} {tb : TS} {D : Ends} {σ : L2.St} {H : Hp} (Pv : Nat → L2.St → Hp → Prop) (h0 : Pv 0 σ H)
    (hs : ∀ i c σ H, w[i]? = some c → Pv i σ H → g (sV [c]) σ H fun σ2 H2 => tb { D with nx := Pv (i + 1), ct := Pv (i + 1), bk := D.nx } σ2 H2) (hd : ∀ σ H, Pv w.length σ H → D.nx σ H) :
    ∃ W : Nat → Nat → L2.St → Hp → Prop, (∃ m, W 0 m σ H) ∧ ∀ i m σ H, W i m σ H →
      ((Its ⟨w.toArray⟩).stop i H ∧ D.nx σ H) ∨ ((Its ⟨w.toArray⟩).go i H ∧ ∃ N : L2.St → Hp → Prop, (∀ σ' H', N σ' H' → ∃ m', m' < m ∧ W (i + 1) m' σ' H') ∧ ∀ x H', (Its ⟨w.toArray⟩).yld i H x H' → g x σ H' fun σ2 H2 => tb { D with nx := N, ct := N, bk := D.nx } σ2 H2) := by
  have hsz : (⟨w.toArray⟩ : Str).cps.size = w.length := by simp
  refine ⟨fun i m σ H => m = w.length - i ∧ i ≤ w.length ∧ Pv i σ H, ⟨_, rfl, Nat.zero_le _, h0⟩, ?_⟩
  rintro i m σ H ⟨rfl, hi, p⟩
  by_cases hlt : i < w.length
  · refine .inr ⟨by show i < (⟨w.toArray⟩ : Str).cps.size; rw [hsz]; exact hlt, Pv (i + 1), fun σ' H' p' => ⟨_, Nat.sub_lt_sub_left hlt (Nat.lt_succ_self i), rfl, hlt, p'⟩, fun x H' hy => ?_⟩
    obtain ⟨rfl, c, ec, rfl⟩ := hy
    exact hs i c σ _ (by simpa using ec) p
  · have e : i = w.length := by omega
    subst e
    exact .inl ⟨by show (⟨w.toArray⟩ : Str).cps.size ≤ w.length; rw [hsz]; exact Nat.le_refl _, hd σ H p⟩
def spWritten (CW : Addr) : Sp := fun vs H Q _ => ∃ (p t : Addr) (ws S : List Wd) (L : Nat), vs = [.ref p, sV (rtx S)] ∧ WebAt CW H p ws L t ∧ RingOk ws ∧ RingOrd ws S ∧
  ∀ H', Same H H' → Q (.int (num bgn enn ltw (pcs ws) (bgn (ws.headD [])) S.tail ws.tail)) H'
theorem ok__law_written (T : Txt K mg CW CD) : Df P w K mg base 8 "_law_written" ["web", "ring"] (spWritten CW) := by
  refine df_of T.d__law_written sc__law_written bd__law_written (fun vs H Q E h => ?_) (fun f cdv A outer s H vs Q E hr h => ?_)
  · obtain ⟨p, t, ws, S, L, rfl, _⟩ := h
    rfl
  · obtain ⟨p, t, ws, S, L, rfl, W, ok, o, q⟩ := h
    obtain ⟨x0, r0, e0, hx0, R⟩ := rg_of o W.ok
    have hhm := head_mem W.ok
    have eh : ws.headD [] = x0 := Option.some.inj (hhm.2.symm.trans hx0)
    have hpl := o.perm.length_eq
    have hfew := W.ok.few
    have hlo := W.ok.lo
    have hhi := W.ok.hi
    have hSl : 0 < S.length := by rw [e0]; exact Nat.succ_pos _
    have hhp : bgn x0 ∈ pcs ws := by rw [← eh]; exact bgn_pcs hhm.1
    have hws : ws = x0 :: ws.tail := by
      obtain ⟨a, b, e⟩ := List.exists_cons_of_ne_nil W.ok.ne
      rw [e] at eh
      have : a = x0 := eh
      rw [e, this]; rfl
    rw [eh] at q
    refine ⟨_, (pss_cons (ps_set (i := 2) sc__law_written.nd rfl (Or.inl rfl) (pe_mk (ok_Desk_init T) hr (pa_cons (pv 0) pa_nil)))
    (pss_cons (ps_set (i := 3) sc__law_written.nd rfl (Or.inl rfl) (pe_callB call_len_str (by rfl) T.n_len PySem.boot_len (pa_cons (pe_ix ix_tup (pe_fld (pv 0) rfl) pe_int (fun _ _ => rfl)) pa_nil)))
    (pss_cons (ps_set (i := 4) sc__law_written.nd rfl (Or.inl rfl) (pe_op op_repS (pv 1) (pe_op op_add (pv 3) pe_int)))
    (pss_cons (ps_for PassesOwn.never rfl (pi_str (pe_slice sl_str (pv 4) (po_some (pv 3)) (po_some (pe_op op_sub (pe_op op_add (pe_callB call_len_str (by rfl) T.n_len PySem.boot_len (pa_cons (pv 1) pa_nil)) (pv 3)) pe_int)))) (pg_name (i := 5) sc__law_written.nd rfl (Or.inl rfl))
    (pss_one (ps_expr (pe_me (pv 2) (ok_Desk_write T) hr (pa_cons (pv 5) pa_nil)))))
    (pss_cons (ps_if (pt_cmpR op_ne (pe_me0 (pv 2) (ok_Desk_done T) hr) (pv 1) (nomark _))
    (pss_one (ps_ret pe_non))
    pss_nil)
    (pss_one (ps_ret (pe_me0 (pv 2) (ok_Desk_ahead T) hr)))))))), ?_⟩
    refine ⟨_, rfl, fun k dk nk ndk nek => ⟨k, p, t, dk, ws, L, H, rfl, upd_same, W, (same_upd ndk).trans (same_upd (by rw [upd_ne nek.symm]; exact nk)), nk, ok, fun H1 la pa s1 nla npa D0 => ⟨rfl, ?_⟩⟩⟩
    rw [eh] at D0
    obtain ⟨dx, hob⟩ := (W.same s1).ob
    refine ⟨_, rfl, p, CW, dx, _, _, rfl, hob, T.cWeb, T.aWeb_words, webF_words _ _, t, sL ws, 0, sV x0, rfl, rfl, SqT.of (W.same s1).tp, at_of (j := 0) rfl (sL_get (by rw [← List.head?_eq_getElem?]; exact hx0)), _, rfl, ?_, ?_⟩
    · rw [S_len]; exact Nat.le_of_lt (small1000 (by rw [← eh]; exact w1000 W.ok hhm.1))
    have lx0 : x0.length = L := W.ok.len x0 (by rw [← eh]; exact hhm.1)
    rw [S_len, lx0]
    have hrl := rtx_len S
    have rsz : (⟨(rtx S).toArray⟩ : Str).length ≤ sizeLine := by rw [S_len, hrl]; exact Nat.le_of_lt (small1000 (by omega))
    have big : S.length * (L + 1) ≤ 16 * 9 := Nat.mul_le_mul (by omega) (by omega)
    refine ⟨_, rfl, _, rfl, _, _, rfl, rfl, rtx S, L + 1, rfl, rfl, by omega, by omega, by rw [hrl]; omega, by rw [hrl]; omega, ?_⟩
    have rpl : (rpt (L + 1) (rtx S)).length = (L + 1) * S.length := by rw [rpt_len, hrl]
    have rpl2 : (L + 1) * S.length = S.length * (L + 1) := Nat.mul_comm ..
    have rpl3 : S.length * (L + 1) = S.length * L + S.length := Nat.mul_succ ..
    have rpl4 : L ≤ S.length * L := Nat.le_mul_of_pos_left _ hSl
    refine ⟨_, rfl, _, rfl, _, rfl, _, rfl, _, rfl, rsz, _, rfl, _, _, rfl, rfl, _, _, rfl, rfl, _, rfl, _, rfl, ?_, ?_⟩
    · rw [S_len, rpl]; exact Nat.le_of_lt (small1000 (by omega))
    have ehi : (((⟨(rtx S).toArray⟩ : Str).length : Nat) : Int) + (L : Int) - 1 = ((S.length + L - 1 : Nat) : Int) := by rw [S_len, hrl]; omega
    rw [ehi, cut_nat (by omega) (by omega)]
    refine ⟨_, rfl, ?_⟩
    have elen : (((rpt (L + 1) (rtx S)).drop L).take (S.length + L - 1 - L)).length = S.length - 1 := by
      rw [List.length_take, List.length_drop, rpl]; omega
    refine for_str (fun i σ H' => ∃ left ps z5, σ = [some (.ref p), some (sV (rtx S)), some (.ref k), some (.int (L : Nat)), some (sV (rpt (L + 1) (rtx S))), z5] ∧ Same H H' ∧ DeskAt CD H' k (bgn x0) ws.length L (dtx S i) left ps la pa ∧ left.Sublist ws ∧ (S.drop (i + 1)).Perm left ∧
        (∀ x, S[i]? = some x → isWalk bgn enn (enn x) (S.drop (i + 1)) (bgn x0)) ∧ ps.length ≤ i + 1 ∧ ps.sum + num bgn enn ltw (pcs ws) (bgn x0) (S.drop (i + 1)) left = num bgn enn ltw (pcs ws) (bgn x0) S.tail ws.tail)
      ⟨ws.tail, [0], none, rfl, s1, by rw [e0]; exact D0, List.tail_sublist ws, ?_, fun x hx => ?_, Nat.le_refl _, ?_⟩ (fun i c σ H' hc h => ?_) (fun σ H' h => ?_)
    · have := o.perm
      rw [e0, hws] at this
      rw [e0]
      exact (List.perm_cons x0).mp this
    · have := R.walk
      rw [e0] at this hx ⊢
      rw [← Option.some.inj hx]
      exact this.2
    · rw [e0]
      show (0 + 0 : Int) + _ = _
      rw [Int.zero_add, Int.zero_add]; rfl
    · obtain ⟨left, ps, z5, rfl, hs, D, hsub, hp, hwk, hps, hnum⟩ := h
      have hi : i < S.length - 1 := by
        rw [← elen]
        exact (List.getElem?_eq_some_iff.mp hc).1
      have hx : S[i]? = some S[i] := List.getElem?_eq_getElem (by omega)
      have hy : S[i + 1]? = some S[i + 1] := List.getElem?_eq_getElem (by omega)
      have edr : S.drop (i + 1) = S[i + 1] :: S.drop (i + 1 + 1) := List.drop_eq_getElem_cons (by omega)
      generalize S[i] = x at hx
      generalize S[i + 1] = y at hy edr
      have hwk := hwk x hx
      rw [edr] at hwk hp hnum
      have hyl : y ∈ left := hp.mem_iff.mp (List.mem_cons_self ..)
      have hyw := hsub.subset hyl
      have hlt := letter R.walk R.len (L - 1) (i + 1) y (by omega) hy
      have hcc : y[L - 1]? = some c := by
        rw [hlt, show i + 1 + (L - 1) = L + i by omega]
        rw [List.getElem?_take, if_pos (by omega), List.getElem?_drop, rpt_get _ _ _ (by rw [hrl]; omega), hrl] at hc
        exact hc
      have hyL := W.ok.len y hyw
      have hgl : y.getLast? = some c := by rw [List.getLast?_eq_getElem?, hyL]; exact hcc
      have hxL := R.len
      have hdl := dtx_len hxL hx
      have hpos : 0 < nby ws left (bgn x0) y := by
        have := N_pos (W.ok.gd (sub_wo hsub y)) (enn_pcs hyw) (⟨perm_wo (W.ok.nd.sublist hsub) hp, hwk.2⟩ : Tr bgn enn (wo left y) (enn y) (bgn x0) (S.drop (i + 1 + 1)))
        show (0 : Int) < N bgn enn (pcs ws) (wo left y) (enn y) (bgn x0)
        omega
      obtain ⟨dxk, fsk, ok2, Fk, _⟩ := D.ob
      refine ⟨_, rfl, k, dxk, fsk, rfl, ok2, Fk.m5, _, rfl, k, la, pa, bgn x0, ws.length, L, dtx S i, x, y, ws, left, ps, c, H, rfl, D, W.ok, hsub, hhp, by omega, by omega, dtx_last hxL hx, hyl, hwk.1, hgl, hpos, by omega, hs, nk, nla, npa, fun H2 s2 D2 => ?_⟩
      rw [dtx_succ R.walk R.len hlo hx hy hcc] at D2
      refine ⟨_, _, some (sV [c]), rfl, s2, D2, (sub_wo hsub y), perm_wo (W.ok.nd.sublist hsub) hp, fun z hz => ?_, ?_, ?_⟩
      · rw [hy] at hz
        rw [← Option.some.inj hz]
        exact hwk.2
      · rw [List.length_append]; show ps.length + 1 ≤ _; omega
      · rw [← hnum, List.sum_append]
        show ps.sum + (_ + 0) + _ = ps.sum + (_ + _)
        rw [Int.add_zero, Int.add_assoc]
    · obtain ⟨left, ps, z5, rfl, hs, D, hsub, hp, hwk, hps, hnum⟩ := h
      rw [elen] at D hp hnum
      rw [show S.length - 1 + 1 = S.length by omega, List.drop_length] at hp hnum
      have hl : left = [] := List.nil_perm.mp hp
      subst hl
      have hxl : S[S.length - 1]? = some S[S.length - 1] := List.getElem?_eq_getElem (by omega)
      have hdl := dtx_len R.len hxl
      have hdone := dtx_done R.len hlo (i := S.length - 1) (by omega)
      obtain ⟨dxk, fsk, ok2, Fk, _⟩ := D.ob
      refine ⟨_, rfl, k, dxk, fsk, rfl, ok2, Fk.m1, k, la, pa, bgn x0, ws.length, L, dtx S (S.length - 1), ps, rfl, D, by omega, by omega, _, rfl, rfl, _, rfl, ?_⟩
      rw [← hpl, hdone]
      refine iteFe (by rw [dec_sV, decide_eq_true rfl]; rfl) ?_
      refine ⟨_, rfl, k, dxk, fsk, rfl, ok2, Fk.m4, k, la, pa, bgn x0, ws.length, L, _, _, ps, rfl, D, ?_⟩
      have : ps.sum = num bgn enn ltw (pcs ws) (bgn x0) S.tail ws.tail := by
        rw [← hnum]
        exact (Int.add_zero _).symm
      rw [this]
      exact q H' hs
end
end Tw
namespace Tw
open PySem PySem.Spec PyProof.Rows L2 MT MW
section
variable {P : Program} {w : World} {K : PySem.W.Frag} {mg : Str → Option Value} {base : Heap} {CW CD : Addr}
open MD
def spLDone (K : PySem.W.Frag) (CW : Addr) : Sp := fun vs H Q _ => ∃ (p t q : Addr) (ws S : List Wd) (L : Nat) (e : De), vs = [.ref p, sV (rtx S), .ref q] ∧ WebAt CW H p ws L t ∧ H q = some (.tup (deV e)) ∧ Dok S.length e ∧ RingOrd ws S ∧ RingOrd ws (dex S e) ∧ ∀ H', Same H H' → Q (sV (rtx (dex S e))) H'
theorem ok__law_done (T : Txt K mg CW CD) : Df P w K mg base 3 "_law_done" ["web", "ring", "deed"] (spLDone K CW) := by
  refine df_of T.d__law_done sc__law_done bd__law_done (fun vs H Q E h => ?_) (fun f cdv A outer s H vs Q E hr h => ?_)
  · obtain ⟨p, t, q, ws, S, L, e, rfl, _⟩ := h
    rfl
  · obtain ⟨p, t, q, ws, S, L, ⟨a, b, c, d⟩, rfl, W, hq, ok, o, oE, q⟩ := h
    have o1 := ok.a1
    have o2 := ok.ab
    have o3 := ok.bc
    have o4 := ok.cd
    have o5 := ok.dn
    dsimp only at o1 o2 o3 o4 o5
    have hfew := W.ok.few
    have hpl := o.perm.length_eq
    have tl := rtx_len S
    have hz : (⟨(rtx S).toArray⟩ : Str).length ≤ sizeLine := by rw [S_len]; exact Nat.le_of_lt (small1000 (by omega))
    have lz : ∀ n, n ≤ 1000 → n ≤ sizeLine := fun n h => Nat.le_of_lt (small1000 h)
    refine ⟨_, (pss_cons (ps_asg (pv 2) (pg_tup (by rfl) (pgs_cons (pg_name (i := 3) sc__law_done.nd rfl (Or.inl rfl)) (pgs_cons (pg_name (i := 4) sc__law_done.nd rfl (Or.inl rfl)) (pgs_cons (pg_name (i := 5) sc__law_done.nd rfl (Or.inl rfl)) (pgs_cons (pg_name (i := 6) sc__law_done.nd rfl (Or.inl rfl)) pgs_nil))))))
    (pss_cons (ps_if (pt_not (pt_chainN pe_int (lk_cons op_le (pv 3) (lk_cons op_lt (pv 4) (lk_cons op_le (pv 5) (lk_cons op_lt (pv 6) (lk_one op_le (pe_callB call_len_str (by rfl) T.n_len PySem.boot_len (pa_cons (pv 1) pa_nil)))))))))
    (pss_one (ps_ret pe_non))
    pss_nil)
    (pss_cons (ps_set (i := 7) sc__law_done.nd rfl (Or.inl rfl) (pe_op op_add_str (pe_slice sl_str (pv 1) po_none (po_some (pv 3))) (pe_slice sl_str (pv 1) (po_some (pv 5)) (po_some (pv 6)))))
    (pss_cons (ps_set (i := 7) sc__law_done.nd rfl (Or.inl rfl) (pe_op op_add_str (pe_op op_add_str (pe_op op_add_str (pv 7) (pe_slice sl_str (pv 1) (po_some (pv 4)) (po_some (pv 5)))) (pe_slice sl_str (pv 1) (po_some (pv 3)) (po_some (pv 4)))) (pe_slice sl_str (pv 1) (po_some (pv 6)) po_none)))
    (pss_cons (ps_if (pt_not (pt_val (pe_fn (ok_is_ring T) hr (pa_cons (pv 0) (pa_cons (pv 7) pa_nil)))))
    (pss_one (ps_ret pe_non))
    pss_nil)
    (pss_one (ps_ret (pv 7)))))))), ?_⟩
    refine ⟨_, rfl, _, _, rfl, SqT.of hq, rfl, _, _, rfl, _, _, rfl, _, _, rfl, _, _, rfl, rfl, ?_⟩
    refine ⟨_, rfl, _, _, rfl, rfl, _, rfl, iteTe (decide_eq_true (by dsimp only; omega)) ?_⟩
    refine ⟨_, rfl, _, _, rfl, rfl, _, rfl, iteTe (decide_eq_true (by dsimp only; omega)) ?_⟩
    refine ⟨_, rfl, _, _, rfl, rfl, _, rfl, iteTe (decide_eq_true (by dsimp only; omega)) ?_⟩
    refine ⟨_, rfl, _, _, rfl, rfl, _, rfl, iteTe (decide_eq_true (by dsimp only; omega)) ?_⟩
    refine ⟨_, rfl, _, rfl, hz, _, _, rfl, rfl, _, rfl, iteFe (by rw [S_len, tl, decide_eq_true (by dsimp only; omega)]; rfl) ?_⟩
    refine ⟨_, rfl, _, rfl, _, rfl, _, rfl, hz, ?_⟩
    refine ⟨_, rfl, _, rfl, _, rfl, _, rfl, _, rfl, _, rfl, hz, ?_⟩
    rw [cut_to (by dsimp only; omega), cut_nat (by dsimp only; omega) (by dsimp only; omega)]
    refine ⟨_, _, rfl, rfl, ?_, ?_⟩
    · rw [S_len, S_len, List.length_take, List.length_take, List.length_drop]; exact lz _ (by omega)
    rw [S_cat]
    refine ⟨_, rfl, _, rfl, _, rfl, _, rfl, _, rfl, _, rfl, _, rfl, hz, ?_⟩
    rw [cut_nat (by dsimp only; omega) (by dsimp only; omega)]
    refine ⟨_, _, rfl, rfl, ?_, ?_⟩
    · rw [S_len, S_len]; simp only [List.length_append, List.length_take, List.length_drop]; exact lz _ (by omega)
    refine ⟨_, rfl, _, rfl, _, rfl, _, rfl, _, rfl, _, rfl, hz, ?_⟩
    rw [S_cat, cut_nat (by dsimp only; omega) (by dsimp only; omega)]
    refine ⟨_, _, rfl, rfl, ?_, ?_⟩
    · rw [S_len, S_len]; simp only [List.length_append, List.length_take, List.length_drop]; exact lz _ (by omega)
    refine ⟨_, rfl, _, rfl, _, rfl, _, rfl, hz, ?_⟩
    rw [S_cat, cut_from (by dsimp only; omega)]
    refine ⟨_, _, rfl, rfl, ?_, ?_⟩
    · rw [S_len, S_len]; simp only [List.length_append, List.length_take, List.length_drop]; exact lz _ (by omega)
    rw [S_cat]
    have e : (rtx S).take a ++ ((rtx S).drop c).take (d - c) ++ ((rtx S).drop b).take (c - b) ++ ((rtx S).drop a).take (b - a) ++ (rtx S).drop d = rtx (dex S (a, b, c, d)) := by
      have em : rtx (dex S (a, b, c, d)) = dex (rtx S) (a, b, c, d) := exch_map fsg S a b c d
      rw [em]
      unfold dex exch
      simp only [List.append_assoc]
    rw [e]
    refine ⟨_, rfl, _, rfl, p, t, ws, dex S (a, b, c, d), L, rfl, W, oE, fun H1 s1 => ⟨true, rfl, iteFe rfl ?_⟩⟩
    exact ⟨_, rfl, q H1 s1⟩
theorem ok__law_led (T : Txt K mg CW CD) : Df P w K mg base 5 "_law_led" ["web", "one", "two"] (fun vs H Q _ => ∃ (p t : Addr) (ws S U : List Wd) (L : Nat), vs = [.ref p, sV (rtx S), sV (rtx U)] ∧ WebAt CW H p ws L t ∧ RingOrd ws S ∧ RingOrd ws U ∧ ∀ H', Same H H' → Q (.bl true) H') := by
  refine df_of T.d__law_led sc__law_led bd__law_led (fun vs H Q E h => ?_) (fun f cdv A outer s H vs Q E hr h => ?_)
  · obtain ⟨p, t, ws, S, U, L, rfl, _⟩ := h
    rfl
  · obtain ⟨p, t, ws, S, U, L, rfl, W, o, u, q⟩ := h
    refine ⟨_, (pss_cons (ps_set (i := 3) sc__law_led.nd rfl (Or.inl rfl) (pe_fn (ok_led T) hr (pa_cons (pv 0) (pa_cons (pv 1) (pa_cons (pv 2) pa_nil)))))
    (pss_cons (ps_if (PW.pt (pw_or (pt_not (pt_val (pe_callB RZ.call_isTy (by rfl) T.n_isinstance (by decide +kernel) (pa_cons (pv 3) (pa_cons (pe_bltn (v := .ty "list") (by rfl) T.n_list (by decide +kernel) rfl) pa_nil))))) (pw_or1 (pt_cmpR op_ge (pe_callB call_len_seq (by rfl) T.n_len PySem.boot_len (pa_cons (pv 3) pa_nil)) (pe_callB call_len_seq (by rfl) T.n_len PySem.boot_len (pa_cons (pe_fld (pv 0) rfl) pa_nil)) (nomark _)))))
    (pss_one (ps_ret pe_bl))
    pss_nil)
    (pss_cons (ps_set (i := 4) sc__law_led.nd rfl (Or.inl rfl) (pv 1))
    (pss_cons (ps_for PassesOwn.never rfl (pi_list (pv 3)) (pg_name (i := 5) sc__law_led.nd rfl (Or.inl rfl))
    (pss_cons (ps_set (i := 4) sc__law_led.nd rfl (Or.inl rfl) (pe_fn (ok__law_done T) hr (pa_cons (pv 0) (pa_cons (pv 4) (pa_cons (pv 5) pa_nil)))))
    (pss_one (ps_if (pt_cmpR op_isN (pv 4) pe_non (nomark _))
    (pss_one (ps_ret pe_bl))
    pss_nil))))
    (pss_one (ps_ret (pe_cmpR op_eq (pv 4) (pv 2) (nomark _)))))))), ?_⟩
    refine ⟨_, rfl, _, rfl, _, rfl, p, t, ws, S, U, L, rfl, W, o, u, fun a H1 rs ds s1 B hR hlen => ?_⟩
    have W1 := W.same s1
    obtain ⟨dx, hob⟩ := W1.ob
    have rl := B.len
    refine ⟨_, rfl, _, _, rfl, .lst B.top, true, rfl, iteFe rfl ?_⟩
    refine ⟨_, rfl, a, _, rfl, .inl (SqL.of B.top), _, rfl, p, CW, dx, _, _, rfl, hob, T.cWeb, T.aWeb_words, webF_words _ _, t, _, rfl, .inr (SqT.of W1.tp), _, _, rfl, rfl, _, rfl, iteFe (decide_eq_false (by rw [sL_len, List.length_map]; omega)) ?_⟩
    refine ⟨_, rfl, _, rfl, a, rfl, ⟨_, SqL.of B.top⟩, ?_⟩
    refine for_list (K := K) (a := a) (xs := rs.map V.ref) (fun i σ H' => ∃ cur z, σ = [some (.ref p), some (sV (rtx S)), some (sV (rtx U)), some (.ref a), some (sV (rtx cur)), z] ∧ Same H1 H' ∧ RingOrd ws cur ∧ Runs ws cur (ds.drop i) U)
      ⟨S, none, rfl, Same.refl H1, o, hR⟩ (fun i σ H' _ h => ?_) (fun i v σ H' hv h => ?_) (fun σ H' h => ?_)
    · obtain ⟨_, _, _, hs, _⟩ := h
      exact SqL.of (hs _ _ B.top)
    · obtain ⟨cur, z, rfl, hs, oc, hr⟩ := h
      rw [List.getElem?_map] at hv
      obtain ⟨r, hr1, rfl⟩ : ∃ r, rs[i]? = some r ∧ V.ref r = v := by
        cases e : rs[i]? with
        | none => rw [e] at hv; cases hv
        | some r => rw [e] at hv; exact ⟨r, rfl, Option.some.inj hv⟩
      have hi : i < ds.length := by rw [← rl]; exact (List.getElem?_eq_some_iff.mp hr1).1
      have he : ds[i]? = some ds[i] := List.getElem?_eq_getElem hi
      rw [List.drop_eq_getElem_cons hi] at hr
      generalize ds[i] = e at he hr
      have hc := hs _ _ (B.cont i r e hr1 he)
      refine ⟨_, rfl, _, rfl, _, rfl, p, t, r, ws, cur, L, e, rfl, W1.same hs, hc, hr.1, oc, hr.2.1, fun H2 s2 => ?_⟩
      exact ⟨_, rfl, rfl, _, rfl, iteFe rfl ⟨dex cur e, _, rfl, hs.trans s2, hr.2.1, hr.2.2⟩⟩
    · obtain ⟨cur, z, rfl, hs, oc, hr⟩ := h
      rw [List.length_map, rl, List.drop_length] at hr
      have e : cur = U := hr
      subst e
      refine ⟨_, rfl, _, rfl, rfl, ?_⟩
      rw [decide_eq_true rfl]
      exact q H' (s1.trans hs)
end
end Tw
namespace Tw
open PySem PySem.Spec PyProof.Rows L2 MT MW
section
variable {P : Program} {w : World} {K : PySem.W.Frag} {mg : Str → Option Value} {base : Heap} {CW CD : Addr}
open MD
def spLCount (CW : Addr) : Sp := fun vs H Q _ => ∃ (p t : Addr) (ws : List Wd) (L : Nat), vs = [.ref p] ∧ WebAt CW H p ws L t ∧ RingOk ws ∧ ∀ H', Same H H' → Q (.int (cntR ws)) H'
theorem ok__law_count (T : Txt K mg CW CD) : Df P w K mg base 5 "_law_count" ["web"] (spLCount CW) := by
  refine df_of T.d__law_count sc__law_count bd__law_count (fun vs H Q E h => ?_) (fun f cdv A outer s H vs Q E hr h => ?_)
  · obtain ⟨p, t, ws, L, rfl, _⟩ := h
    rfl
  · obtain ⟨p, t, ws, L, rfl, W, ok, q⟩ := h
    have hhm := head_mem W.ok
    have hfew := W.ok.few
    obtain ⟨x0, r0, e0⟩ := List.exists_cons_of_ne_nil W.ok.ne
    have eh : ws.headD [] = x0 := by rw [e0]; rfl
    have hx0 : x0 ∈ ws := by rw [← eh]; exact hhm.1
    have gx : (sL ws)[0]? = some (sV x0) := by rw [e0]; rfl
    obtain ⟨dx, hob⟩ := W.ob
    refine ⟨_, (pss_cons (ps_set (i := 1) sc__law_count.nd rfl (Or.inl rfl) (pe_fn (ok_tree_count T) hr (pa_cons (pv 0) (pa_cons (pe_slice sl_str (pe_ix ix_tup (pe_fld (pv 0) rfl) pe_int (fun _ _ => rfl)) po_none (po_some (pe_un un_neg pe_int))) pa_nil))))
    (pss_cons (ps_for PassesOwn.never rfl (pi_list (pe_fn (ok_pieces T) hr (pa_cons (pv 0) pa_nil))) (pg_name (i := 2) sc__law_count.nd rfl (Or.inl rfl))
    (pss_one (ps_for PassesOwn.never rfl (pi_range2 (by rfl) T.n_range (pa_cons pe_int (pa_cons (pe_callB call_len_seq (by rfl) T.n_len PySem.boot_len (pa_cons (pe_fn (ok_outs T) hr (pa_cons (pv 0) (pa_cons (pv 2) pa_nil))) pa_nil)) pa_nil))) (pg_name (i := 3) sc__law_count.nd rfl (Or.inl rfl))
    (pss_one (ps_set (i := 1) sc__law_count.nd rfl (Or.inl rfl) (pe_op op_mul (pv 1) (pv 3)))))))
    (pss_one (ps_ret (pv 1))))), ?_⟩
    refine ⟨_, rfl, _, rfl, p, CW, dx, _, _, rfl, hob, T.cWeb, T.aWeb_words, webF_words _ _, t, sL ws, 0, sV x0, rfl, rfl, SqT.of W.tp, at_of (j := 0) rfl gx, _, rfl, (-1 : Int), rfl, _, rfl, by rw [S_len]; exact Nat.le_of_lt (small1000 (w1000 W.ok hx0)), ?_⟩
    rw [cut_bgn]
    refine ⟨p, t, ws, L, bgn x0, rfl, W, bgn_pcs hx0, fun H1 s1 => ?_⟩
    have W1 := W.same s1
    refine ⟨_, rfl, p, t, ws, L, rfl, W1, fun q1 H2 s2 n2 e2 => ?_⟩
    refine ⟨q1, rfl, ⟨_, SqL.of e2⟩, ?_⟩
    have s12 := s1.trans s2
    refine for_list (K := K) (a := q1) (xs := sL (pcs ws)) (fun i σ H' => ∃ z2 z3, σ = [some (.ref p), some (.int (D bgn enn ws (wo (pcs ws) (bgn x0)) * lprod ((pcs ws).take i) fun v => ((fac (outd bgn ws v - 1) : Nat) : Int))), z2, z3] ∧ Same H2 H')
      ⟨none, none, ?_, Same.refl H2⟩ (fun i σ H' _ h => ?_) (fun i v σ H' hv h => ?_) (fun σ H' h => ?_)
    · rw [List.take_zero]
      show [some (V.ref p), some (V.int (D bgn enn ws (wo (pcs ws) (bgn x0)))), none, none] = [some (V.ref p), some (V.int (D bgn enn ws (wo (pcs ws) (bgn x0)) * 1)), none, none]
      rw [Int.mul_one]
    · obtain ⟨_, _, _, hs⟩ := h
      exact SqL.of (hs _ _ e2)
    · obtain ⟨z2, z3, rfl, hs⟩ := h
      obtain ⟨v, hv2, rfl⟩ := sL_at hv
      have hvm := List.mem_of_getElem? hv2
      have hop := piece_out ok hvm
      have hol : outd bgn ws v ≤ ws.length := List.countP_le_length
      refine ⟨_, rfl, _, rfl, p, t, ws, L, v, rfl, W1.same (s2.trans hs), fun q2 H3 s3 n3 e3 => ?_⟩
      refine ⟨q2, _, rfl, .inl (SqL.of e3), _, _, rfl, ?_, ?_⟩
      · rw [sL_len, show (gone bgn ws v).length = outd bgn ws v from filter_len]
        exact ⟨by omega, by omega, by omega, by omega⟩
      rw [sL_len, show (gone bgn ws v).length = outd bgn ws v from filter_len]
      have en : (((outd bgn ws v : Nat) : Int) - 1).toNat = outd bgn ws v - 1 := by omega
      rw [en]
      refine for_range (lo := 1) (n := outd bgn ws v - 1) (fun k σ H' => ∃ z3, σ = [some (.ref p), some (.int (D bgn enn ws (wo (pcs ws) (bgn x0)) * (lprod ((pcs ws).take i) fun v => ((fac (outd bgn ws v - 1) : Nat) : Int)) * ((fac k : Nat) : Int))), some (sV v), z3] ∧ Same H2 H')
        ⟨z3, ?_, hs.trans s3⟩ (fun k σ H' hk h => ?_) (fun σ H' h => ?_)
      · show [some (V.ref p), some (V.int _), some (sV v), z3] = [some (V.ref p), some (V.int (_ * ((fac 0 : Nat) : Int))), some (sV v), z3]
        rw [show ((fac 0 : Nat) : Int) = 1 from rfl, Int.mul_one]
      · obtain ⟨z3, rfl, hs4⟩ := h
        refine ⟨_, rfl, _, rfl, _, _, rfl, rfl, .inr (by omega), some (V.int ((1 : Int) + k)), ?_, hs4⟩
        have e : D bgn enn ws (wo (pcs ws) (bgn x0)) * (lprod ((pcs ws).take i) fun v => ((fac (outd bgn ws v - 1) : Nat) : Int)) * ((fac k : Nat) : Int) * ((1 : Int) + k) = D bgn enn ws (wo (pcs ws) (bgn x0)) * (lprod ((pcs ws).take i) fun v => ((fac (outd bgn ws v - 1) : Nat) : Int)) * ((fac (k + 1) : Nat) : Int) := by
          have : ((fac (k + 1) : Nat) : Int) = ((fac k : Nat) : Int) * ((1 : Int) + k) := by
            show (((k + 1) * fac k : Nat) : Int) = _
            rw [Int.natCast_mul, Int.mul_comm]
            congr 1; omega
          rw [this, Int.mul_assoc]
        show [some (V.ref p), some (V.int (D bgn enn ws (wo (pcs ws) (bgn x0)) * (lprod ((pcs ws).take i) fun v => ((fac (outd bgn ws v - 1) : Nat) : Int)) * ((fac k : Nat) : Int) * ((1 : Int) + k))), some (sV v), some (V.int ((1 : Int) + k))] = _
        rw [e]
      · obtain ⟨z3, rfl, hs4⟩ := h
        refine ⟨some (sV v), z3, ?_, hs4⟩
        rw [take_snoc hv2, lprod_snoc, Int.mul_assoc]
    · obtain ⟨z2, z3, rfl, hs⟩ := h
      rw [sL_len, List.take_length]
      refine ⟨_, rfl, ?_⟩
      have : D bgn enn ws (wo (pcs ws) (bgn x0)) * (lprod (pcs ws) fun v => ((fac (outd bgn ws v - 1) : Nat) : Int)) = cntR ws := by
        have nd := W.ok.nd
        rw [Int.mul_comm]
        rw [e0] at nd ok ⊢
        exact cnt_eq nd ok
      rw [this]
      exact q H' (s12.trans hs)
/-! ### numbers of the law -/
theorem ok__law_power (T : Txt K mg CW CD) : Df P w K mg base 1 "_law_power" ["base", "many"] (fun vs H Q _ => ∃ b n : Nat, vs = [.int b, .int n] ∧ b ≤ 1000 ∧ n ≤ 100 ∧ Q (.int ((b ^ n : Nat) : Int)) H) := by
  refine df_of T.d__law_power sc__law_power bd__law_power (fun vs H Q E h => ?_) (fun f cdv A outer s H vs Q E hr h => ?_)
  · obtain ⟨b, n, rfl, _⟩ := h
    rfl
  · obtain ⟨b, n, rfl, hb, hn, q⟩ := h
    refine ⟨_, (pss_cons (ps_set (i := 2) sc__law_power.nd rfl (Or.inl rfl) pe_int)
    (pss_cons (ps_for PassesOwn.never rfl (pi_range1 (by rfl) T.n_range (pa_cons (pv 1) pa_nil)) (pg_name (i := 3) sc__law_power.nd rfl (Or.inl rfl))
    (pss_one (ps_set (i := 2) sc__law_power.nd rfl (Or.inl rfl) (pe_op op_mul (pv 2) (pv 0)))))
    (pss_one (ps_ret (pv 2))))), ?_⟩
    refine ⟨_, rfl, _, rfl, by omega, by omega, ?_⟩
    rw [Int.toNat_natCast]
    refine for_range (lo := 0) (n := n) (fun k σ H' => ∃ z, σ = [some (.int b), some (.int n), some (.int ((b ^ k : Nat) : Int)), z] ∧ H' = H) ⟨none, rfl, rfl⟩ (fun k σ H' hk h => ?_) (fun σ H' h => ?_)
    · obtain ⟨z, rfl, rfl⟩ := h
      refine ⟨_, rfl, _, rfl, _, _, rfl, rfl, .inr (by omega), some (V.int ((0 : Int) + k)), ?_, rfl⟩
      show [some (V.int b), some (V.int n), some (V.int (((b ^ k : Nat) : Int) * (b : Int))), some (V.int ((0 : Int) + k))] = _
      rw [← Int.natCast_mul, ← Nat.pow_succ]
    · obtain ⟨z, rfl, rfl⟩ := h
      exact ⟨_, rfl, q⟩
theorem ok__law_stir (T : Txt K mg CW CD) : Df P w K mg base 1 "_law_stir" ["cell", "k"] (fun vs H Q _ => ∃ (c : Int) (k : Nat), vs = [.int c, .int k] ∧ k ≤ 1000 ∧ ∀ r : Int, 0 ≤ r → r < 2147483648 → Q (.int r) H) := by
  refine df_of T.d__law_stir sc__law_stir bd__law_stir (fun vs H Q E h => ?_) (fun f cdv A outer s H vs Q E hr h => ?_)
  · obtain ⟨c, k, rfl, _⟩ := h
    rfl
  · obtain ⟨c, k, rfl, hk, q⟩ := h
    refine ⟨_, (pss_cons (ps_set (i := 2) sc__law_stir.nd rfl (Or.inl rfl) (pe_op op_mod (pe_op op_add (pe_op op_mul (pe_op op_mod (pv 0) pe_int) pe_int) (pe_op op_mul (pe_op op_mul (pe_op op_add (pv 1) pe_int) (pe_op op_add (pv 1) pe_int)) pe_int)) pe_int))
    (pss_one (ps_ret (pe_op op_mod (pe_op op_mul (pv 2) (pv 2)) pe_int)))), ?_⟩
    refine ⟨_, rfl, _, _, rfl, rfl, (show (0 : Int) < 1000000007 by decide), _, _, rfl, rfl, .inr (by decide), _, rfl, _, _, rfl, rfl, _, rfl, _, _, rfl, rfl, _, _, rfl, rfl, .inr (by omega), _, _, rfl, rfl, .inr (by decide), _, _, rfl, rfl, _, _, rfl, rfl, (show (0 : Int) < 2147483647 by decide), ?_⟩
    refine ⟨_, rfl, _, rfl, _, _, rfl, rfl, .inr ?_, _, _, rfl, rfl, (show (0 : Int) < 2147483629 by decide), ?_⟩
    · have h1 := Int.emod_nonneg (c % 1000000007 * 48271 + ((k : Int) + 1) * ((k : Int) + 1) * 69621) (show (2147483647 : Int) ≠ 0 by decide)
      have h2 := Int.emod_lt_of_pos (c % 1000000007 * 48271 + ((k : Int) + 1) * ((k : Int) + 1) * 69621) (show (0 : Int) < 2147483647 by decide)
      exact ⟨by omega, by omega⟩
    · refine q _ (Int.emod_nonneg _ (by decide)) ?_
      have := Int.emod_lt_of_pos ((c % 1000000007 * 48271 + ((k : Int) + 1) * ((k : Int) + 1) * 69621) % 2147483647 * ((c % 1000000007 * 48271 + ((k : Int) + 1) * ((k : Int) + 1) * 69621) % 2147483647)) (show (0 : Int) < 2147483629 by decide)
      omega
end
end Tw
namespace Tw
open PySem PySem.Spec PyProof.Rows L2 MT MW
section
variable {P : Program} {w : World} {K : PySem.W.Frag} {mg : Str → Option Value} {base : Heap} {CW CD : Addr}
open MD
theorem ixN_eq {n j : Nat} {z : Int} (e : z = (j : Int)) (h : j < n) : ixN n z = some j := by
  subst e
  unfold ixN
  rw [if_pos (by omega), if_pos (by omega)]
  congr 1
theorem ok__law_folded (T : Txt K mg CW CD) : Df P w K mg base 1 "_law_folded" ["script", "many"] (fun vs H Q _ => ∃ (a : Addr) (ns : List Int) (n : Nat), vs = [.ref a, .int n] ∧ SqL K H a (ns.map V.int) ∧ ns.length ≤ 1000 ∧ 1 ≤ n ∧ n ≤ 100 ∧
    ∀ q H' (cs : List Int), Same H H' → H q = none → H' q = some (.lst (cs.map V.int)) → cs.length = n → Q (.ref q) H') := by
  refine df_of T.d__law_folded sc__law_folded bd__law_folded (fun vs H Q E h => ?_) (fun f cdv A outer s H vs Q E hr h => ?_)
  · obtain ⟨a, ns, n, rfl, _⟩ := h
    rfl
  · obtain ⟨a, ns, n, rfl, ha, hl, h1, hn, q⟩ := h
    refine ⟨_, (pss_cons (ps_set (i := 2) sc__law_folded.nd rfl (Or.inl rfl) (pe_op op_rep (pe_lst (pa_cons pe_int pa_nil)) (pv 1)))
    (pss_cons (ps_for PassesOwn.never rfl (pi_range1 (by rfl) T.n_range (pa_cons (pe_callB call_len_seq (by rfl) T.n_len PySem.boot_len (pa_cons (pv 0) pa_nil)) pa_nil)) (pg_name (i := 3) sc__law_folded.nd rfl (Or.inl rfl))
    (pss_cons (ps_set (i := 4) sc__law_folded.nd rfl (Or.inl rfl) (pe_op op_mod (pe_ix ix_list (pv 0) (pv 3) (fun _ _ => rfl)) pe_int))
    (pss_one (ps_asg (pe_op op_mod (pe_op op_add (pe_op op_add (pe_op op_mul (pe_ix ix_list (pv 2) (pe_op op_mod (pv 3) (pv 1)) (fun _ _ => rfl)) pe_int) (pv 4)) pe_int) pe_int) (pg_sub (pv 2) (pe_op op_mod (pv 3) (pv 1)) set_list)))))
    (pss_one (ps_ret (pv 2))))), ?_⟩
    refine ⟨(by show 1 ≤ sizeLine; decide), fun c nc => ?_⟩
    have sc := same_upd (o := .lst [.int 0]) nc
    refine ⟨_, rfl, c, _, _, rfl, rfl, upd_same, by omega, by omega, ?_, fun d nd => ?_⟩
    · rw [Int.toNat_natCast]
      exact Nat.le_of_lt (small1000 (show 1 * n ≤ 1000 by omega))
    have sd := same_upd (o := .lst (List.replicate (n : Int).toNat [V.int 0]).flatten) nd
    have s2 := sc.trans sd
    have e0 : (List.replicate (n : Int).toNat [V.int 0]).flatten = (List.replicate n (0 : Int)).map V.int := by
      rw [Int.toNat_natCast]
      clear ha hl h1 hn q sd s2 nd sc
      induction n with
      | zero => rfl
      | succ n ih => rw [List.replicate_succ, List.replicate_succ, List.flatten_cons, ih]; rfl
    have nd0 : H d = none := sc.free nd
    refine ⟨_, rfl, a, _, rfl, .inl (s2.seq ha), _, rfl, by rw [List.length_map]; omega, by rw [List.length_map]; omega, ?_⟩
    rw [List.length_map, Int.toNat_natCast]
    refine for_range (lo := 0) (n := ns.length) (fun k σ H' => ∃ z3 z4 cs, σ = [some (.ref a), some (.int n), some (.ref d), z3, z4] ∧ Same H H' ∧ H' d = some (.lst (cs.map V.int)) ∧ cs.length = n)
      ⟨none, none, List.replicate n 0, rfl, s2, by rw [upd_same, e0], List.length_replicate⟩ (fun k σ H' hk h => ?_) (fun σ H' h => ?_)
    · obtain ⟨z3, z4, cs, rfl, hs, hd, hcl⟩ := h
      have hx : ns[k]? = some ns[k] := List.getElem?_eq_getElem hk
      generalize ns[k] = x at hx
      have hj : k % n < cs.length := by rw [hcl]; exact Nat.mod_lt _ (by omega)
      have hc : cs[k % n]? = some cs[k % n] := List.getElem?_eq_getElem hj
      generalize cs[k % n] = y at hc
      have em : ((0 : Int) + k) % (n : Int) = ((k % n : Nat) : Int) := by rw [Int.zero_add]; exact (Int.natCast_emod k n).symm
      refine ⟨_, rfl, _, rfl, a, _, _, V.int x, rfl, rfl, hs.seq ha, at_of (j := k) (by omega) (by rw [List.getElem?_map, hx]; rfl), _, _, rfl, rfl, (show (0 : Int) < 1000000007 by decide), ?_⟩
      refine ⟨_, rfl, _, rfl, _, rfl, _, _, rfl, rfl, (by show (0 : Int) < (n : Int); omega), d, _, _, V.int y, rfl, rfl, SqL.of hd, at_of (j := k % n) em (by rw [List.getElem?_map, hc]; rfl), _, _, rfl, rfl, .inr (by decide), _, rfl, _, _, rfl, rfl, _, _, rfl, rfl, _, _, rfl, rfl, (show (0 : Int) < 1000000007 by decide), ?_⟩
      refine ⟨_, rfl, _, rfl, _, rfl, _, _, rfl, rfl, (by show (0 : Int) < (n : Int); omega), d, _, _, k % n, rfl, rfl, hd, ixN_eq em (by rw [List.length_map]; exact hj), ?_⟩
      refine ⟨some (V.int ((0 : Int) + k)), some (V.int (x % 1000000007)), cs.set (k % n) ((y * 31 + x % 1000000007 + 1) % 1000000007), rfl, same_chg hs nd0, by rw [upd_same, List.map_set], by rw [List.length_set]; exact hcl⟩
    · obtain ⟨z3, z4, cs, rfl, hs, hd, hcl⟩ := h
      exact ⟨_, rfl, q d H' cs hs nd0 hd hcl⟩
end
end Tw
namespace Tw
open PySem PySem.Spec PyProof.Rows L2 MT MW
section
variable {P : Program} {w : World} {K : PySem.W.Frag} {mg : Str → Option Value} {base : Heap} {CW CD : Addr}
open MD
theorem six : ("abcdef" : Str) = stS [97, 98, 99, 100, 101, 102] := by decide +kernel
theorem six_take : ∀ k, k ≤ 6 → ([97, 98, 99, 100, 101, 102] : Wd).take k = (List.range k).map fun c => 97 + c := by
  intro k hk
  have : k = 0 ∨ k = 1 ∨ k = 2 ∨ k = 3 ∨ k = 4 ∨ k = 5 ∨ k = 6 := by omega
  rcases this with rfl | rfl | rfl | rfl | rfl | rfl | rfl <;> decide
theorem six_at {c : Nat} (h : c < 6) : ("abcdef" : Str).cps.toList[c]? = some (97 + c) := by
  rw [signs6]
  have : c = 0 ∨ c = 1 ∨ c = 2 ∨ c = 3 ∨ c = 4 ∨ c = 5 := by omega
  rcases this with rfl | rfl | rfl | rfl | rfl | rfl <;> rfl
theorem flatMap_snoc (l : List Wd) (x : Wd) (f : Wd → List Wd) : (l ++ [x]).flatMap f = l.flatMap f ++ f x := by
  rw [List.flatMap_append]; simp
theorem map_take_snoc {k i c : Nat} (f : Nat → Wd) (h : ((List.range k).map fun c => 97 + c)[i]? = some c) : ((List.range k).take (i + 1)).map f = ((List.range k).take i).map f ++ [f i] ∧ c = 97 + i := by
  rw [List.getElem?_map] at h
  have hi : i < k := by
    by_cases g : i < k
    · exact g
    · rw [List.getElem?_eq_none (by rw [List.length_range]; omega)] at h; cases h
  rw [List.getElem?_range hi] at h
  refine ⟨?_, (Option.some.inj h).symm⟩
  rw [take_snoc (List.getElem?_range hi), List.map_append]; rfl
theorem aw_small {n L k : Nat} (z : Sz L k) (h : n ≤ L) : (aw n k).length ≤ 16 := by
  rw [aw_len]
  exact Nat.le_trans (Nat.pow_le_pow_right z.k1 h) z.few
theorem ok__law_words (T : Txt K mg CW CD) : Df P w K mg base 1 "_law_words" ["length", "kinds"] (fun vs H Q _ => ∃ L k : Nat, vs = [.int L, .int k] ∧ Sz L k ∧ ∀ q H', Same H H' → H q = none → H' q = some (.lst (sL (aw L k))) → Q (.ref q) H') := by
  refine df_of T.d__law_words sc__law_words bd__law_words (fun vs H Q E h => ?_) (fun f cdv A outer s H vs Q E hr h => ?_)
  · obtain ⟨L, k, rfl, _⟩ := h
    rfl
  · obtain ⟨L, k, rfl, z, q⟩ := h
    have hL := z.hi
    have hk := z.k6
    refine ⟨_, (pss_cons (ps_set (i := 2) sc__law_words.nd rfl (Or.inl rfl) (pe_lst (pa_cons pe_str pa_nil)))
    (pss_cons (ps_for PassesOwn.never rfl (pi_range1 (by rfl) T.n_range (pa_cons (pv 0) pa_nil)) (pg_name (i := 3) sc__law_words.nd rfl (Or.inl rfl))
    (pss_cons (ps_set (i := 4) sc__law_words.nd rfl (Or.inl rfl) (pe_lst pa_nil))
    (pss_cons (ps_for PassesOwn.never rfl (pi_list (pv 2)) (pg_name (i := 5) sc__law_words.nd rfl (Or.inl rfl))
    (pss_one (ps_for PassesOwn.never rfl (pi_str (pe_slice sl_str pe_str po_none (po_some (pv 1)))) (pg_name (i := 6) sc__law_words.nd rfl (Or.inl rfl))
    (pss_one (ps_expr (pe_bm PySem.F.plainAttrs_list PySem.F.slot_list_append PySem.F.type_list_append mt_append (pv 4) (pa_cons (pe_op op_add_str (pv 5) (pv 6)) pa_nil)))))))
    (pss_one (ps_set (i := 2) sc__law_words.nd rfl (Or.inl rfl) (pv 4))))))
    (pss_one (ps_ret (pv 2))))), ?_⟩
    refine ⟨(by show 1 ≤ sizeLine; decide), fun c nc => ?_⟩
    refine ⟨_, rfl, _, rfl, by omega, by omega, ?_⟩
    rw [Int.toNat_natCast]
    have e0 : ([V.str ""] : List V) = sL (aw 0 k) := by
      have : ("" : Str) = stS [] := by decide +kernel
      show [V.str ""] = [V.str (stS [])]
      rw [this]
    refine for_range (lo := 0) (n := L) (fun i σ H' => ∃ a z3 z4 z5 z6, σ = [some (.int L), some (.int k), some (.ref a), z3, z4, z5, z6] ∧ Same H H' ∧ H a = none ∧ H' a = some (.lst (sL (aw i k))))
      ⟨c, none, none, none, none, rfl, same_upd nc, nc, by rw [upd_same, e0]⟩ (fun i σ H' hi h => ?_) (fun σ H' h => ?_)
    · obtain ⟨a, z3, z4, z5, z6, rfl, hs, na, ha⟩ := h
      refine ⟨(by show 0 ≤ sizeLine; decide), fun b nb => ?_⟩
      have nb0 : H b = none := hs.free nb
      have sb := same_upd (o := .lst []) nb
      have ha2 := sb _ _ ha
      have hsm := aw_small z (n := i + 1) (by omega)
      have nab : a ≠ b := ne_of_none ha nb
      refine ⟨_, rfl, a, rfl, ⟨_, SqL.of ha2⟩, ?_⟩
      refine for_list (K := K) (a := a) (xs := sL (aw i k)) (fun j σ H' => ∃ z5 z6, σ = [some (.int L), some (.int k), some (.ref a), some (.int ((0 : Int) + i)), some (.ref b), z5, z6] ∧ Same H H' ∧ H' a = some (.lst (sL (aw i k))) ∧ H' b = some (.lst (sL (((aw i k).take j).flatMap fun w => (List.range k).map fun c => w ++ [97 + c]))))
        ⟨_, _, rfl, hs.trans sb, ha2, upd_same⟩ (fun j σ H' _ h => ?_) (fun j x σ H' hx h => ?_) (fun σ H' h => ?_)
      · obtain ⟨_, _, _, _, ha, _⟩ := h
        exact SqL.of ha
      · obtain ⟨z5, z6, rfl, hs, ha, hb⟩ := h
        obtain ⟨y, hy, rfl⟩ := sL_at hx
        have hyl := (mem_aw.mp (List.mem_of_getElem? hy)).1
        refine ⟨_, rfl, k, rfl, _, rfl, by decide +kernel, ?_⟩
        rw [six, cut_to (by show k ≤ 6; exact hk), six_take k hk]
        refine ⟨_, rfl, ?_⟩
        refine for_str (fun m σ H' => ∃ z6, σ = [some (.int L), some (.int k), some (.ref a), some (.int ((0 : Int) + i)), some (.ref b), some (sV y), z6] ∧ Same H H' ∧ H' a = some (.lst (sL (aw i k))) ∧ H' b = some (.lst (sL ((((aw i k).take j).flatMap fun w => (List.range k).map fun c => w ++ [97 + c]) ++ ((List.range k).take m).map fun c => y ++ [97 + c]))))
          ⟨z6, rfl, hs, ha, by rw [List.take_zero]; show _ = some (HO.lst (sL (_ ++ []))); rw [List.append_nil]; exact hb⟩ (fun m c σ H' hc h => ?_) (fun σ H' h => ?_)
        · obtain ⟨z6, rfl, hs, ha, hb⟩ := h
          obtain ⟨et, ec⟩ := map_take_snoc (fun c => y ++ [97 + c]) hc
          have hlen : ((((aw i k).take j).flatMap fun w => (List.range k).map fun c => w ++ [97 + c]) ++ ((List.range k).take m).map fun c => y ++ [97 + c]).length ≤ 200 := by
            rw [List.length_append, List.length_map, List.length_take, List.length_range, List.length_flatMap]
            have e1 : (((aw i k).take j).map fun w => ((List.range k).map fun c => w ++ [97 + c]).length) = ((aw i k).take j).map fun _ => k := List.map_congr_left fun w _ => by rw [List.length_map, List.length_range]
            rw [e1, sum_const, List.length_take]
            have h1 := aw_small z (n := i) (by omega)
            have h2 : min j (aw i k).length * k ≤ 16 * 6 := Nat.mul_le_mul (by omega) hk
            omega
          refine ⟨_, rfl, .inl ⟨rfl, _, SqL.of hb⟩, _, rfl, _, rfl, _, _, rfl, rfl, ?_, b, _, _, rfl, rfl, hb, by rw [sL_len]; exact small1000 (by omega), ?_⟩
          · rw [S_len, S_len, hyl]; exact Nat.le_of_lt (small1000 (show i + 1 ≤ 1000 by omega))
          rw [S_cat]
          refine ⟨some (sV [c]), rfl, same_chg hs nb0, by rw [upd_ne nab]; exact ha, ?_⟩
          rw [upd_same, et, ← List.append_assoc, sL_app _ [_], ec]; rfl
        · obtain ⟨z6, rfl, hs, ha, hb⟩ := h
          have et : (List.range k).take k = List.range k := List.take_of_length_le (Nat.le_of_eq List.length_range)
          rw [List.length_map, List.length_range, et] at hb
          refine ⟨some (sV y), z6, rfl, hs, ha, ?_⟩
          rw [hb, take_snoc hy, flatMap_snoc]
      · obtain ⟨z5, z6, rfl, hs, ha, hb⟩ := h
        rw [sL_len, List.take_length] at hb
        exact ⟨_, rfl, b, _, _, z5, z6, rfl, hs, nb0, hb⟩
    · obtain ⟨a, z3, z4, z5, z6, rfl, hs, na, ha⟩ := h
      exact ⟨_, rfl, q a H' hs na ha⟩
theorem ok__law_by_digits (T : Txt K mg CW CD) : Df P w K mg base 1 "_law_by_digits" ["words", "part"] (fun vs H Q _ => ∃ (a : Addr) (ws : List Wd) (n : Int), vs = [.ref a, .int n] ∧ H a = some (.lst (sL ws)) ∧ ws ≠ [] ∧ ws.length ≤ 100 ∧ Lo ws ∧
    ∀ q H' us, Same H H' → us.Sublist ws → us ≠ [] → H' q = some (.lst (sL us)) → Q (.ref q) H') := by
  refine df_of T.d__law_by_digits sc__law_by_digits bd__law_by_digits (fun vs H Q E h => ?_) (fun f cdv A outer s H vs Q E hr h => ?_)
  · obtain ⟨a, ws, n, rfl, _⟩ := h
    rfl
  · obtain ⟨a, ws, n, rfl, ha, hne, hl, hlo, q⟩ := h
    refine ⟨_, (pss_cons (ps_set (i := 2) sc__law_by_digits.nd rfl (Or.inl rfl) (pe_lst pa_nil))
    (pss_cons (ps_for PassesOwn.never rfl (pi_list (pv 0)) (pg_name (i := 3) sc__law_by_digits.nd rfl (Or.inl rfl))
    (pss_cons (ps_if (pt_cmpR op_eq (pe_op op_mod (pv 1) pe_int) pe_int (nomark _))
    (pss_one (ps_expr (pe_bm PySem.F.plainAttrs_list PySem.F.slot_list_append PySem.F.type_list_append mt_append (pv 2) (pa_cons (pv 3) pa_nil))))
    pss_nil)
    (pss_one (ps_set (i := 1) sc__law_by_digits.nd rfl (Or.inl rfl) (pe_op op_fdiv (pv 1) pe_int)))))
    (pss_cons (ps_if (pt_cmpR (op_eqW hr.units) (pv 2) (pe_lst pa_nil) (nomark _))
    (pss_one (ps_ret (pv 0)))
    pss_nil)
    (pss_one (ps_ret (pv 2)))))), ?_⟩
    refine ⟨(by show 0 ≤ sizeLine; decide), fun b nb => ?_⟩
    have sb := same_upd (o := .lst []) nb
    refine ⟨_, rfl, a, rfl, ⟨_, SqL.of (sb _ _ ha)⟩, ?_⟩
    refine for_list (K := K) (a := a) (xs := sL ws) (fun i σ H' => ∃ z3 m us, σ = [some (.ref a), some (.int m), some (.ref b), z3] ∧ Same H H' ∧ H' b = some (.lst (sL us)) ∧ us.Sublist (ws.take i))
      ⟨none, n, [], rfl, sb, upd_same, List.Sublist.refl _⟩ (fun i σ H' _ h => ?_) (fun i x σ H' hx h => ?_) (fun σ H' h => ?_)
    · obtain ⟨_, _, _, _, hs, _⟩ := h
      exact SqL.of (hs _ _ ha)
    · obtain ⟨z3, m, us, rfl, hs, hb, hsub⟩ := h
      obtain ⟨y, hy, rfl⟩ := sL_at hx
      have hul : us.length ≤ 100 := by
        have := hsub.length_le
        rw [List.length_take] at this
        omega
      refine ⟨_, rfl, _, _, rfl, rfl, (show (0 : Int) < 2 by decide), rfl, _, rfl, ?_⟩
      by_cases g : V.int (m % 2) = V.int 1
      · refine iteTe (decide_eq_true g) ?_
        refine ⟨_, rfl, .inl ⟨rfl, _, SqL.of hb⟩, _, rfl, b, _, _, rfl, rfl, hb, by rw [sL_len]; exact small1000 (by omega), ?_⟩
        refine ⟨_, rfl, _, _, rfl, rfl, ⟨by decide, by decide⟩, some (sV y), m / 2, us ++ [y], rfl, same_chg hs nb, by rw [upd_same, sL_app]; rfl, ?_⟩
        rw [take_snoc hy]
        exact List.Sublist.append hsub (List.Sublist.refl _)
      · refine iteFe (decide_eq_false g) ?_
        refine ⟨_, rfl, _, _, rfl, rfl, ⟨by decide, by decide⟩, some (sV y), m / 2, us, rfl, hs, hb, ?_⟩
        rw [take_snoc hy]
        exact List.Sublist.trans hsub (List.sublist_append_left _ _)
    · obtain ⟨z3, m, us, rfl, hs, hb, hsub⟩ := h
      rw [sL_len, List.take_length] at hsub
      refine ⟨_, rfl, (by show 0 ≤ sizeLine; decide), fun c nc => ?_⟩
      have sc := same_upd (o := .lst []) nc
      have hlo2 : Lo us := fun x hx => hlo x (hsub.subset hx)
      refine ⟨b, c, us, [], rfl, rfl, .inl ⟨SqL.of (sc _ _ hb), SqL.of upd_same⟩, hlo2, fun x hx => (by cases hx), _, rfl, ?_⟩
      by_cases g : us = []
      · refine iteTe (by show (if false = true then _ else decide (us = [])) = true; rw [if_neg (by decide)]; exact decide_eq_true g) ?_
        exact ⟨_, rfl, q a _ ws (hs.trans sc) (List.Sublist.refl _) hne (sc _ _ (hs _ _ ha))⟩
      · refine iteFe (by show (if false = true then _ else decide (us = [])) = false; rw [if_neg (by decide)]; exact decide_eq_false g) ?_
        exact ⟨_, rfl, q b _ us (hs.trans sc) hsub g (sc _ _ hb)⟩
theorem sz_all : Sz 4 2 ∧ Sz 3 2 ∧ Sz 2 3 ∧ Sz 2 4 ∧ Sz 1 5 ∧ Sz 2 2 ∧ Sz 1 6 ∧ Sz 1 1 ∧ Sz 3 1 := by
  refine ⟨?_, ?_, ?_, ?_, ?_, ?_, ?_, ?_, ?_⟩ <;> constructor <;> decide
theorem ok__law_size (T : Txt K mg CW CD) : Df P w K mg base 1 "_law_size" ["n"] (fun vs H Q _ => ∃ n : Int, vs = [.int n] ∧ ∀ r H' (L k : Nat), Same H H' → Sz L k → H' r = some (.tup [.int L, .int k]) → Q (.ref r) H') := by
  refine df_of T.d__law_size sc__law_size bd__law_size (fun vs H Q E h => ?_) (fun f cdv A outer s H vs Q E hr h => ?_)
  · obtain ⟨n, rfl, _⟩ := h
    rfl
  · obtain ⟨n, rfl, q⟩ := h
    refine ⟨_, (pss_cons (ps_set (i := 1) sc__law_size.nd rfl (Or.inl rfl) (pe_lst (pa_cons (pe_tup (pa_cons pe_int (pa_cons pe_int pa_nil))) (pa_cons (pe_tup (pa_cons pe_int (pa_cons pe_int pa_nil))) (pa_cons (pe_tup (pa_cons pe_int (pa_cons pe_int pa_nil))) (pa_cons (pe_tup (pa_cons pe_int (pa_cons pe_int pa_nil))) (pa_cons (pe_tup (pa_cons pe_int (pa_cons pe_int pa_nil))) (pa_cons (pe_tup (pa_cons pe_int (pa_cons pe_int pa_nil))) (pa_cons (pe_tup (pa_cons pe_int (pa_cons pe_int pa_nil))) (pa_cons (pe_tup (pa_cons pe_int (pa_cons pe_int pa_nil))) (pa_cons (pe_tup (pa_cons pe_int (pa_cons pe_int pa_nil))) pa_nil)))))))))))
    (pss_one (ps_ret (pe_ix ix_list (pv 1) (pe_op op_mod (pv 0) (pe_callB call_len_seq (by rfl) T.n_len PySem.boot_len (pa_cons (pv 1) pa_nil))) (fun _ _ => rfl))))), ?_⟩
    have two : (2 : Nat) ≤ sizeLine := by decide
    refine ⟨two, fun r0 n0 => ?_⟩
    have s0 := same_upd (o := .tup [.int 4, .int 2]) n0
    refine ⟨two, fun r1 n1 => ?_⟩
    have s1 := same_upd (o := .tup [.int 3, .int 2]) n1
    refine ⟨two, fun r2 n2 => ?_⟩
    have s2 := same_upd (o := .tup [.int 2, .int 3]) n2
    refine ⟨two, fun r3 n3 => ?_⟩
    have s3 := same_upd (o := .tup [.int 2, .int 4]) n3
    refine ⟨two, fun r4 n4 => ?_⟩
    have s4 := same_upd (o := .tup [.int 1, .int 5]) n4
    refine ⟨two, fun r5 n5 => ?_⟩
    have s5 := same_upd (o := .tup [.int 2, .int 2]) n5
    refine ⟨two, fun r6 n6 => ?_⟩
    have s6 := same_upd (o := .tup [.int 1, .int 6]) n6
    refine ⟨two, fun r7 n7 => ?_⟩
    have s7 := same_upd (o := .tup [.int 1, .int 1]) n7
    refine ⟨two, fun r8 n8 => ?_⟩
    have s8 := same_upd (o := .tup [.int 3, .int 1]) n8
    refine ⟨(by show 9 ≤ sizeLine; decide), fun c nc => ?_⟩
    have s9 := same_upd (o := .lst [.ref r0, .ref r1, .ref r2, .ref r3, .ref r4, .ref r5, .ref r6, .ref r7, .ref r8]) nc
    have s8' := s8.trans s9
    have s7' := s7.trans s8'
    have s6' := s6.trans s7'
    have s5' := s5.trans s6'
    have s4' := s4.trans s5'
    have s3' := s3.trans s4'
    have s2' := s2.trans s3'
    have s1' := s1.trans s2'
    have s0' := s0.trans s1'
    have c0 := s1' _ _ (upd_same)
    have c1 := s2' _ _ (upd_same)
    have c2 := s3' _ _ (upd_same)
    have c3 := s4' _ _ (upd_same)
    have c4 := s5' _ _ (upd_same)
    have c5 := s6' _ _ (upd_same)
    have c6 := s7' _ _ (upd_same)
    have c7 := s8' _ _ (upd_same)
    have c8 := s9 _ _ (upd_same)
    have h9 : 0 ≤ n % 9 ∧ n % 9 < 9 := ⟨Int.emod_nonneg _ (by decide), Int.emod_lt_of_pos _ (by decide)⟩
    refine ⟨_, rfl, _, rfl, _, rfl, c, _, rfl, .inl (SqL.of upd_same), _, _, rfl, rfl, (show (0 : Int) < 9 by decide), ?_⟩
    obtain ⟨j, hj, ej⟩ : ∃ j : Nat, j < 9 ∧ n % 9 = (j : Int) := ⟨(n % 9).toNat, by omega, by omega⟩
    have cases9 : j = 0 ∨ j = 1 ∨ j = 2 ∨ j = 3 ∨ j = 4 ∨ j = 5 ∨ j = 6 ∨ j = 7 ∨ j = 8 := by omega
    obtain ⟨z0, z1, z2, z3, z4, z5, z6, z7, z8⟩ := sz_all
    rcases cases9 with rfl | rfl | rfl | rfl | rfl | rfl | rfl | rfl | rfl
    · exact ⟨c, _, _, .ref r0, rfl, rfl, SqL.of upd_same, at_of (j := 0) ej rfl, q r0 _ 4 2 s0' z0 c0⟩
    · exact ⟨c, _, _, .ref r1, rfl, rfl, SqL.of upd_same, at_of (j := 1) ej rfl, q r1 _ 3 2 s0' z1 c1⟩
    · exact ⟨c, _, _, .ref r2, rfl, rfl, SqL.of upd_same, at_of (j := 2) ej rfl, q r2 _ 2 3 s0' z2 c2⟩
    · exact ⟨c, _, _, .ref r3, rfl, rfl, SqL.of upd_same, at_of (j := 3) ej rfl, q r3 _ 2 4 s0' z3 c3⟩
    · exact ⟨c, _, _, .ref r4, rfl, rfl, SqL.of upd_same, at_of (j := 4) ej rfl, q r4 _ 1 5 s0' z4 c4⟩
    · exact ⟨c, _, _, .ref r5, rfl, rfl, SqL.of upd_same, at_of (j := 5) ej rfl, q r5 _ 2 2 s0' z5 c5⟩
    · exact ⟨c, _, _, .ref r6, rfl, rfl, SqL.of upd_same, at_of (j := 6) ej rfl, q r6 _ 1 6 s0' z6 c6⟩
    · exact ⟨c, _, _, .ref r7, rfl, rfl, SqL.of upd_same, at_of (j := 7) ej rfl, q r7 _ 1 1 s0' z7 c7⟩
    · exact ⟨c, _, _, .ref r8, rfl, rfl, SqL.of upd_same, at_of (j := 8) ej rfl, q r8 _ 3 1 s0' z8 c8⟩
end
end Tw
namespace Tw
open PySem PySem.Spec PyProof.Rows L2 MT MW
section
variable {P : Program} {w : World} {K : PySem.W.Frag} {mg : Str → Option Value} {base : Heap} {CW CD : Addr}
open MD
theorem at_ix {a : Type} {l : List a} {z : Int} {j : Nat} {x : a} (e : z = (j : Int)) (h : l[j]? = some x) : atI l z = some x := by
  have hj : j < l.length := (List.getElem?_eq_some_iff.mp h).1
  unfold atI
  rw [ixN_eq e hj, ← h]; rfl
theorem ok__law_behind (T : Txt K mg CW CD) : Df P w K mg base 2 "_law_behind" ["script", "words", "length", "kinds"] (fun vs H Q _ => ∃ (a b : Addr) (ns : List Int) (L k : Nat), vs = [.ref a, .ref b, .int L, .int k] ∧ SqL K H a (ns.map V.int) ∧ ns.length ≤ 1000 ∧ H b = some (.lst (sL (aw L k))) ∧ Sz L k ∧
    ∀ d H' ks f, Same H H' → H d = none → H' d = some (.dK (dkv ks f)) → (∀ w ∈ aw L k, w ∈ ks) → (∀ w ∈ ks, ∃ v ∈ aw L k, f w = sV v) → Q (.ref d) H') := by
  refine df_of T.d__law_behind sc__law_behind bd__law_behind (fun vs H Q E h => ?_) (fun f cdv A outer s H vs Q E hr h => ?_)
  · obtain ⟨a, b, ns, L, k, rfl, _⟩ := h
    rfl
  · obtain ⟨a, b, ns, L, k, rfl, ha, hl, hb, z, q⟩ := h
    have hu := hu_of hr
    have hL := z.hi
    have hL1 := z.lo
    have hk := z.k6
    have hk1 := z.k1
    have hE := z.pc
    have hfew := z.few
    have hE1 : 1 ≤ k ^ (L - 1) := Nat.pow_pos hk1
    have hmul : k ^ (L - 1) * k = k ^ L := by
      rw [← Nat.pow_succ]
      congr 1; omega
    have hal : (aw L k).length = k ^ (L - 1) * k := by rw [aw_len, hmul]
    have hcap : k ^ (L - 1) * k ≤ 16 := by rw [hmul]; exact hfew
    refine ⟨_, (pss_cons (ps_set (i := 4) sc__law_behind.nd rfl (Or.inl rfl) (pe_fn (ok__law_power T) hr (pa_cons (pv 3) (pa_cons (pe_op op_sub (pv 2) pe_int) pa_nil))))
    (pss_cons (ps_set (i := 5) sc__law_behind.nd rfl (Or.inl rfl) (pe_fn (ok__law_folded T) hr (pa_cons (pv 0) (pa_cons (pv 4) pa_nil))))
    (pss_cons (ps_set (i := 6) sc__law_behind.nd rfl (Or.inl rfl) pe_dnewK)
    (pss_cons (ps_for PassesOwn.never rfl (pi_range1 (by rfl) T.n_range (pa_cons (pv 4) pa_nil)) (pg_name (i := 7) sc__law_behind.nd rfl (Or.inl rfl))
    (pss_cons (ps_set (i := 8) sc__law_behind.nd rfl (Or.inl rfl) (pe_lst pa_nil))
    (pss_cons (ps_set (i := 9) sc__law_behind.nd rfl (Or.inl rfl) (pe_fn (ok__law_stir T) hr (pa_cons (pe_ix ix_list (pv 5) (pv 7) (fun _ _ => rfl)) (pa_cons (pv 7) pa_nil))))
    (pss_cons (ps_for PassesOwn.never rfl (pi_range1 (by rfl) T.n_range (pa_cons (pv 3) pa_nil)) (pg_name (i := 10) sc__law_behind.nd rfl (Or.inl rfl))
    (pss_cons (ps_expr (pe_bm PySem.F.plainAttrs_list PySem.F.slot_list_insert PySem.F.type_list_insert mt_insert (pv 8) (pa_cons (pe_op op_mod (pe_op op_fdiv (pv 9) pe_int) (pe_op op_add (pv 10) pe_int)) (pa_cons (pe_ix ix_str pe_str (pv 10) (fun _ _ => rfl)) pa_nil))))
    (pss_one (ps_set (i := 9) sc__law_behind.nd rfl (Or.inl rfl) (pe_op op_fdiv (pe_op op_fdiv (pv 9) pe_int) (pe_op op_add (pv 10) pe_int))))))
    (pss_one (ps_for PassesOwn.never rfl (pi_range1 (by rfl) T.n_range (pa_cons (pv 3) pa_nil)) (pg_name (i := 10) sc__law_behind.nd rfl (Or.inl rfl))
    (pss_cons (ps_set (i := 11) sc__law_behind.nd rfl (Or.inl rfl) (pe_ix ix_list (pv 1) (pe_op op_add (pe_op op_mul (pv 10) (pv 4)) (pv 7)) (fun _ _ => rfl)))
    (pss_one (ps_dput hu (pv 6) (pv 11) (pe_op op_add_str (pe_slice sl_str (pv 11) (po_some pe_int) po_none) (pe_ix ix_list (pv 8) (pv 10) (fun _ _ => rfl))) rfl)))))))))
    (pss_one (ps_ret (pv 6))))))), ?_⟩
    refine ⟨_, rfl, _, rfl, _, _, rfl, rfl, k, L - 1, ?_, by omega, by omega, ?_⟩
    · show [V.int (k : Nat), V.int ((L : Int) - 1)] = [V.int (k : Nat), V.int ((L - 1 : Nat) : Int)]
      rw [show (L : Int) - 1 = ((L - 1 : Nat) : Int) by omega]
    generalize k ^ (L - 1) = E at hE hE1 hal hcap
    refine ⟨_, rfl, _, rfl, a, ns, E, rfl, ha, hl, hE1, by omega, fun q1 H1 cs s1 n1 e1 hcl => ?_⟩
    intro d nd
    have nd0 : H d = none := s1.free nd
    have sd : Same H1 (upd H1 d (.dK [])) := same_upd nd
    refine ⟨_, rfl, _, rfl, by omega, by omega, ?_⟩
    rw [Int.toNat_natCast]
    have b1 := s1 _ _ hb
    refine for_range (lo := 0) (n := E) (fun j σ H' => ∃ z7 z8 z9 z10 z11 ks f, σ = [some (.ref a), some (.ref b), some (.int L), some (.int k), some (.int (E : Nat)), some (.ref q1), some (.ref d), z7, z8, z9, z10, z11] ∧ Same H1 H' ∧ H' d = some (.dK (dkv ks f)) ∧ ks.length ≤ 6 * j ∧
        (∀ w ∈ ks, ∃ v ∈ aw L k, f w = sV v) ∧ ∀ c j' w, c < k → j' < j → (aw L k)[c * E + j']? = some w → w ∈ ks)
      ⟨none, none, none, none, none, [], fun _ => .non, rfl, sd, upd_same, Nat.le_refl _, fun w hw => (by cases hw), fun c j' w _ h => by omega⟩ (fun j σ H' hj h => ?_) (fun σ H' h => ?_)
    · obtain ⟨z7, z8, z9, z10, z11, ks, f, rfl, hs, hd, hkl, hval, hkey⟩ := h
      refine ⟨(by show 0 ≤ sizeLine; decide), fun o no => ?_⟩
      have no1 : H1 o = none := hs.free no
      have nod : o ≠ d := (ne_of_none hd no).symm
      have so := same_upd (o := .lst []) no
      have gc : cs[j]? = some cs[j] := List.getElem?_eq_getElem (by omega)
      generalize cs[j] = cj at gc
      refine ⟨_, rfl, _, rfl, q1, _, _, V.int cj, rfl, rfl, SqL.of ((hs.trans so) _ _ e1), at_of (j := j) (by omega) (by rw [List.getElem?_map, gc]; rfl), _, rfl, cj, j, ?_, by omega, fun r r0 r1 => ?_⟩
      · show [V.int cj, V.int ((0 : Int) + j)] = _
        rw [Int.zero_add]
      refine ⟨_, rfl, _, rfl, by omega, by omega, ?_⟩
      rw [Int.toNat_natCast]
      refine for_range (lo := 0) (n := k) (fun c σ H' => ∃ m z10 ord, σ = [some (.ref a), some (.ref b), some (.int L), some (.int k), some (.int (E : Nat)), some (.ref q1), some (.ref d), some (.int ((0 : Int) + j)), some (.ref o), some (.int m), z10, z11] ∧ Same H1 H' ∧ H' d = some (.dK (dkv ks f)) ∧ H' o = some (.lst (sL ord)) ∧ ord.length = c ∧ ∀ w ∈ ord, ∃ e, e < k ∧ w = [97 + e])
        ⟨r, z10, [], rfl, hs.trans so, so _ _ hd, upd_same, rfl, fun w hw => (by cases hw)⟩ (fun c σ H' hc h => ?_) (fun σ H' h => ?_)
      · obtain ⟨m, z10, ord, rfl, hs, hd, ho, hol, hoe⟩ := h
        have h0 := Int.emod_nonneg (m / 7) (show ((0 : Int) + c + 1) ≠ 0 by omega)
        have h1 := Int.emod_lt_of_pos (m / 7) (show (0 : Int) < (0 : Int) + c + 1 by omega)
        refine ⟨_, rfl, .inl ⟨rfl, _, SqL.of ho⟩, _, rfl, _, _, rfl, rfl, ⟨by decide, by decide⟩, _, rfl, _, _, rfl, rfl, _, _, rfl, rfl, (by show (0 : Int) < (0 : Int) + c + 1; omega), _, rfl, _, _, 97 + c, rfl, rfl, by decide +kernel, at_ix (j := c) (by omega) (six_at (by omega)), o, sL ord, _, _, rfl, rfl, ho, by rw [sL_len]; exact small1000 (by omega), h0, by omega, ?_⟩
        refine ⟨_, rfl, _, _, rfl, rfl, ⟨by decide, by decide⟩, _, rfl, _, _, rfl, rfl, _, _, rfl, rfl, ⟨by show (0 : Int) < (0 : Int) + c + 1; omega, by show (0 : Int) + c + 1 < 1073741824; omega⟩, ?_⟩
        refine ⟨m / 7 / ((0 : Int) + c + 1), some (.int ((0 : Int) + c)), ord.take (m / 7 % ((0 : Int) + c + 1)).toNat ++ [[97 + c]] ++ ord.drop (m / 7 % ((0 : Int) + c + 1)).toNat, rfl, same_chg hs no1, by rw [upd_ne nod.symm]; exact hd, ?_, ?_, fun w hw => ?_⟩
        · rw [upd_same]
          congr 2
          rw [sL_app, sL_app]
          show List.take _ (sL ord) ++ [_] ++ List.drop _ (sL ord) = List.map sV _ ++ List.map sV _ ++ List.map sV _
          rw [List.map_take, List.map_drop]; rfl
        · rw [List.length_append, List.length_append, List.length_take, List.length_drop, hol]
          show min _ c + 1 + (c - _) = c + 1
          omega
        · rcases List.mem_append.mp hw with hw | hw
          · rcases List.mem_append.mp hw with hw | hw
            · exact hoe w (List.mem_of_mem_take hw)
            · exact ⟨c, by omega, List.mem_singleton.mp hw⟩
          · exact hoe w (List.mem_of_mem_drop hw)
      · obtain ⟨m, z10, ord, rfl, hs, hd, ho, hol, hoe⟩ := h
        refine ⟨_, rfl, _, rfl, by omega, by omega, ?_⟩
        rw [Int.toNat_natCast]
        refine for_range (lo := 0) (n := k) (fun c σ H' => ∃ z10 z11 ks f, σ = [some (.ref a), some (.ref b), some (.int L), some (.int k), some (.int (E : Nat)), some (.ref q1), some (.ref d), some (.int ((0 : Int) + j)), some (.ref o), some (.int m), z10, z11] ∧ Same H1 H' ∧ H' d = some (.dK (dkv ks f)) ∧ H' o = some (.lst (sL ord)) ∧ ks.length ≤ 6 * j + c ∧
            (∀ w ∈ ks, ∃ v ∈ aw L k, f w = sV v) ∧ (∀ c j' w, c < k → j' < j → (aw L k)[c * E + j']? = some w → w ∈ ks) ∧ ∀ c' w, c' < c → (aw L k)[c' * E + j]? = some w → w ∈ ks)
          ⟨z10, z11, ks, f, rfl, hs, hd, ho, hkl, hval, hkey, fun c' w h => by omega⟩ (fun c σ H' hc h => ?_) (fun σ H' h => ?_)
        · obtain ⟨z10, z11, ks, f, rfl, hs, hd, ho, hkl, hval, hkey, hkey2⟩ := h
          have hmle : (c + 1) * E ≤ k * E := Nat.mul_le_mul_right _ hc
          have hmle2 : (c + 1) * E = c * E + E := Nat.succ_mul c E
          have hcomm : k * E = E * k := Nat.mul_comm ..
          have hix : c * E + j < (aw L k).length := by omega
          have gw : (aw L k)[c * E + j]? = some (aw L k)[c * E + j] := List.getElem?_eq_getElem hix
          generalize (aw L k)[c * E + j] = y at gw
          have hy := mem_aw.mp (List.mem_of_getElem? gw)
          have gx : ord[c]? = some ord[c] := List.getElem?_eq_getElem (by omega)
          generalize ord[c] = x at gx
          obtain ⟨e, he, rfl⟩ := hoe x (List.mem_of_getElem? gx)
          have eix : ((0 : Int) + c) * (E : Int) + ((0 : Int) + j) = ((c * E + j : Nat) : Int) := by
            rw [Int.zero_add, Int.zero_add, Int.natCast_add, Int.natCast_mul]
          refine ⟨_, rfl, _, rfl, _, rfl, _, _, rfl, rfl, .inr (by omega), _, rfl, _, _, rfl, rfl, b, _, _, sV y, rfl, rfl, SqL.of (hs _ _ b1), at_of (j := c * E + j) eix (sL_get gw), ?_⟩
          refine ⟨_, rfl, _, rfl, _, rfl, by rw [S_len, hy.1]; exact Nat.le_of_lt (small1000 (by omega)), _, rfl, _, rfl, o, _, _, sV [97 + e], rfl, rfl, SqL.of ho, at_of (j := c) (by omega) (sL_get gx), ?_⟩
          rw [cut_enn]
          have hyt : (enn y).length = L - 1 := by unfold enn; rw [List.length_tail, hy.1]
          refine ⟨_, _, rfl, rfl, ?_, ?_⟩
          · rw [S_len, S_len, hyt]; exact Nat.le_of_lt (small1000 (show L - 1 + 1 ≤ 1000 by omega))
          rw [S_cat]
          refine ⟨_, rfl, _, rfl, d, _, rfl, dput_w hd (by omega), ?_⟩
          refine ⟨some (.int ((0 : Int) + c)), some (sV y), kadd ks y, fup f y (sV (enn y ++ [97 + e])), rfl, same_chg hs nd, upd_same, by rw [upd_ne nod]; exact ho, Nat.le_trans kadd_len (by omega), fun w hw => ?_, fun c' j' w h1 h2 h3 => mem_kadd.mpr (.inl (hkey c' j' w h1 h2 h3)), fun c' w h1 h2 => ?_⟩
          · by_cases g : w = y
            · rw [g, fup_same]
              refine ⟨_, mem_aw.mpr ⟨by rw [List.length_append, hyt]; show L - 1 + 1 = L; omega, fun x hx => ?_⟩, rfl⟩
              rcases List.mem_append.mp hx with hx | hx
              · exact hy.2 x (List.mem_of_mem_tail hx)
              · rw [List.mem_singleton.mp hx]; omega
            · rw [fup_ne _ _ g]
              exact hval w ((mem_kadd.mp hw).resolve_right g)
          · by_cases g : c' = c
            · rw [g, gw] at h2
              exact mem_kadd.mpr (.inr (Option.some.inj h2).symm)
            · exact mem_kadd.mpr (.inl (hkey2 c' w (by omega) h2))
        · obtain ⟨z10, z11, ks, f, rfl, hs, hd, ho, hkl, hval, hkey, hkey2⟩ := h
          refine ⟨_, _, _, _, _, ks, f, rfl, hs, hd, by omega, hval, fun c j' w h1 h2 h3 => ?_⟩
          by_cases g : j' = j
          · rw [g] at h3
            exact hkey2 c w h1 h3
          · exact hkey c j' w h1 (by omega) h3
    · obtain ⟨z7, z8, z9, z10, z11, ks, f, rfl, hs, hd, hkl, hval, hkey⟩ := h
      refine ⟨_, rfl, q d H' ks f (s1.trans hs) nd0 hd (fun w hw => ?_) hval⟩
      obtain ⟨i, hi, ei⟩ := List.getElem_of_mem hw
      rw [hal] at hi
      have hdm : i / E * E + i % E = i := by rw [Nat.mul_comm]; exact Nat.div_add_mod i E
      exact hkey (i / E) (i % E) w (Nat.div_lt_of_lt_mul hi) (Nat.mod_lt _ hE1) (by rw [hdm, List.getElem?_eq_getElem (by rw [hal]; exact hi), ei])
end
end Tw
namespace Tw
open PySem PySem.Spec PyProof.Rows L2 MT MW
section
variable {P : Program} {w : World} {K : PySem.W.Frag} {mg : Str → Option Value} {base : Heap} {CW CD : Addr}
open MD
theorem iteBo {c : Bool} {A B : Prop} (a : A) (b : B) : if c = true then A else B := by
  cases c
  · exact iteFe rfl b
  · exact iteTe rfl a
theorem aw_lo {L k : Nat} (z : Sz L k) : Lo (aw L k) := fun w hw c hc => by
  have := (mem_aw.mp hw).2 c hc
  have := z.k6
  omega
theorem aw_ne {L k : Nat} (z : Sz L k) : aw L k ≠ [] := fun e => by
  have h := aw_len k L
  rw [e] at h
  have := Nat.pow_pos (n := L) z.k1
  have h0 : (0 : Nat) = k ^ L := h
  omega
theorem ok__law_even_words (T : Txt K mg CW CD) : Df P w K mg base 3 "_law_even_words" ["script", "n", "length", "kinds"] (fun vs H Q _ => ∃ (a : Addr) (ns : List Int) (n : Int) (L k : Nat), vs = [.ref a, .int n, .int L, .int k] ∧ SqL K H a (ns.map V.int) ∧ ns.length ≤ 1000 ∧ Sz L k ∧
    ∀ q H' us, Same H H' → us.Nodup → us ≠ [] → (∀ w ∈ us, w ∈ aw L k) → H' q = some (.lst (sL us)) → Q (.ref q) H') := by
  refine df_of T.d__law_even_words sc__law_even_words bd__law_even_words (fun vs H Q E h => ?_) (fun f cdv A outer s H vs Q E hr h => ?_)
  · obtain ⟨a, ns, n, L, k, rfl, _⟩ := h
    rfl
  · obtain ⟨a, ns, n, L, k, rfl, ha, hl, z, q⟩ := h
    have hu := hu_of hr
    have h16 := aw_small z (n := L) (Nat.le_refl _)
    have hnd := aw_nd k L
    have hlo := aw_lo z
    have hne := aw_ne z
    refine ⟨_, (pss_cons (ps_set (i := 4) sc__law_even_words.nd rfl (Or.inl rfl) (pe_fn (ok__law_words T) hr (pa_cons (pv 2) (pa_cons (pv 3) pa_nil))))
    (pss_cons (ps_if (pt_cmpR op_eq (pe_op op_mod (pe_ix ix_list (pe_op op_catK (pv 0) (pe_lst (pa_cons pe_int pa_nil))) pe_int (fun _ _ => rfl)) pe_int) pe_int (nomark _))
    (pss_one (ps_ret (pe_fn (ok__law_by_digits T) hr (pa_cons (pv 4) (pa_cons (pe_op op_fdiv (pe_ix ix_list (pv 0) pe_int (fun _ _ => rfl)) pe_int) pa_nil)))))
    pss_nil)
    (pss_cons (ps_set (i := 5) sc__law_even_words.nd rfl (Or.inl rfl) (pe_fn (ok__law_behind T) hr (pa_cons (pv 0) (pa_cons (pv 4) (pa_cons (pv 2) (pa_cons (pv 3) pa_nil))))))
    (pss_cons (ps_set (i := 6) sc__law_even_words.nd rfl (Or.inl rfl) (pe_lst pa_nil))
    (pss_cons (ps_set (i := 7) sc__law_even_words.nd rfl (Or.inl rfl) pe_dnewK)
    (pss_cons (ps_set (i := 8) sc__law_even_words.nd rfl (Or.inl rfl) (pe_op op_fdiv (pe_fn (ok__law_stir T) hr (pa_cons (pv 1) (pa_cons pe_int pa_nil))) pe_int))
    (pss_cons (ps_for PassesOwn.never rfl (pi_list (pv 4)) (pg_name (i := 9) sc__law_even_words.nd rfl (Or.inl rfl))
    (pss_cons (ps_set (i := 10) sc__law_even_words.nd rfl (Or.inl rfl) (pe_cmpR op_gt (pe_op op_mod (pv 8) pe_int) pe_int (nomark _)))
    (pss_cons (ps_if (pt_cmp (pc_dnotin hu (pv 9) (pv 7)))
    (pss_one (ps_set (i := 8) sc__law_even_words.nd rfl (Or.inl rfl) (pe_op op_fdiv (pv 8) pe_int)))
    pss_nil)
    (pss_one (ps_while PassesOwn.never (pt_cmp (pc_dnotin hu (pv 9) (pv 7)))
    (pss_cons (ps_dput hu (pv 7) (pv 9) pe_bl rfl)
    (pss_cons (ps_if (pt_val (pv 10))
    (pss_one (ps_expr (pe_bm PySem.F.plainAttrs_list PySem.F.slot_list_append PySem.F.type_list_append mt_append (pv 6) (pa_cons (pv 9) pa_nil))))
    pss_nil)
    (pss_one (ps_set (i := 9) sc__law_even_words.nd rfl (Or.inl rfl) (pe_dget hu (pv 5) (pv 9) (fun _ _ => rfl)))))))))))
    (pss_cons (ps_if (pt_cmpR (op_eqW hr.units) (pv 6) (pe_lst pa_nil) (nomark _))
    (pss_one (ps_ret (pv 4)))
    pss_nil)
    (pss_one (ps_ret (pe_callB cr_sortW (by rfl) T.n_sorted (by decide +kernel) (pa_cons (pv 6) pa_nil)))))))))))), ?_⟩
    refine ⟨_, rfl, _, rfl, L, k, rfl, z, fun b H1 s1 nb eb => ?_⟩
    refine ⟨_, rfl, (by show 1 ≤ sizeLine; decide), fun c nc => ?_⟩
    have sc := same_upd (o := .lst [.int 0]) nc
    refine ⟨a, c, _, _, rfl, rfl, (s1.trans sc).seq ha, SqL.of upd_same, ?_, fun p np => ?_⟩
    · rw [List.length_map]
      exact Nat.le_of_lt (small1000 (n := ns.length + 1 - 1) (by omega)) |> fun h => by have := small1000 (n := 1000) (Nat.le_refl _); show ns.length + 1 ≤ sizeLine; omega
    have sp := same_upd (o := .lst (ns.map V.int ++ [.int 0])) np
    have s2 := (s1.trans sc).trans sp
    have eb2 := (sc.trans sp) _ _ eb
    have g0 : (ns.map V.int ++ [.int 0])[0]? = some (V.int (ns.headD 0)) := by cases ns <;> rfl
    refine ⟨p, _, 0, V.int (ns.headD 0), rfl, rfl, SqL.of upd_same, at_of (j := 0) rfl g0, _, _, rfl, rfl, (show (0 : Int) < 2 by decide), rfl, _, rfl, ?_⟩
    by_cases g : V.int (ns.headD 0 % 2) = V.int 1
    · refine iteTe (decide_eq_true g) ?_
      have hn : ns ≠ [] := fun e => by
        rw [e] at g
        injection g with g
        exact absurd g (by decide)
      have g1 : (ns.map V.int)[0]? = some (V.int (ns.headD 0)) := by
        obtain ⟨x, r, e⟩ := List.exists_cons_of_ne_nil hn
        rw [e]; rfl
      refine ⟨_, rfl, _, rfl, a, _, 0, V.int (ns.headD 0), rfl, rfl, s2.seq ha, at_of (j := 0) rfl g1, _, _, rfl, rfl, ⟨by decide, by decide⟩, b, aw L k, _, rfl, eb2, hne, by omega, hlo, fun u H3 us s3 hsub hun hu3 => ?_⟩
      exact q u H3 us (s2.trans s3) (hnd.sublist hsub) hun (fun w hw => hsub.subset hw) hu3
    · refine iteFe (decide_eq_false g) ?_
      refine ⟨_, rfl, _, rfl, _, rfl, _, rfl, a, b, ns, L, k, rfl, s2.seq ha, hl, eb2, z, fun d H3 ks f s3 nd ed hkeys hvals => ?_⟩
      have s23 := s2.trans s3
      have eb3 := s3 _ _ eb2
      refine ⟨(by show 0 ≤ sizeLine; decide), fun kp nkp => ?_⟩
      have skp := same_upd (o := .lst []) nkp
      intro mt nmt
      have nmt3 : H3 mt = none := skp.free nmt
      have smt := same_upd (o := .dK []) nmt
      have nkm : kp ≠ mt := ne_of_none upd_same nmt
      refine ⟨_, rfl, n, 50, rfl, by omega, fun r r0 r1 => ?_⟩
      refine ⟨_, _, rfl, rfl, ⟨by decide, by decide⟩, ?_⟩
      refine ⟨_, rfl, b, rfl, ⟨_, SqL.of ((skp.trans smt) _ _ eb3)⟩, ?_⟩
      refine for_list (K := K) (a := b) (xs := sL (aw L k)) (fun i σ H' => ∃ m z9 z10 kl ml fv, σ = [some (.ref a), some (.int n), some (.int L), some (.int k), some (.ref b), some (.ref d), some (.ref kp), some (.ref mt), some (.int m), z9, z10] ∧ Same H3 H' ∧ H' kp = some (.lst (sL kl)) ∧ H' mt = some (.dK (dkv ml fv)) ∧ ml.Nodup ∧ (∀ w ∈ ml, w ∈ aw L k) ∧ kl.Nodup ∧ ∀ w ∈ kl, w ∈ ml)
        ⟨_, none, none, [], [], fun _ => .non, rfl, skp.trans smt, by rw [upd_ne nkm]; exact upd_same, upd_same, List.nodup_nil, fun w hw => (by cases hw), List.nodup_nil, fun w hw => (by cases hw)⟩ (fun i σ H' _ h => ?_) (fun i x σ H' hx h => ?_) (fun σ H' h => ?_)
      · obtain ⟨_, _, _, _, _, _, _, hs, _⟩ := h
        exact SqL.of (hs _ _ eb3)
      · obtain ⟨m, z9, z10, kl, ml, fv, rfl, hs, hkp, hmt, mn, msub, kn, ksub⟩ := h
        obtain ⟨y, hy, rfl⟩ := sL_at hx
        have hyw := List.mem_of_getElem? hy
        refine ⟨_, rfl, _, _, rfl, rfl, (show (0 : Int) < 4 by decide), _, _, rfl, rfl, ?_⟩
        refine ⟨_, rfl, _, rfl, mt, _, rfl, dget_w hmt, _, rfl, ?_⟩
        refine iteBo ⟨_, rfl, _, _, rfl, rfl, ⟨by decide, by decide⟩, ?_⟩ ?_
        all_goals
          refine ⟨fun M σ H' => ∃ m2 kb x kl ml fv, σ = [some (.ref a), some (.int n), some (.int L), some (.int k), some (.ref b), some (.ref d), some (.ref kp), some (.ref mt), some (.int m2), some (sV x), some (.bl kb)] ∧ x ∈ aw L k ∧ Same H3 H' ∧ H' kp = some (.lst (sL kl)) ∧ H' mt = some (.dK (dkv ml fv)) ∧ ml.Nodup ∧ (∀ w ∈ ml, w ∈ aw L k) ∧ kl.Nodup ∧ (∀ w ∈ kl, w ∈ ml) ∧ M = 16 - ml.length,
            ⟨_, _, _, y, kl, ml, fv, rfl, hyw, hs, hkp, hmt, mn, msub, kn, ksub, rfl⟩, ?_⟩
          rintro M σ H' ⟨m2, kb, x, kl, ml, fv, rfl, hxw, hs, hkp, hmt, mn, msub, kn, ksub, rfl⟩
          have mlen := sub_len mn msub
          refine ⟨_, rfl, _, rfl, mt, _, rfl, dget_w hmt, _, rfl, ?_⟩
          by_cases hxm : x ∈ ml
          · rw [if_pos hxm]
            exact iteFe rfl ⟨m2, some (sV x), some (.bl kb), kl, ml, fv, rfl, hs, hkp, hmt, mn, msub, kn, ksub⟩
          · rw [if_neg hxm]
            refine iteTe rfl ?_
            refine ⟨fun σ' H2' => ∃ m', m' < 16 - ml.length ∧ ∃ m2 kb x kl ml fv, σ' = [some (.ref a), some (.int n), some (.int L), some (.int k), some (.ref b), some (.ref d), some (.ref kp), some (.ref mt), some (.int m2), some (sV x), some (.bl kb)] ∧ x ∈ aw L k ∧ Same H3 H2' ∧ H2' kp = some (.lst (sL kl)) ∧ H2' mt = some (.dK (dkv ml fv)) ∧ ml.Nodup ∧ (∀ w ∈ ml, w ∈ aw L k) ∧ kl.Nodup ∧ (∀ w ∈ kl, w ∈ ml) ∧ m' = 16 - ml.length, fun σ' H2 h => h, ?_⟩
            have ek : kadd ml x = ml ++ [x] := by unfold kadd; rw [if_neg hxm]
            have nd2 : (kadd ml x).Nodup := kadd_nd mn
            have sub2 : ∀ w ∈ kadd ml x, w ∈ aw L k := fun w hw => by
              rcases mem_kadd.mp hw with hw | hw
              · exact msub w hw
              · rw [hw]; exact hxw
            have len2 := sub_len nd2 sub2
            have len3 : (kadd ml x).length = ml.length + 1 := by rw [ek, List.length_append]; rfl
            refine ⟨_, rfl, _, rfl, mt, _, rfl, dput_w hmt (by omega), ?_⟩
            have hkp2 : upd H' mt (.dK (dkv (kadd ml x) (fup fv x (.bl true)))) kp = some (.lst (sL kl)) := by rw [upd_ne nkm]; exact hkp
            have sM := same_chg (o := .dK (dkv (kadd ml x) (fup fv x (.bl true)))) hs nmt3
            obtain ⟨v, hv, efv⟩ := hvals x (hkeys x hxw)
            have hxk : x ∉ kl := fun h => hxm (ksub x h)
            have kll := sub_len kn fun w hw => msub w (ksub w hw)
            refine ⟨_, rfl, kb, rfl, ?_⟩
            refine iteBo ⟨_, rfl, .inl ⟨rfl, _, SqL.of hkp2⟩, _, rfl, kp, _, _, rfl, rfl, hkp2, by rw [sL_len]; exact small1000 (by omega), ?_⟩ ?_
            · refine ⟨_, rfl, _, rfl, d, _, rfl, dget_in (.of ((same_chg sM nkp) _ _ ed)) (hkeys x hxw), ?_⟩
              rw [efv]
              refine ⟨_, ?_, m2, kb, v, kl ++ [x], kadd ml x, _, rfl, hv, same_chg sM nkp, by rw [upd_same, sL_app]; rfl, by rw [upd_ne nkm.symm]; exact upd_same, nd2, sub2, ?_, fun w hw => ?_, rfl⟩
              · omega
              · exact List.nodup_append.mpr ⟨kn, List.nodup_cons.mpr ⟨by simp, List.nodup_nil⟩, fun p hp q hq e => by
                  rw [List.mem_singleton.mp hq] at e
                  rw [e] at hp
                  exact hxk hp⟩
              · rcases List.mem_append.mp hw with hw | hw
                · exact mem_kadd.mpr (.inl (ksub w hw))
                · exact mem_kadd.mpr (.inr (List.mem_singleton.mp hw))
            · refine ⟨_, rfl, _, rfl, d, _, rfl, dget_in (.of (sM _ _ ed)) (hkeys x hxw), ?_⟩
              rw [efv]
              exact ⟨_, by omega, m2, kb, v, kl, kadd ml x, _, rfl, hv, sM, hkp2, upd_same, nd2, sub2, kn, fun w hw => mem_kadd.mpr (.inl (ksub w hw)), rfl⟩
      · obtain ⟨m, z9, z10, kl, ml, fv, rfl, hs, hkp, hmt, mn, msub, kn, ksub⟩ := h
        have kll := sub_len kn fun w hw => msub w (ksub w hw)
        have klo : Lo kl := fun w hw => hlo w (msub w (ksub w hw))
        refine ⟨_, rfl, (by show 0 ≤ sizeLine; decide), fun c2 nc2 => ?_⟩
        have sc2 := same_upd (o := .lst []) nc2
        refine ⟨kp, c2, kl, [], rfl, rfl, .inl ⟨SqL.of (sc2 _ _ hkp), SqL.of upd_same⟩, klo, fun x hx => (by cases hx), _, rfl, ?_⟩
        by_cases gk : kl = []
        · refine iteTe (by show (if false = true then _ else decide (kl = [])) = true; rw [if_neg (by decide)]; exact decide_eq_true gk) ?_
          exact ⟨_, rfl, q b _ (aw L k) ((s23.trans hs).trans sc2) hnd hne (fun w hw => hw) (sc2 _ _ (hs _ _ eb3))⟩
        · refine iteFe (by show (if false = true then _ else decide (kl = [])) = false; rw [if_neg (by decide)]; exact decide_eq_false gk) ?_
          refine ⟨_, rfl, kp, kl, rfl, SqL.of (sc2 _ _ hkp), kn, by omega, fun u nu => ?_⟩
          refine q u _ (srt kl) (((s23.trans hs).trans sc2).trans (same_upd nu)) (srt_nd kl) (fun e => ?_) (fun w hw => msub w (ksub w (mem_srt.mp hw))) upd_same
          obtain ⟨x, r, e2⟩ := List.exists_cons_of_ne_nil gk
          have : x ∈ srt kl := mem_srt.mpr (by rw [e2]; exact List.mem_cons_self ..)
          rw [e] at this; cases this
end
end Tw
namespace Tw
open PySem PySem.Spec PyProof.Rows L2 MT MW
section
variable {P : Program} {w : World} {K : PySem.W.Frag} {mg : Str → Option Value} {base : Heap} {CW CD : Addr}
open MD
theorem tail_tr {ws S : List Wd} {L : Nat} (W : WebOk ws L) (o : RingOrd ws S) : ∃ h r r', ws = h :: r ∧ S = h :: r' ∧ Tr bgn enn r (enn h) (bgn h) r' ∧ isWalk bgn enn (bgn h) S (bgn h) := by
  obtain ⟨h, r, e⟩ := List.exists_cons_of_ne_nil W.ne
  obtain ⟨x, r', e2, hx, R⟩ := rg_of o W
  have ex : h = x := by rw [e] at hx; exact Option.some.inj hx
  subst ex
  have hp := o.perm
  rw [e, e2] at hp
  have hw := R.walk
  rw [e2] at hw
  exact ⟨h, r, r', e, e2, ⟨(List.perm_cons h).mp hp, hw.2⟩, by rw [e2]; exact hw⟩
theorem ltw_asym {x y : Wd} (h : ltw x y = true) : ltw y x = false := by
  cases g : ltw y x with
  | false => rfl
  | true =>
    have := lin.tr _ _ _ h g
    rw [lin.irr] at this; cases this
/-- numbers of rings stand as their texts do -/
theorem ring_cmp {ws S U : List Wd} {L : Nat} (W : WebOk ws L) (o : RingOrd ws S) (u : RingOrd ws U) :
    decide (num bgn enn ltw (pcs ws) (bgn (ws.headD [])) S.tail ws.tail < num bgn enn ltw (pcs ws) (bgn (ws.headD [])) U.tail ws.tail) = ltw (rtx S) (rtx U) := by
  obtain ⟨h, r, S', e, eS, tS, wS⟩ := tail_tr W o
  obtain ⟨h2, r2, U', e', eU, tU, wU⟩ := tail_tr W u
  rw [e] at e'
  injection e' with e1 e2
  subst e1 e2
  have lS : ∀ w ∈ S, w.length = L := fun w hw => W.len w (o.perm.mem_iff.mp hw)
  have lU : ∀ w ∈ U, w.length = L := fun w hw => W.len w (u.perm.mem_iff.mp hw)
  have hh : h ∈ ws := by rw [e]; exact List.mem_cons_self ..
  have g : Gd bgn enn (pcs ws) r := W.gd (by rw [e]; exact List.sublist_cons_self h r)
  have hu := enn_pcs hh
  have main : ∀ {p l k : List Wd} {x y : Wd}, Tr bgn enn r (enn h) (bgn h) (p ++ x :: l) → Tr bgn enn r (enn h) (bgn h) (p ++ y :: k) → isWalk bgn enn (bgn h) (h :: (p ++ x :: l)) (bgn h) → isWalk bgn enn (bgn h) (h :: (p ++ y :: k)) (bgn h) → (∀ w ∈ h :: (p ++ x :: l), w.length = L) → (∀ w ∈ h :: (p ++ y :: k), w.length = L) → ltw x y = true →
      num bgn enn ltw (pcs ws) (bgn h) (p ++ x :: l) r < num bgn enn ltw (pcs ws) (bgn h) (p ++ y :: k) r ∧ ltw (rtx (h :: (p ++ x :: l))) (rtx (h :: (p ++ y :: k))) = true := by
    intro p l k x y t1 t2 w1 w2 l1 l2 lt
    refine ⟨num_mono lin g hu t1 t2 lt, decide_eq_true ?_⟩
    have hl : l.length = k.length := by
      have := t1.perm.length_eq.trans t2.perm.length_eq.symm
      rw [List.length_append, List.length_append, List.length_cons, List.length_cons] at this
      omega
    exact rtx_lt (p := h :: p) w1 l1 w2 l2 hl W.lo (of_decide_eq_true lt)
  have ehd : ws.headD [] = h := by rw [e]; rfl
  have etl : ws.tail = r := by rw [e]; rfl
  rw [ehd, etl]
  rw [eS, eU] at *
  show decide (num bgn enn ltw (pcs ws) (bgn h) S' r < num bgn enn ltw (pcs ws) (bgn h) U' r) = _
  rcases first_diff S' U' (tS.perm.length_eq.trans tU.perm.length_eq.symm) with q | ⟨p, x, y, l, k, q1, q2, ne⟩
  · rw [q, lin.irr]
    exact decide_eq_false (Int.lt_irrefl _)
  · subst q1 q2
    rcases lin.tri x y ne with lt | lt
    · obtain ⟨a, b⟩ := main tS tU wS wU lS lU lt
      rw [b]; exact decide_eq_true a
    · obtain ⟨a, b⟩ := main tU tS wU wS lU lS lt
      rw [ltw_asym b]; exact decide_eq_false (by omega)
theorem at3 {a : Type} {l : List a} (hl : l.length = 3) {k : Nat} (hk : k < 3) {x : a} (h : l[(k + 2) % 3]? = some x) : atI l (((0 : Int) + k) - 1) = some x := by
  unfold atI
  rw [hl]
  have : k = 0 ∨ k = 1 ∨ k = 2 := by omega
  rcases this with rfl | rfl | rfl
  · rw [show ixN 3 (((0 : Int) + (0 : Nat)) - 1) = some 2 by decide]; exact h
  · rw [show ixN 3 (((0 : Int) + (1 : Nat)) - 1) = some 0 by decide]; exact h
  · rw [show ixN 3 (((0 : Int) + (2 : Nat)) - 1) = some 1 by decide]; exact h
end
end Tw
namespace Tw
open PySem PySem.Spec PyProof.Rows L2 MT MW
section
variable {P : Program} {w : World} {K : PySem.W.Frag} {mg : Str → Option Value} {base : Heap} {CW CD : Addr}
open MD
def spLaw (K : PySem.W.Frag) : Sp := fun vs H Q _ => ∃ (a : Addr) (ns : List Int), vs = [.ref a] ∧ SqL K H a (ns.map V.int) ∧ ns.length ≤ 1000 ∧ ∀ H', Q (.bl true) H'
theorem fn_law (T : Txt K mg CW CD) {fa : Addr} {fd : FuncData} (F : Fun K "law" "law" s_law fa fd) : FnOk P w K mg base CX0 9 fa fd ["script"] (spLaw K) := by
  refine F.ok sc_law (fun vs H Q E h => ?_) (fun cdv A outer s H vs Q E hr h => ?_)
  · obtain ⟨a, ns, rfl, _⟩ := h
    rfl
  · obtain ⟨a, ns, rfl, ha, hl, q⟩ := h
    refine ⟨_, (pss_cons (ps_set (i := 1) sc_law.nd rfl (Or.inl rfl) (pe_op op_mod (pe_op op_mul (pe_callB (cr_sum rfl) (by rfl) T.n_sum (by decide +kernel) (pa_cons (pv 0) pa_nil)) pe_int) pe_int))
    (pss_cons (ps_asg (pe_fn (ok__law_size T) hr (pa_cons (pe_op op_fdiv (pv 1) pe_int) pa_nil)) (pg_tup (by rfl) (pgs_cons (pg_name (i := 2) sc_law.nd rfl (Or.inl rfl)) (pgs_cons (pg_name (i := 3) sc_law.nd rfl (Or.inl rfl)) pgs_nil))))
    (pss_cons (ps_set (i := 4) sc_law.nd rfl (Or.inr rfl) (pe_mk (ok_Web_init T) hr (pa_cons (pe_fn (ok__law_even_words T) hr (pa_cons (pv 0) (pa_cons (pv 1) (pa_cons (pv 2) (pa_cons (pv 3) pa_nil))))) pa_nil)))
    (pss_cons (ps_if (pt_cmpR op_notN (pe_fn (ok_why_no_ring T) hr (pa_cons (pv 4) pa_nil)) pe_non (nomark _))
    (pss_one (ps_ret pe_bl))
    pss_nil)
    (pss_cons (ps_set (i := 5) sc_law.nd rfl (Or.inl rfl) (pe_fn (ok_ring_count T) hr (pa_cons (pv 4) pa_nil)))
    (pss_cons (ps_if (pt_cmpR op_ne (pv 5) (pe_fn (ok__law_count T) hr (pa_cons (pv 4) pa_nil)) (nomark _))
    (pss_one (ps_ret pe_bl))
    pss_nil)
    (pss_cons (ps_set (i := 6) sc_law.nd rfl (Or.inl rfl) (pe_fn (ok__law_folded T) hr (pa_cons (pv 0) (pa_cons pe_int pa_nil))))
    (pss_cons (ps_set (i := 7) sc_law.nd rfl (Or.inl rfl) (pe_lst pa_nil))
    (pss_cons (ps_for PassesOwn.never rfl (pi_list (pv 6)) (pg_name (i := 8) sc_law.nd rfl (Or.inl rfl))
    (pss_cons (ps_set (i := 9) sc_law.nd rfl (Or.inl rfl) (pe_lst (pa_cons pe_int (pa_cons (pe_op op_sub (pv 5) pe_int) (pa_cons (pe_op op_mod (pe_op op_mul (pv 8) pe_int) (pv 5)) pa_nil)))))
    (pss_one (ps_expr (pe_bm PySem.F.plainAttrs_list PySem.F.slot_list_append PySem.F.type_list_append mt_append (pv 7) (pa_cons (pe_ix ix_list (pv 9) (pe_op op_mod (pe_op op_fdiv (pe_fn (ok__law_stir T) hr (pa_cons (pv 8) (pa_cons pe_int pa_nil))) pe_int) pe_int) (fun _ _ => rfl)) pa_nil))))))
    (pss_cons (ps_setLc (i := 10) (own := [("number", 14)]) (g := gName 14) rfl sc_law.nd rfl rfl (sw_true rfl rfl rfl (by decide +kernel)) (pi_list (pv 7)) (blkOk_by (own := [("number", 14)]) (N := ["script", "n", "length", "kinds", "web", "many", "cells", "numbers", "cell", "some", "rings", "k", "tree", "orders", "number"]) (sc := defScope s_law) (by decide +kernel)) (fun _ _ _ _ _ => pg_name (i := 14) sc_law.nd rfl (Or.inl rfl)) (fun _ _ _ _ _ => pts_nil) (fun _ _ _ _ _ => (pe_fn (ok_ring_by T) hr (pa_cons (pv 4) (pa_cons (pv 14) pa_nil)))))
    (pss_cons (ps_for PassesOwn.never rfl (pi_range1 (by rfl) T.n_range (pa_cons pe_int pa_nil)) (pg_name (i := 11) sc_law.nd rfl (Or.inl rfl))
    (pss_cons (ps_asg (pe_fn (ok_parts_of T) hr (pa_cons (pv 4) (pa_cons (pe_ix ix_list (pv 10) (pv 11) (fun _ _ => rfl)) pa_nil))) (pg_tup (by rfl) (pgs_cons (pg_name (i := 12) sc_law.nd rfl (Or.inl rfl)) (pgs_cons (pg_name (i := 13) sc_law.nd rfl (Or.inl rfl)) pgs_nil))))
    (pss_cons (ps_if (PW.pt (pw_or (pt_not (pt_val (pe_fn (ok_is_ring T) hr (pa_cons (pv 4) (pa_cons (pe_ix ix_list (pv 10) (pv 11) (fun _ _ => rfl)) pa_nil))))) (pw_or1 (pt_not (pt_val (pe_fn (ok_is_tree T) hr (pa_cons (pv 4) (pa_cons (pe_slice sl_str (pe_ix ix_tup (pe_fld (pv 4) rfl) pe_int (fun _ _ => rfl)) po_none (po_some (pe_un un_neg pe_int))) (pa_cons (pv 12) pa_nil)))))))))
    (pss_one (ps_ret pe_bl))
    pss_nil)
    (pss_cons (ps_if (PW.pt (pw_or (pt_cmpR op_ne (pe_fn (ok_ring_of T) hr (pa_cons (pv 4) (pa_cons (pv 12) (pa_cons (pv 13) pa_nil)))) (pe_ix ix_list (pv 10) (pv 11) (fun _ _ => rfl)) (nomark _)) (pw_or1 (pt_cmpR op_ne (pe_fn (ok_ring_number T) hr (pa_cons (pv 4) (pa_cons (pe_ix ix_list (pv 10) (pv 11) (fun _ _ => rfl)) pa_nil))) (pe_ix ix_list (pv 7) (pv 11) (fun _ _ => rfl)) (nomark _)))))
    (pss_one (ps_ret pe_bl))
    pss_nil)
    (pss_cons (ps_if (PW.pt (pw_or (pt_cmpR op_ne (pe_fn (ok__law_written T) hr (pa_cons (pv 4) (pa_cons (pe_ix ix_list (pv 10) (pv 11) (fun _ _ => rfl)) pa_nil))) (pe_ix ix_list (pv 7) (pv 11) (fun _ _ => rfl)) (nomark _)) (pw_or1 (pt_not (pt_val (pe_fn (ok__law_led T) hr (pa_cons (pv 4) (pa_cons (pe_ix ix_list (pv 10) (pv 11) (fun _ _ => rfl)) (pa_cons (pe_ix ix_list (pv 10) (pe_op op_mod (pe_op op_add (pv 11) pe_int) pe_int) (fun _ _ => rfl)) pa_nil)))))))))
    (pss_one (ps_ret pe_bl))
    pss_nil)
    (pss_one (ps_if (pt_cmpR op_ne (pe_cmpR op_lt (pe_ix ix_list (pv 7) (pv 11) (fun _ _ => rfl)) (pe_ix ix_list (pv 7) (pe_op op_sub (pv 11) pe_int) (fun _ _ => rfl)) (nomark _)) (pe_cmpR op_lt_str (pe_ix ix_list (pv 10) (pv 11) (fun _ _ => rfl)) (pe_ix ix_list (pv 10) (pe_op op_sub (pv 11) pe_int) (fun _ _ => rfl)) (nomark _)) (nomark _))
    (pss_one (ps_ret pe_bl))
    pss_nil)))))))
    (pss_one (ps_ret pe_bl))))))))))))), ?_⟩
    refine ⟨_, rfl, a, ns, rfl, ha, _, _, rfl, rfl, .inr (by decide), _, _, rfl, rfl, (show (0 : Int) < 2147483647 by decide), ?_⟩
    refine ⟨_, rfl, _, _, rfl, rfl, ⟨by decide, by decide⟩, _, rfl, fun r H1 L k s1 z er => ⟨r, _, rfl, SqT.of er, rfl, _, _, rfl, _, _, rfl, rfl, ?_⟩⟩
    refine ⟨_, rfl, _, rfl, _, rfl, _, rfl, a, ns, _, L, k, rfl, s1.seq ha, hl, z, fun b H2 us s2 und une usub hus => fun x dx nx ndx nex => ⟨x, b, dx, us, L, H2, rfl, upd_same, (same_upd ndx).trans (same_upd (by rw [upd_ne nex.symm]; exact nx)), nx, SqL.of hus, und, web_ok z und une usub, fun H3 t s3 W => ⟨rfl, ?_⟩⟩⟩
    generalize srt us = ws at W
    have s123 := (s1.trans s2).trans s3
    refine ⟨_, rfl, x, t, ws, L, rfl, W, fun ok H4 s4 => ?_, fun nok r H4 s4 => ?_⟩
    rotate_left
    · exact ⟨rfl, _, rfl, iteTe rfl (q H4)⟩
    refine ⟨rfl, _, rfl, iteFe rfl ?_⟩
    have W4 := W.same s4
    refine ⟨_, rfl, x, t, ws, L, rfl, W4, ok, fun H5 zc s5 ez => ?_⟩
    subst ez
    have W5 := W4.same s5
    refine ⟨_, rfl, _, rfl, x, t, ws, L, rfl, W5, ok, fun H6 s6 => ⟨rfl, _, rfl, iteFe (by rw [decide_eq_true rfl]; rfl) ?_⟩⟩
    have W6 := W5.same s6
    have s6a := ((s123.trans s4).trans s5).trans s6
    have hmany := cnt_pos W.ok ok
    generalize hM : cntR ws = M at hmany
    refine ⟨_, rfl, a, ns, 3, rfl, s6a.seq ha, hl, by decide, by decide, fun q1 H7 cs s7 n7 e7 hcl => ?_⟩
    have W7 := W6.same s7
    refine ⟨(by show 0 ≤ sizeLine; decide), fun nb nnb => ?_⟩
    have snb := same_upd (o := .lst []) nnb
    refine ⟨_, rfl, q1, rfl, ⟨_, SqL.of (snb _ _ e7)⟩, ?_⟩
    refine for_list (K := K) (a := q1) (xs := cs.map V.int) (fun i σ H' => ∃ z8 z9 nums, σ = [some (.ref a), some (.int (ns.sum * 69621 % 2147483647)), some (.int L), some (.int k), some (.ref x), some (.int M), some (.ref q1), some (.ref nb), z8, z9, none, none, none, none, none] ∧ Same H7 H' ∧ H' nb = some (.lst (nums.map V.int)) ∧ nums.length = i ∧ ∀ z ∈ nums, 0 ≤ z ∧ z < M)
      ⟨none, none, [], rfl, snb, upd_same, rfl, fun z hz => (by cases hz)⟩ (fun i σ H' _ h => ?_) (fun i v σ H' hv h => ?_) (fun σ H' h => ?_)
    · obtain ⟨_, _, _, _, hs, _⟩ := h
      exact SqL.of (hs _ _ e7)
    · obtain ⟨z8, z9, nums, rfl, hs, hnb, hnl, hnz⟩ := h
      rw [List.getElem?_map] at hv
      obtain ⟨c, hc, rfl⟩ : ∃ c, cs[i]? = some c ∧ V.int c = v := by
        cases e : cs[i]? with
        | none => rw [e] at hv; cases hv
        | some c => rw [e] at hv; exact ⟨c, rfl, Option.some.inj hv⟩
      have hi : i < 3 := by rw [← hcl]; exact (List.getElem?_eq_some_iff.mp hc).1
      refine ⟨_, rfl, _, _, rfl, rfl, _, rfl, _, _, rfl, rfl, .inr (by decide), _, rfl, _, _, rfl, rfl, (by show (0 : Int) < M; omega), (by show 3 ≤ sizeLine; decide), fun sm nsm => ?_⟩
      have ssm := same_upd (o := .lst [.int 0, .int (M - 1), .int (c * 1000003 % M)]) nsm
      have hnb2 := ssm _ _ hnb
      refine ⟨_, rfl, .inl ⟨rfl, _, SqL.of hnb2⟩, _, rfl, _, rfl, c, 61, rfl, by decide, fun r r0 r1 => ?_⟩
      have h3 : 0 ≤ r / 7 % 3 ∧ r / 7 % 3 < 3 := ⟨Int.emod_nonneg _ (by decide), Int.emod_lt_of_pos _ (by decide)⟩
      have hm1 := Int.emod_nonneg (c * 1000003) (show M ≠ 0 by omega)
      have hm2 := Int.emod_lt_of_pos (c * 1000003) (show 0 < M by omega)
      obtain ⟨y, hy, y0, y1⟩ : ∃ y, atI ([.int 0, .int (M - 1), .int (c * 1000003 % M)] : List V) (r / 7 % 3) = some (V.int y) ∧ 0 ≤ y ∧ y < M := by
        have : r / 7 % 3 = 0 ∨ r / 7 % 3 = 1 ∨ r / 7 % 3 = 2 := by omega
        rcases this with e | e | e
        · exact ⟨0, at_of (j := 0) e rfl, by omega, by omega⟩
        · exact ⟨M - 1, at_of (j := 1) e rfl, by omega, by omega⟩
        · exact ⟨c * 1000003 % M, at_of (j := 2) e rfl, hm1, hm2⟩
      refine ⟨_, _, rfl, rfl, ⟨by decide, by decide⟩, _, _, rfl, rfl, (show (0 : Int) < 3 by decide), sm, _, _, _, rfl, rfl, SqL.of upd_same, hy, nb, _, _, rfl, rfl, hnb2, by rw [List.length_map]; exact small1000 (by omega), ?_⟩
      refine ⟨some (.int c), some (.ref sm), nums ++ [y], rfl, same_chg (hs.trans ssm) nnb, by rw [upd_same, List.map_append]; rfl, by rw [List.length_append, hnl]; rfl, fun z hz => ?_⟩
      rcases List.mem_append.mp hz with hz | hz
      · exact hnz z hz
      · rw [List.mem_singleton.mp hz]; exact ⟨y0, y1⟩
    · obtain ⟨z8, z9, nums, rfl, hs, hnb, hnl, hnz⟩ := h
      rw [List.length_map, hcl] at hnl
      have W8 := W7.same hs
      refine ⟨_, rfl, nb, rfl, ⟨_, SqL.of hnb⟩, fun D nD => ?_⟩
      have hord : ∀ z ∈ nums, RingOrd ws (ringL ws z) ∧ num bgn enn ltw (pcs ws) (bgn (ws.headD [])) (ringL ws z).tail ws.tail = z := fun z hz => ringL_ok W.ok (hnz z hz).1 (by rw [hM]; exact (hnz z hz).2)
      refine lc_list (K := K) (a := nb) (xs := nums.map V.int) (fun i H9 => Same H' H9 ∧ H9 D = some (.lst ((nums.take i).map fun z => sV (rtx (ringL ws z))))) ⟨same_upd nD, upd_same⟩ (fun i H9 _ h => SqL.of (h.1 _ _ hnb)) (fun i v H9 hv ⟨hs9, hD⟩ => ?_) (fun H9 ⟨hs9, hD⟩ => ?_)
      · rw [List.getElem?_map] at hv
        obtain ⟨c, hc, rfl⟩ : ∃ c, nums[i]? = some c ∧ V.int c = v := by
          cases e : nums[i]? with
          | none => rw [e] at hv; cases hv
          | some c => rw [e] at hv; exact ⟨c, rfl, Option.some.inj hv⟩
        have hcm := List.mem_of_getElem? hc
        refine ⟨rfl, ?_⟩
        unfold tYes; dsimp only
        rw [if_pos rfl]
        refine ⟨_, rfl, _, rfl, x, t, ws, L, c, rfl, W8.same hs9, ok, (hnz c hcm).1, by rw [hM]; exact (hnz c hcm).2, fun H10 s10 => ?_⟩
        refine ⟨_, s10 _ _ hD, ?_, same_chg (hs9.trans s10) nD, ?_⟩
        · rw [List.length_map, List.length_take]; exact small1000 (by omega)
        · rw [upd_same, take_snoc hc, List.map_append]; rfl
      · rw [List.length_map, List.take_length] at hD
        have W9 := W8.same hs9
        have hnb9 := hs9 _ _ hnb
        refine ⟨_, rfl, by decide, by decide, ?_⟩
        refine for_range (lo := 0) (n := 3) (fun i σ H10 => ∃ z11 z12 z13, σ = [some (.ref a), some (.int (ns.sum * 69621 % 2147483647)), some (.int L), some (.int k), some (.ref x), some (.int M), some (.ref q1), some (.ref nb), z8, z9, some (.ref D), z11, z12, z13, none] ∧ Same H9 H10)
          ⟨none, none, none, rfl, Same.refl H9⟩ (fun i σ H10 hi h => ?_) (fun σ H10 h => ?_)
        · obtain ⟨z11, z12, z13, rfl, h10⟩ := h
          have hx : nums[i]? = some nums[i] := List.getElem?_eq_getElem (by omega)
          have hx1 : nums[(i + 1) % 3]? = some nums[(i + 1) % 3] := List.getElem?_eq_getElem (by omega)
          have hx2 : nums[(i + 2) % 3]? = some nums[(i + 2) % 3] := List.getElem?_eq_getElem (by omega)
          generalize nums[i] = y at hx
          generalize nums[(i + 1) % 3] = y1 at hx1
          generalize nums[(i + 2) % 3] = y2 at hx2
          obtain ⟨o, eo⟩ := hord y (List.mem_of_getElem? hx)
          obtain ⟨o1, eo1⟩ := hord y1 (List.mem_of_getElem? hx1)
          obtain ⟨o2, eo2⟩ := hord y2 (List.mem_of_getElem? hx2)
          have gr : ∀ {j : Nat} {v : Int}, nums[j]? = some v → (nums.map fun z => sV (rtx (ringL ws z)))[j]? = some (sV (rtx (ringL ws v))) := fun h => by rw [List.getElem?_map, h]; rfl
          have gn : ∀ {j : Nat} {v : Int}, nums[j]? = some v → (nums.map V.int)[j]? = some (V.int v) := fun h => by rw [List.getElem?_map, h]; rfl
          have e0i : (0 : Int) + (i : Int) = ((i : Nat) : Int) := Int.zero_add _
          have hD10 := h10 _ _ hD
          have hn10 := h10 _ _ hnb9
          have W10 := W9.same h10
          refine ⟨_, rfl, _, rfl, _, rfl, D, _, _, _, rfl, rfl, SqL.of hD10, at_of e0i (gr hx), x, t, ws, ringL ws y, L, rfl, W10, ok, o, fun H11 u ta oa g s11 eu eta OB => ⟨u, _, rfl, SqT.of eu, rfl, _, _, rfl, _, _, rfl, rfl, ?_⟩⟩
          have hD11 := s11 _ _ hD10
          have hn11 := s11 _ _ hn10
          have W11 := W10.same s11
          refine ⟨_, rfl, _, rfl, _, rfl, D, _, _, _, rfl, rfl, SqL.of hD11, at_of e0i (gr hx), x, t, ws, ringL ws y, L, rfl, W11, o, fun H12 s12 => ⟨true, rfl, iteFe rfl ?_⟩⟩
          have W12 := W11.same s12
          obtain ⟨dx12, hob12⟩ := W12.ob
          have hhm := head_mem W.ok
          refine ⟨_, rfl, _, rfl, x, CW, dx12, _, _, rfl, hob12, T.cWeb, T.aWeb_words, webF_words _ _, t, sL ws, 0, sV (ws.headD []), rfl, rfl, SqT.of W12.tp, at_of (j := 0) rfl (sL_get (by rw [← List.head?_eq_getElem?]; exact hhm.2)), _, rfl, (-1 : Int), rfl, _, rfl, by rw [S_len]; exact Nat.le_of_lt (small1000 (w1000 W.ok hhm.1)), ?_⟩
          rw [cut_bgn]
          refine ⟨_, rfl, x, t, ta, ws, ringL ws y, L, rfl, W12, ok, o, s12 _ _ eta, fun H13 s13 => ⟨true, rfl, iteFe rfl ?_⟩⟩
          have s123' := s12.trans s13
          have W13 := W12.same s13
          refine ⟨_, rfl, _, rfl, _, rfl, x, t, ta, oa, ws, ringL ws y, L, g, rfl, W13, ok, o, s123' _ _ eta, OB.same s123', fun H14 s14 => ?_⟩
          have s1114 := s123'.trans s14
          have hD14 := s1114 _ _ hD11
          have hn14 := s1114 _ _ hn11
          have W14 := W13.same s14
          refine ⟨_, rfl, _, rfl, D, _, _, _, rfl, rfl, SqL.of hD14, at_of e0i (gr hx), rfl, _, rfl, iteFe (by rw [decide_eq_true rfl]; rfl) ?_⟩
          refine ⟨_, rfl, _, rfl, _, rfl, D, _, _, _, rfl, rfl, SqL.of hD14, at_of e0i (gr hx), x, t, ws, ringL ws y, L, rfl, W14, o, fun H15 zn s15 ezn => ?_⟩
          rw [eo] at ezn
          subst ezn
          have hD15 := s15 _ _ hD14
          have hn15 := s15 _ _ hn14
          have W15 := W14.same s15
          refine ⟨_, rfl, _, rfl, nb, _, _, _, rfl, rfl, SqL.of hn15, at_of e0i (gn hx), rfl, _, rfl, iteFe (by rw [decide_eq_true rfl]; rfl) ?_⟩
          refine ⟨_, rfl, _, rfl, _, rfl, D, _, _, _, rfl, rfl, SqL.of hD15, at_of e0i (gr hx), x, t, ws, ringL ws zn, L, rfl, W15, ok, o, fun H16 s16 => ?_⟩
          rw [eo]
          have hD16 := s16 _ _ hD15
          have hn16 := s16 _ _ hn15
          have W16 := W15.same s16
          refine ⟨_, rfl, _, rfl, nb, _, _, _, rfl, rfl, SqL.of hn16, at_of e0i (gn hx), rfl, _, rfl, iteFe (by rw [decide_eq_true rfl]; rfl) ?_⟩
          have em : ((0 : Int) + (i : Int) + 1) % 3 = (((i + 1) % 3 : Nat) : Int) := by omega
          refine ⟨_, rfl, _, rfl, _, rfl, D, _, _, _, rfl, rfl, SqL.of hD16, at_of e0i (gr hx), _, rfl, _, rfl, _, _, rfl, rfl, _, _, rfl, rfl, (show (0 : Int) < 3 by decide), D, _, _, _, rfl, rfl, SqL.of hD16, at_of em (gr hx1), x, t, ws, ringL ws zn, ringL ws y1, L, rfl, W16, o, o1, fun H17 s17 => ⟨true, rfl, iteFe rfl ?_⟩⟩
          have hD17 := s17 _ _ hD16
          have hn17 := s17 _ _ hn16
          refine ⟨_, rfl, _, rfl, nb, _, _, _, rfl, rfl, SqL.of hn17, at_of e0i (gn hx), _, rfl, _, rfl, _, _, rfl, rfl, nb, _, _, _, rfl, rfl, SqL.of hn17, at3 (by rw [List.length_map]; exact hnl) hi (gn hx2), _, _, rfl, rfl, ?_⟩
          refine ⟨_, rfl, _, rfl, D, _, _, _, rfl, rfl, SqL.of hD17, at_of e0i (gr hx), _, rfl, _, rfl, _, _, rfl, rfl, D, _, _, _, rfl, rfl, SqL.of hD17, at3 (by rw [List.length_map]; exact hnl) hi (gr hx2), _, _, rfl, rfl, rfl, _, rfl, iteFe ?_ ?_⟩
          · have cmp := ring_cmp W.ok o o2
            rw [eo, eo2] at cmp
            show (!decide (V.bl (decide (zn < y2)) = V.bl (ltw (rtx (ringL ws zn)) (rtx (ringL ws y2))))) = false
            rw [cmp, decide_eq_true rfl]; rfl
          · exact ⟨_, _, _, rfl, ((((((h10.trans s11).trans s1114).trans s15).trans s16).trans s17))⟩
        · obtain ⟨z11, z12, z13, rfl, h10⟩ := h
          exact q H10
end
end Tw
namespace Tw
open PySem PySem.Spec PyProof.Rows L2 MT MW
section
variable {K : PySem.W.Frag} {h : Heap} {mg : Str → Option Value} {x qual : Str} {st : Stmt} {f C : Addr} {oc kV dc pm cd ct : Value} {od an : Option Addr} {sl : Array (Option Value)}
theorem def_mk (X : K.In h) (G : h.Ns mainGlobals mg) (a : PySem.W.nsIn K mainGlobals x = some (some (.ref f))) (l : K.lookup f = some ⟨oc, od, .func (PySem.W.fnOf x x (defArgs st) (defBody st) (defScope st) .none kV dc pm an cd ct), sl⟩)
    (c : PySem.W.codeIn K cd x = true) (k : PySem.W.keepIn K (.ref f) = true) : DefAt K mg x st := ⟨f, _, fun_mk l c k, PySem.W.mg_of X G a⟩
theorem gl_mk {u : Value} {v : V} (X : K.In h) (G : h.Ns mainGlobals mg) (a : PySem.W.nsIn K mainGlobals x = some (some u)) (r : RelV v u) : GlV mg x v := ⟨u, PySem.W.mg_of X G a, r⟩
theorem me_mk (a : PySem.W.findIn K (.ref C) x = some (some (.ref f))) (i : PySem.W.isFn K (.ref f) = true) (l : K.lookup f = some ⟨oc, od, .func (PySem.W.fnOf x qual (defArgs st) (defBody st) (defScope st) .none kV dc pm an cd ct), sl⟩)
    (c : PySem.W.codeIn K cd qual = true) (k : PySem.W.keepIn K (.ref f) = true) : MethAt K C x qual st := ⟨f, _, fun_mk l c k, ⟨a, i, k⟩⟩
theorem mk_mk (a : PySem.W.findIn K (.ref C) "__init__" = some (some (.ref f))) (i : PySem.W.isFn K (.ref f) = true) (l : K.lookup f = some ⟨oc, od, .func (PySem.W.fnOf "__init__" qual (defArgs st) (defBody st) (defScope st) .none kV dc pm an cd ct), sl⟩)
    (c : PySem.W.codeIn K cd qual = true) (k : PySem.W.keepIn K (.ref f) = true) (m : PySem.W.makesIn K C = true) (kc : PySem.W.keepIn K (.ref C) = true) : MkAt K C qual st := ⟨f, _, fun_mk l c k, ⟨m, a, i, kc⟩⟩
theorem law_mk {l : PySem.W.OpenLaw} {w : World} {fa CW CD : Addr} (X : K.In h) (G : h.Ns mainGlobals mg) (hfa : mg "law" = some (.ref fa))
    (aW : PySem.W.nsIn K mainGlobals "Web" = some (some (.ref CW))) (aD : PySem.W.nsIn K mainGlobals "Desk" = some (some (.ref CD))) (T : mg "Web" = some (.ref CW) → mg "Desk" = some (.ref CD) → Txt K mg CW CD) :
    ∃ fd : FuncData, (∀ (s : Shared) (v : Value), BindsTo s fd ⟨[v], []⟩ [("script", v)]) ∧ ∀ base : Heap, K.In base → base.Ns mainGlobals mg → FnOk l.prog w K mg base CX0 9 fa fd ["script"] (spLaw K) := by
  have T := T (PySem.W.mg_of X G aW) (PySem.W.mg_of X G aD)
  obtain ⟨f, fd, F, hm⟩ := T.d_law
  rw [hfa] at hm
  cases hm
  obtain ⟨oc, od, kV, doc, pm, an, cdv, ct, osl, e, _⟩ := F.ex
  refine ⟨fd, fun s v => ?_, fun base _ _ => fn_law T F⟩
  rw [e]
  exact .of_eq rfl
theorem walk {l : PySem.W.OpenLaw} {q : Program} {loose : List Str} {XP : (Str → Option Value) → Heap → Prop} {YP : World → Heap → Prop} {d : DefRec} {K : Params → PySem.W.Frag} (hn : l.most = some 63) (hdf : d.params.defaults = [])
    (hY : ∀ (w : World) (h : Heap), YP w h → (K w.params).In h)
    (F : ∀ (w : World) (mg : Str → Option Value) (fa : Addr) (h : Heap), (K w.params).In h → h.Ns mainGlobals mg → mg d.name = some (.ref fa) →
      ∃ fd : FuncData, (∀ (s : Shared) (u : Value), BindsTo s fd ⟨[u], []⟩ [("script", u)]) ∧ ∀ base : Heap, (K w.params).In base → base.Ns mainGlobals mg → FnOk l.prog w (K w.params) mg base CX0 9 fa fd ["script"] (spLaw (K w.params))) :
    PySem.W.WalkO q loose XP YP l.row.toRowW d [] (fun f vs => PySem.call f vs) :=
  L2.walk_of (n := 63) (k := 9) (x := "script") (CX := fun _ => CX0) (sp := fun w => spLaw (K w.params)) hn (by decide) hdf ⟨rfl, by decide, by decide⟩ hY F (fun _ _ a ns hl _ hS => ⟨a, ns, rfl, hS, Nat.le_trans hl (by decide), fun _ => rfl⟩) fun _ _ _ _ _ z => z
end
end Tw
open PySem PySem.W PyProof.Rows
set_option maxRecDepth 100000 in
set_option maxHeartbeats 0 in
theorem PySem.Challenge.cw_onceround_k83_whole_three_roads_holds : PySem.Challenge.rw_onceround_k83_whole_three_roads.Holds := by
  w_on; o_law; k_head; (case hw => w_witness2)
  k_fill
  refine Tw.walk (l := PySem.Challenge.rw_onceround_k83_whole_three_roads) rfl rfl (fun w h Y => PySem.W.kIn_of Y) ?F
  case F =>
    intro w mg fa h KX G hmg
    refine' Tw.law_mk KX G hmg ?aW ?aD ?T
    (case aW => k_is); (case aD => k_is)
    case T =>
      intro gW gD
      constructor
      (case n_len => refine' PySem.W.mg_none_of KX G ?z; (case z => k_is))
      (case n_sorted => refine' PySem.W.mg_none_of KX G ?z; (case z => k_is))
      (case n_range => refine' PySem.W.mg_none_of KX G ?z; (case z => k_is))
      (case n_set => refine' PySem.W.mg_none_of KX G ?z; (case z => k_is))
      (case n_tuple => refine' PySem.W.mg_none_of KX G ?z; (case z => k_is))
      (case n_list => refine' PySem.W.mg_none_of KX G ?z; (case z => k_is))
      (case n_int => refine' PySem.W.mg_none_of KX G ?z; (case z => k_is))
      (case n_all => refine' PySem.W.mg_none_of KX G ?z; (case z => k_is))
      (case n_sum => refine' PySem.W.mg_none_of KX G ?z; (case z => k_is))
      (case n_zip => refine' PySem.W.mg_none_of KX G ?z; (case z => k_is))
      (case n_isinstance => refine' PySem.W.mg_none_of KX G ?z; (case z => k_is))
      (case cSIGNS => refine' Tw.gl_mk KX G ?a ?r; (case a => k_is); (case r => exact ⟨_, rfl⟩))
      (case cMOST_WORDS => refine' Tw.gl_mk KX G ?a ?r; (case a => k_is); (case r => exact ⟨_, rfl⟩))
      (case cMOST_LETTERS => refine' Tw.gl_mk KX G ?a ?r; (case a => k_is); (case r => exact ⟨_, rfl⟩))
      (case d_begin_of => refine' Tw.def_mk KX G ?a ?l ?c ?k; (case a => k_is); (case l => k_is); (case c => k_is); (case k => k_is))
      (case d_end_of => refine' Tw.def_mk KX G ?a ?l ?c ?k; (case a => k_is); (case l => k_is); (case c => k_is); (case k => k_is))
      (case d_is_sound => refine' Tw.def_mk KX G ?a ?l ?c ?k; (case a => k_is); (case l => k_is); (case c => k_is); (case k => k_is))
      (case d_pieces => refine' Tw.def_mk KX G ?a ?l ?c ?k; (case a => k_is); (case l => k_is); (case c => k_is); (case k => k_is))
      (case d_outs => refine' Tw.def_mk KX G ?a ?l ?c ?k; (case a => k_is); (case l => k_is); (case c => k_is); (case k => k_is))
      (case d_ins => refine' Tw.def_mk KX G ?a ?l ?c ?k; (case a => k_is); (case l => k_is); (case c => k_is); (case k => k_is))
      (case d_excess => refine' Tw.def_mk KX G ?a ?l ?c ?k; (case a => k_is); (case l => k_is); (case c => k_is); (case k => k_is))
      (case d_hanging => refine' Tw.def_mk KX G ?a ?l ?c ?k; (case a => k_is); (case l => k_is); (case c => k_is); (case k => k_is))
      (case d_apart_paper => refine' Tw.def_mk KX G ?a ?l ?c ?k; (case a => k_is); (case l => k_is); (case c => k_is); (case k => k_is))
      (case d_why_no_ring => refine' Tw.def_mk KX G ?a ?l ?c ?k; (case a => k_is); (case l => k_is); (case c => k_is); (case k => k_is))
      (case d_windows => refine' Tw.def_mk KX G ?a ?l ?c ?k; (case a => k_is); (case l => k_is); (case c => k_is); (case k => k_is))
      (case d_has_all => refine' Tw.def_mk KX G ?a ?l ?c ?k; (case a => k_is); (case l => k_is); (case c => k_is); (case k => k_is))
      (case d_is_ring => refine' Tw.def_mk KX G ?a ?l ?c ?k; (case a => k_is); (case l => k_is); (case c => k_is); (case k => k_is))
      (case d_swapped_in => refine' Tw.def_mk KX G ?a ?l ?c ?k; (case a => k_is); (case l => k_is); (case c => k_is); (case k => k_is))
      (case d_determinant => refine' Tw.def_mk KX G ?a ?l ?c ?k; (case a => k_is); (case l => k_is); (case c => k_is); (case k => k_is))
      (case d_ways_toward => refine' Tw.def_mk KX G ?a ?l ?c ?k; (case a => k_is); (case l => k_is); (case c => k_is); (case k => k_is))
      (case d_choices_counted => refine' Tw.def_mk KX G ?a ?l ?c ?k; (case a => k_is); (case l => k_is); (case c => k_is); (case k => k_is))
      (case d_tree_count => refine' Tw.def_mk KX G ?a ?l ?c ?k; (case a => k_is); (case l => k_is); (case c => k_is); (case k => k_is))
      (case d_is_tree => refine' Tw.def_mk KX G ?a ?l ?c ?k; (case a => k_is); (case l => k_is); (case c => k_is); (case k => k_is))
      (case d_comes_to => refine' Tw.def_mk KX G ?a ?l ?c ?k; (case a => k_is); (case l => k_is); (case c => k_is); (case k => k_is))
      (case d_product_to => refine' Tw.def_mk KX G ?a ?l ?c ?k; (case a => k_is); (case l => k_is); (case c => k_is); (case k => k_is))
      (case d_by_begins => refine' Tw.def_mk KX G ?a ?l ?c ?k; (case a => k_is); (case l => k_is); (case c => k_is); (case k => k_is))
      (case d_is_even => refine' Tw.def_mk KX G ?a ?l ?c ?k; (case a => k_is); (case l => k_is); (case c => k_is); (case k => k_is))
      (case d_ways_on => refine' Tw.def_mk KX G ?a ?l ?c ?k; (case a => k_is); (case l => k_is); (case c => k_is); (case k => k_is))
      (case d_ring_count => refine' Tw.def_mk KX G ?a ?l ?c ?k; (case a => k_is); (case l => k_is); (case c => k_is); (case k => k_is))
      (case d_without => refine' Tw.def_mk KX G ?a ?l ?c ?k; (case a => k_is); (case l => k_is); (case c => k_is); (case k => k_is))
      (case d_order_by => refine' Tw.def_mk KX G ?a ?l ?c ?k; (case a => k_is); (case l => k_is); (case c => k_is); (case k => k_is))
      (case d_order_number => refine' Tw.def_mk KX G ?a ?l ?c ?k; (case a => k_is); (case l => k_is); (case c => k_is); (case k => k_is))
      (case d_ring_by => refine' Tw.def_mk KX G ?a ?l ?c ?k; (case a => k_is); (case l => k_is); (case c => k_is); (case k => k_is))
      (case d_ring_number => refine' Tw.def_mk KX G ?a ?l ?c ?k; (case a => k_is); (case l => k_is); (case c => k_is); (case k => k_is))
      (case d_ask_ring => refine' Tw.def_mk KX G ?a ?l ?c ?k; (case a => k_is); (case l => k_is); (case c => k_is); (case k => k_is))
      (case d_pieces_along => refine' Tw.def_mk KX G ?a ?l ?c ?k; (case a => k_is); (case l => k_is); (case c => k_is); (case k => k_is))
      (case d_done => refine' Tw.def_mk KX G ?a ?l ?c ?k; (case a => k_is); (case l => k_is); (case c => k_is); (case k => k_is))
      (case d_next_deed => refine' Tw.def_mk KX G ?a ?l ?c ?k; (case a => k_is); (case l => k_is); (case c => k_is); (case k => k_is))
      (case d_led => refine' Tw.def_mk KX G ?a ?l ?c ?k; (case a => k_is); (case l => k_is); (case c => k_is); (case k => k_is))
      (case d_parts_of => refine' Tw.def_mk KX G ?a ?l ?c ?k; (case a => k_is); (case l => k_is); (case c => k_is); (case k => k_is))
      (case d_ways_of => refine' Tw.def_mk KX G ?a ?l ?c ?k; (case a => k_is); (case l => k_is); (case c => k_is); (case k => k_is))
      (case d_ring_of => refine' Tw.def_mk KX G ?a ?l ?c ?k; (case a => k_is); (case l => k_is); (case c => k_is); (case k => k_is))
      (case d__law_power => refine' Tw.def_mk KX G ?a ?l ?c ?k; (case a => k_is); (case l => k_is); (case c => k_is); (case k => k_is))
      (case d__law_stir => refine' Tw.def_mk KX G ?a ?l ?c ?k; (case a => k_is); (case l => k_is); (case c => k_is); (case k => k_is))
      (case d__law_folded => refine' Tw.def_mk KX G ?a ?l ?c ?k; (case a => k_is); (case l => k_is); (case c => k_is); (case k => k_is))
      (case d__law_words => refine' Tw.def_mk KX G ?a ?l ?c ?k; (case a => k_is); (case l => k_is); (case c => k_is); (case k => k_is))
      (case d__law_behind => refine' Tw.def_mk KX G ?a ?l ?c ?k; (case a => k_is); (case l => k_is); (case c => k_is); (case k => k_is))
      (case d__law_by_digits => refine' Tw.def_mk KX G ?a ?l ?c ?k; (case a => k_is); (case l => k_is); (case c => k_is); (case k => k_is))
      (case d__law_even_words => refine' Tw.def_mk KX G ?a ?l ?c ?k; (case a => k_is); (case l => k_is); (case c => k_is); (case k => k_is))
      (case d__law_size => refine' Tw.def_mk KX G ?a ?l ?c ?k; (case a => k_is); (case l => k_is); (case c => k_is); (case k => k_is))
      (case d__law_written => refine' Tw.def_mk KX G ?a ?l ?c ?k; (case a => k_is); (case l => k_is); (case c => k_is); (case k => k_is))
      (case d__law_done => refine' Tw.def_mk KX G ?a ?l ?c ?k; (case a => k_is); (case l => k_is); (case c => k_is); (case k => k_is))
      (case d__law_led => refine' Tw.def_mk KX G ?a ?l ?c ?k; (case a => k_is); (case l => k_is); (case c => k_is); (case k => k_is))
      (case d__law_count => refine' Tw.def_mk KX G ?a ?l ?c ?k; (case a => k_is); (case l => k_is); (case c => k_is); (case k => k_is))
      (case d_law => refine' Tw.def_mk KX G ?a ?l ?c ?k; (case a => k_is); (case l => k_is); (case c => k_is); (case k => k_is))
      (case cWeb => refine' L2.Cls.mk ?a ?b ?c ?d; (case a => k_is); (case b => k_is); (case c => k_is); (case d => k_is))
      (case gWeb => exact gW)
      (case mWeb => refine' Tw.mk_mk ?a ?i ?l ?c ?k ?m ?kc; (case a => k_is); (case i => k_is); (case l => k_is); (case c => k_is); (case k => k_is); (case m => k_is); (case kc => k_is))
      (case aWeb_words => show PySem.W.findIn _ _ _ = _; k_is)
      (case aWeb_length => show PySem.W.findIn _ _ _ = _; k_is)
      (case cDesk => refine' L2.Cls.mk ?a ?b ?c ?d; (case a => k_is); (case b => k_is); (case c => k_is); (case d => k_is))
      (case gDesk => exact gD)
      (case mDesk => refine' Tw.mk_mk ?a ?i ?l ?c ?k ?m ?kc; (case a => k_is); (case i => k_is); (case l => k_is); (case c => k_is); (case k => k_is); (case m => k_is); (case kc => k_is))
      (case aDesk_home => show PySem.W.findIn _ _ _ = _; k_is)
      (case aDesk_many => show PySem.W.findIn _ _ _ = _; k_is)
      (case aDesk_length => show PySem.W.findIn _ _ _ = _; k_is)
      (case aDesk_text => show PySem.W.findIn _ _ _ = _; k_is)
      (case aDesk_left => show PySem.W.findIn _ _ _ = _; k_is)
      (case aDesk_passed => show PySem.W.findIn _ _ _ = _; k_is)
      (case mDesk_done => refine' Tw.me_mk ?a ?i ?l ?c ?k; (case a => k_is); (case i => k_is); (case l => k_is); (case c => k_is); (case k => k_is))
      (case mDesk_ways_by => refine' Tw.me_mk ?a ?i ?l ?c ?k; (case a => k_is); (case i => k_is); (case l => k_is); (case c => k_is); (case k => k_is))
      (case mDesk_steps => refine' Tw.me_mk ?a ?i ?l ?c ?k; (case a => k_is); (case i => k_is); (case l => k_is); (case c => k_is); (case k => k_is))
      (case mDesk_ahead => refine' Tw.me_mk ?a ?i ?l ?c ?k; (case a => k_is); (case i => k_is); (case l => k_is); (case c => k_is); (case k => k_is))
      (case mDesk_write => refine' Tw.me_mk ?a ?i ?l ?c ?k; (case a => k_is); (case i => k_is); (case l => k_is); (case c => k_is); (case k => k_is))
