import PyProof.Rows.All
import Wide.All
import OpenK.AllK
import Wide.FinOn
import HandS.ForList
import HandS.Evl
import HandS.IsInst
import HandS.WideBits
import PyProof.InstNe
import PySem.Challenge.RW_orderforms_k27_whole_moebius_functions
import HandS.OwnEq
set_option linter.unusedVariables false
set_option Elab.async false
set_option linter.all false
set_option maxRecDepth 100000
set_option maxHeartbeats 4000000
/-! Finite sums, strict orders on 0 .. n - 1, powers of the strict relation, the Moebius function: plain Lean. -/
namespace K27
/-! ### sums -/
def S (n : Nat) (f : Nat → Int) : Int := ((List.range n).map f).sum
theorem S_zero (f : Nat → Int) : S 0 f = 0 := rfl
theorem S_succ (n : Nat) (f : Nat → Int) : S (n + 1) f = S n f + f n := by
  unfold S
  rw [List.range_succ, List.map_append, List.sum_append]
  simp
theorem S_congr {n : Nat} {f g : Nat → Int} (h : ∀ i, i < n → f i = g i) : S n f = S n g := by
  induction n with
  | zero => rfl
  | succ n ih => rw [S_succ, S_succ, ih (fun i hi => h i (by omega)), h n (by omega)]
theorem S_nil (n : Nat) : S n (fun _ => 0) = 0 := by
  induction n with
  | zero => rfl
  | succ n ih => rw [S_succ, ih]; rfl
theorem S_zeros {n : Nat} {f : Nat → Int} (h : ∀ i, i < n → f i = 0) : S n f = 0 := (S_congr h).trans (S_nil n)
theorem S_add (n : Nat) (f g : Nat → Int) : S n (fun i => f i + g i) = S n f + S n g := by
  induction n with
  | zero => rfl
  | succ n ih => rw [S_succ, S_succ, S_succ, ih]; omega
theorem S_mul (n : Nat) (c : Int) (f : Nat → Int) : S n (fun i => c * f i) = c * S n f := by
  induction n with
  | zero => rw [S_zero, S_zero, Int.mul_zero]
  | succ n ih => rw [S_succ, S_succ, ih, Int.mul_add]
theorem S_mulr (n : Nat) (c : Int) (f : Nat → Int) : S n (fun i => f i * c) = S n f * c := by
  induction n with
  | zero => rw [S_zero, S_zero, Int.zero_mul]
  | succ n ih => rw [S_succ, S_succ, ih, Int.add_mul]
theorem S_swap (n m : Nat) (f : Nat → Nat → Int) : S n (fun i => S m (fun j => f i j)) = S m (fun j => S n (fun i => f i j)) := by
  induction n with
  | zero => rw [S_zero]; exact (S_nil m).symm
  | succ n ih =>
    rw [S_succ, ih, ← S_add]
    exact S_congr fun j _ => (S_succ n (fun i => f i j)).symm
theorem S_one {n : Nat} {f : Nat → Int} {k : Nat} (hk : k < n) (h : ∀ i, i < n → i ≠ k → f i = 0) : S n f = f k := by
  induction n with
  | zero => omega
  | succ n ih =>
    rw [S_succ]
    by_cases e : k = n
    · subst e
      rw [S_zeros fun i hi => h i (by omega) (by omega)]
      omega
    · rw [ih (by omega) (fun i hi => h i (by omega)), h n (by omega) (by omega)]
      omega
/-- a filtered list's sum -/
theorem S_filter (p : Nat → Bool) (f : Nat → Int) : ∀ l : List Nat, ((l.filter p).map f).sum = (l.map fun i => if p i = true then f i else 0).sum
  | [] => rfl
  | x :: r => by
    rw [List.filter_cons, List.map_cons, List.sum_cons, ← S_filter p f r]
    by_cases h : p x = true
    · rw [if_pos h, if_pos h, List.map_cons, List.sum_cons]
    · rw [if_neg h, if_neg h]; omega
theorem S_filt (n : Nat) (p : Nat → Bool) (f : Nat → Int) : (((List.range n).filter p).map f).sum = S n fun i => if p i = true then f i else 0 := S_filter p f _
theorem S_abs {n : Nat} {f : Nat → Int} {b : Int} (h : ∀ i, i < n → -b ≤ f i ∧ f i ≤ b) : -(n * b) ≤ S n f ∧ S n f ≤ n * b := by
  induction n with
  | zero => rw [S_zero]; simp
  | succ n ih =>
    have q := ih fun i hi => h i (by omega)
    have z := h n (by omega)
    rw [S_succ]
    have e : ((n + 1 : Nat) : Int) * b = n * b + b := by
      rw [Int.natCast_add, Int.add_mul]
      simp
    rw [e]
    omega
/-! ### strict orders -/
structure PO (n : Nat) (L : Nat → Nat → Bool) : Prop where
  bd : ∀ x y, L x y = true → x < n ∧ y < n
  irr : ∀ x, L x x = false
  tr : ∀ x y z, L x y = true → L y z = true → L x z = true
/-- how many below n have p -/
def cnt (p : Nat → Bool) : Nat → Nat
  | 0 => 0
  | n + 1 => cnt p n + if p n = true then 1 else 0
theorem cnt_le (p : Nat → Bool) : ∀ n, cnt p n ≤ n
  | 0 => Nat.le_refl _
  | n + 1 => by
    have := cnt_le p n
    unfold cnt
    split <;> omega
theorem cnt_mono {p q : Nat → Bool} : ∀ {n}, (∀ i, i < n → p i = true → q i = true) → cnt p n ≤ cnt q n
  | 0, _ => Nat.le_refl _
  | n + 1, h => by
    have i := cnt_mono (n := n) fun i hi => h i (by omega)
    have z := h n (by omega)
    unfold cnt
    by_cases hp : p n = true
    · rw [if_pos hp, if_pos (z hp)]; omega
    · rw [if_neg hp]; omega
theorem cnt_lt {p q : Nat → Bool} {k : Nat} : ∀ {n}, k < n → (∀ i, i < n → p i = true → q i = true) → q k = true → p k = false → cnt p n < cnt q n
  | 0, hk, _, _, _ => by omega
  | n + 1, hk, h, hq, hp => by
    by_cases e : k = n
    · subst e
      have i := cnt_mono (n := k) fun i hi => h i (by omega)
      unfold cnt
      rw [if_pos hq, if_neg (by rw [hp]; exact Bool.false_ne_true)]
      omega
    · have i := cnt_lt (n := n) (by omega) (fun i hi => h i (by omega)) hq hp
      have z := h n (by omega)
      unfold cnt
      by_cases hp' : p n = true
      · rw [if_pos hp', if_pos (z hp')]; omega
      · rw [if_neg hp']; omega
section
variable {n : Nat} {L : Nat → Nat → Bool}
def up (n : Nat) (L : Nat → Nat → Bool) (x : Nat) : Nat := cnt (fun z => L x z) n
def dn (n : Nat) (L : Nat → Nat → Bool) (y : Nat) : Nat := cnt (fun z => L z y) n
theorem PO.up_lt (h : PO n L) {x z : Nat} (l : L x z = true) : up n L z < up n L x :=
  cnt_lt (k := z) (h.bd _ _ l).2 (fun i _ q => h.tr _ _ _ l q) l (h.irr z)
theorem PO.dn_lt (h : PO n L) {z y : Nat} (l : L z y = true) : dn n L z < dn n L y :=
  cnt_lt (k := z) (h.bd _ _ l).1 (fun i _ q => h.tr _ _ _ q l) l (h.irr z)
theorem up_le (x : Nat) : up n L x ≤ n := cnt_le _ _
/-! ### powers of the strict relation: the numbers of chains -/
def P (n : Nat) (L : Nat → Nat → Bool) : Nat → Nat → Nat → Int
  | 0, x, y => if x = y then 1 else 0
  | k + 1, x, y => S n fun z => if L x z = true then P n L k z y else 0
theorem P_supp (h : PO n L) : ∀ (k x y : Nat), ¬ L x y = true → P n L (k + 1) x y = 0
  | 0, x, y, hn => S_zeros fun z _ => by
    by_cases hl : L x z = true
    · rw [if_pos hl]
      show (if z = y then (1 : Int) else 0) = 0
      rw [if_neg]
      intro e
      rw [← e] at hn
      exact hn hl
    · rw [if_neg hl]
  | k + 1, x, y, hn => S_zeros fun z _ => by
    by_cases hl : L x z = true
    · rw [if_pos hl]
      exact P_supp h k z y fun q => hn (h.tr _ _ _ hl q)
    · rw [if_neg hl]
theorem P_last (h : PO n L) : ∀ (k x y : Nat), P n L (k + 1) x y = S n fun z => if L z y = true then P n L k x z else 0
  | 0, x, y => by
    by_cases hl : L x y = true
    · have b := h.bd _ _ hl
      have e1 : P n L (0 + 1) x y = if L x y = true then P n L 0 y y else 0 := S_one (k := y) b.2 fun i _ hi => by
        by_cases q : L x i = true
        · rw [if_pos q]
          exact if_neg hi
        · rw [if_neg q]
      have e2 : (S n fun z => if L z y = true then P n L 0 x z else 0) = if L x y = true then P n L 0 x x else 0 := S_one (k := x) b.1 fun i _ hi => by
        by_cases q : L i y = true
        · rw [if_pos q]
          exact if_neg fun e => hi e.symm
        · rw [if_neg q]
      rw [e1, e2, if_pos hl, if_pos hl]
      show (if y = y then (1 : Int) else 0) = if x = x then 1 else 0
      rw [if_pos rfl, if_pos rfl]
    · rw [P_supp h 0 x y hl]
      refine (S_zeros fun z _ => ?_).symm
      by_cases q : L z y = true
      · rw [if_pos q]
        refine if_neg fun e => ?_
        rw [e] at hl
        exact hl q
      · rw [if_neg q]
  | k + 1, x, y => by
    have e1 : P n L (k + 1 + 1) x y = S n fun z => S n fun w => if L x z = true then (if L w y = true then P n L k z w else 0) else 0 := S_congr fun z _ => by
      by_cases q : L x z = true
      · rw [if_pos q, P_last h k z y]
        exact S_congr fun w _ => (if_pos q).symm
      · rw [if_neg q]
        exact (S_zeros fun w _ => if_neg q).symm
    rw [e1, S_swap]
    refine S_congr fun w _ => ?_
    by_cases q : L w y = true
    · rw [if_pos q]
      refine S_congr fun z _ => ?_
      by_cases q2 : L x z = true
      · rw [if_pos q2, if_pos q2, if_pos q]
      · rw [if_neg q2, if_neg q2]
    · rw [if_neg q]
      refine S_zeros fun z _ => ?_
      by_cases q2 : L x z = true
      · rw [if_pos q2, if_neg q]
      · rw [if_neg q2]
theorem P_nil (h : PO n L) : ∀ (k x y : Nat), up n L x < k → P n L k x y = 0
  | 0, _, _, hk => by omega
  | k + 1, x, y, hk => S_zeros fun z _ => by
    by_cases q : L x z = true
    · rw [if_pos q]
      have := h.up_lt q
      exact P_nil h k z y (by omega)
    · rw [if_neg q]
theorem P_end (h : PO n L) (x y : Nat) : P n L (n + 1) x y = 0 := P_nil h _ x y (by have := up_le (n := n) (L := L) x; omega)
/-! ### the Moebius function -/
def sg (j : Nat) : Int := 1 - 2 * ((j : Int) % 2)
theorem sg_succ (j : Nat) : sg (j + 1) = - sg j := by
  unfold sg
  have : ((j + 1 : Nat) : Int) = (j : Int) + 1 := by omega
  rw [this]
  omega
def mu (n : Nat) (L : Nat → Nat → Bool) (x y : Nat) : Int := S (n + 1) fun j => sg j * P n L j x y
/-- zeta -/
def Z (L : Nat → Nat → Bool) (x y : Nat) : Int := if x = y ∨ L x y = true then 1 else 0
theorem tele (a : Nat → Int) : ∀ m, S m (fun j => sg j * a j) + S m (fun j => sg j * a (j + 1)) = a 0 - sg m * a m
  | 0 => by
    rw [S_zero, S_zero]
    show (0 : Int) + 0 = a 0 - (1 - 2 * (((0 : Nat) : Int) % 2)) * a 0
    simp
  | m + 1 => by
    have ih := tele a m
    rw [S_succ, S_succ, sg_succ, Int.neg_mul]
    omega
theorem Z_split (h : PO n L) (x y : Nat) : Z L x y = (if x = y then 1 else 0) + (if L x y = true then 1 else 0) := by
  unfold Z
  by_cases e : x = y
  · subst e
    rw [if_pos (.inl rfl), if_pos rfl, h.irr, if_neg Bool.false_ne_true]
    rfl
  · by_cases q : L x y = true
    · rw [if_pos (.inr q), if_neg e, if_pos q]; rfl
    · rw [if_neg (by simp [e, q]), if_neg e, if_neg q]; rfl
theorem mul_ite1 (a : Int) (c : Prop) [Decidable c] : a * (if c then 1 else 0) = if c then a else 0 := by
  by_cases h : c
  · rw [if_pos h, if_pos h, Int.mul_one]
  · rw [if_neg h, if_neg h, Int.mul_zero]
theorem ite1_mul (a : Int) (c : Prop) [Decidable c] : (if c then 1 else 0) * a = if c then a else 0 := by
  by_cases h : c
  · rw [if_pos h, if_pos h, Int.one_mul]
  · rw [if_neg h, if_neg h, Int.zero_mul]
theorem mu_Z (h : PO n L) {x y : Nat} (hy : y < n) : (S n fun z => mu n L x z * Z L z y) = if x = y then 1 else 0 := by
  have e1 : (S n fun z => mu n L x z * Z L z y) = mu n L x y + S n fun z => if L z y = true then mu n L x z else 0 := by
    have e : (S n fun z => mu n L x z * Z L z y) = S n fun z => (if z = y then mu n L x z else 0) + (if L z y = true then mu n L x z else 0) := S_congr fun z _ => by
      rw [Z_split h, Int.mul_add, mul_ite1, mul_ite1]
    have f : (S n fun z => if z = y then mu n L x z else 0) = if y = y then mu n L x y else 0 := S_one (k := y) (f := fun z => if z = y then mu n L x z else 0) hy fun i _ hi => if_neg hi
    rw [e, S_add, f, if_pos rfl]
  have e2 : (S n fun z => if L z y = true then mu n L x z else 0) = S (n + 1) fun j => sg j * P n L (j + 1) x y := by
    have e : (S n fun z => if L z y = true then mu n L x z else 0) = S n fun z => S (n + 1) fun j => sg j * (if L z y = true then P n L j x z else 0) := S_congr fun z _ => by
      by_cases q : L z y = true
      · rw [if_pos q]
        exact S_congr fun j _ => by rw [if_pos q]
      · rw [if_neg q]
        exact (S_zeros fun j _ => by rw [if_neg q, Int.mul_zero]).symm
    rw [e, S_swap]
    refine S_congr fun j _ => ?_
    rw [S_mul, P_last h]
  have t := tele (fun j => P n L j x y) (n + 1)
  have pe := P_end h x y
  have s0 : sg (n + 1) * P n L (n + 1) x y = 0 := by rw [pe, Int.mul_zero]
  have p0 : P n L 0 x y = if x = y then 1 else 0 := rfl
  have em : mu n L x y = S (n + 1) fun j => sg j * P n L j x y := rfl
  rw [e1, e2, em, ← p0]
  have t := t
  omega
theorem Z_mu (h : PO n L) {x y : Nat} (hx : x < n) : (S n fun z => Z L x z * mu n L z y) = if x = y then 1 else 0 := by
  have e1 : (S n fun z => Z L x z * mu n L z y) = mu n L x y + S n fun z => if L x z = true then mu n L z y else 0 := by
    have e : (S n fun z => Z L x z * mu n L z y) = S n fun z => (if x = z then mu n L z y else 0) + (if L x z = true then mu n L z y else 0) := S_congr fun z _ => by
      rw [Z_split h, Int.add_mul, ite1_mul, ite1_mul]
    have f : (S n fun z => if x = z then mu n L z y else 0) = if x = x then mu n L x y else 0 := S_one (k := x) (f := fun z => if x = z then mu n L z y else 0) hx fun i _ hi => if_neg fun q => hi q.symm
    rw [e, S_add, f, if_pos rfl]
  have e2 : (S n fun z => if L x z = true then mu n L z y else 0) = S (n + 1) fun j => sg j * P n L (j + 1) x y := by
    have e : (S n fun z => if L x z = true then mu n L z y else 0) = S n fun z => S (n + 1) fun j => sg j * (if L x z = true then P n L j z y else 0) := S_congr fun z _ => by
      by_cases q : L x z = true
      · rw [if_pos q]
        exact S_congr fun j _ => by rw [if_pos q]
      · rw [if_neg q]
        exact (S_zeros fun j _ => by rw [if_neg q, Int.mul_zero]).symm
    rw [e, S_swap]
    refine S_congr fun j _ => ?_
    rw [S_mul]
    rfl
  have t := tele (fun j => P n L j x y) (n + 1)
  have pe := P_end h x y
  have s0 : sg (n + 1) * P n L (n + 1) x y = 0 := by rw [pe, Int.mul_zero]
  have p0 : P n L 0 x y = if x = y then 1 else 0 := rfl
  have em : mu n L x y = S (n + 1) fun j => sg j * P n L j x y := rfl
  rw [e1, e2, em, ← p0]
  have t := t
  omega
theorem mu_out (h : PO n L) {x y : Nat} (e : x ≠ y) (q : ¬ L x y = true) : mu n L x y = 0 := S_zeros fun j _ => by
  cases j with
  | zero =>
    show sg 0 * (if x = y then 1 else 0) = 0
    rw [if_neg e, Int.mul_zero]
  | succ j => rw [P_supp h j x y q, Int.mul_zero]
theorem mu_diag (h : PO n L) (x : Nat) : mu n L x x = 1 := by
  have e : mu n L x x = sg 0 * P n L 0 x x := S_one (f := fun j => sg j * P n L j x x) (k := 0) (by omega) fun i _ hi => by
    cases i with
    | zero => omega
    | succ j => rw [P_supp h j x x (by rw [h.irr]; exact Bool.false_ne_true), Int.mul_zero]
  rw [e]
  show (1 - 2 * (((0 : Nat) : Int) % 2)) * (if x = x then (1 : Int) else 0) = 1
  rw [if_pos rfl]
  rfl
/-- what the inverse's loop reckons at y: r holds mu x z for those z that it has met -/
theorem mu_step (h : PO n L) {x y : Nat} (hy : y < n) (hxy : x ≠ y) {r : Nat → Int} (hr : ∀ z, z < n → L z y = true → r z = mu n L x z) :
    (S n fun z => if z ≠ y then r z * Z L z y else 0) = - mu n L x y := by
  have e : (S n fun z => if z ≠ y then r z * Z L z y else 0) + mu n L x y = S n fun z => mu n L x z * Z L z y := by
    have f : mu n L x y = S n fun z => if z = y then mu n L x z else 0 := by
      rw [S_one (f := fun z => if z = y then mu n L x z else 0) (k := y) hy fun i _ hi => if_neg hi, if_pos rfl]
    rw [f, ← S_add]
    refine S_congr fun z hz => ?_
    by_cases q : z = y
    · rw [if_neg (by simp [q]), if_pos q, q]
      unfold Z
      rw [if_pos (.inl rfl)]
      omega
    · rw [if_pos q, if_neg q]
      unfold Z
      by_cases l : L z y = true
      · rw [if_pos (.inr l), hr z hz l]; omega
      · rw [if_neg (by simp [q, l]), Int.mul_zero, Int.mul_zero]; omega
  rw [mu_Z h hy, if_neg hxy] at e
  omega
/-- back by the Moebius function -/
theorem back (h : PO n L) (v : Nat → Int) {y : Nat} (hy : y < n) :
    (S n fun x => (S n fun w => if w = x ∨ L w x = true then v w else 0) * mu n L x y) = v y := by
  have e1 : (S n fun x => (S n fun w => if w = x ∨ L w x = true then v w else 0) * mu n L x y) = S n fun x => S n fun w => v w * (Z L w x * mu n L x y) := S_congr fun x _ => by
    rw [← S_mulr]
    refine S_congr fun w _ => ?_
    unfold Z
    rw [ite1_mul]
    by_cases q : w = x ∨ L w x = true
    · rw [if_pos q, if_pos q]
    · rw [if_neg q, if_neg q, Int.zero_mul, Int.mul_zero]
  rw [e1, S_swap]
  have e2 : (S n fun w => S n fun x => v w * (Z L w x * mu n L x y)) = S n fun w => if w = y then v w else 0 := S_congr fun w hw => by
    rw [S_mul, Z_mu h hw, mul_ite1]
  rw [e2, S_one (f := fun w => if w = y then v w else 0) (k := y) hy fun i _ hi => if_neg hi, if_pos rfl]
end
end K27
/-! The relation in masks, its closure, points in an order of their own, the drawn row, the chain counts: plain Lean over lists. -/
namespace K27
/-! ### masks -/
def rel (A : List Nat) (x y : Nat) : Bool := (A.getD x 0).testBit y
theorem rel_set {A : List Nat} {x m u v : Nat} (hx : x < A.length) : rel (A.set x m) u v = if u = x then m.testBit v else rel A u v := by
  unfold rel
  by_cases e : u = x
  · subst e
    rw [if_pos rfl, List.getD_eq_getElem?_getD, List.getElem?_set_self hx]
    rfl
  · rw [if_neg e, List.getD_eq_getElem?_getD, List.getElem?_set_ne (fun q => e q.symm), ← List.getD_eq_getElem?_getD]
theorem rel_lt {A : List Nat} {x y : Nat} (h : rel A x y = true) : x < A.length := by
  unfold rel at h
  rcases Nat.lt_or_ge x A.length with q | q
  · exact q
  · rw [List.getD_eq_getElem?_getD, List.getElem?_eq_none q] at h
    simp at h
theorem rel_nil {n x y : Nat} : rel (List.replicate n 0) x y = false := by
  unfold rel
  rw [List.getD_eq_getElem?_getD, List.getElem?_replicate]
  split <;> simp
/-- x stands before y in the row -/
def Bef (im : List Nat) (x y : Nat) : Prop := ∃ (j i : Nat), j < i ∧ im[j]? = some x ∧ im[i]? = some y
theorem nd_at {im : List Nat} (nd : im.Nodup) {i j x : Nat} (a : im[i]? = some x) (b : im[j]? = some x) : i = j := by
  obtain ⟨h1, e1⟩ := List.getElem?_eq_some_iff.mp a
  obtain ⟨h2, e2⟩ := List.getElem?_eq_some_iff.mp b
  exact (List.getElem_inj nd).mp (e1.trans e2.symm)
theorem Bef.tr {im : List Nat} (nd : im.Nodup) {x y z : Nat} (a : Bef im x y) (b : Bef im y z) : Bef im x z := by
  obtain ⟨j, i, h, e1, e2⟩ := a
  obtain ⟨j', i', h', e3, e4⟩ := b
  have := nd_at nd e2 e3
  exact ⟨j, i', by omega, e1, e4⟩
theorem Bef.irr {im : List Nat} (nd : im.Nodup) {x : Nat} (a : Bef im x x) : False := by
  obtain ⟨j, i, h, e1, e2⟩ := a
  have := nd_at nd e1 e2
  omega
/-- masks that only say what the row says -/
structure Cl (n : Nat) (im A : List Nat) : Prop where
  len : A.length = n
  bf : ∀ u v, rel A u v = true → Bef im u v
theorem Cl.new (n : Nat) (im : List Nat) : Cl n im (List.replicate n 0) := ⟨List.length_replicate, fun u v h => by rw [rel_nil] at h; cases h⟩
theorem or_bit (a b v : Nat) : (a ||| b).testBit v = (a.testBit v || b.testBit v) := Nat.testBit_or a b v
theorem Cl.add {n : Nat} {im A : List Nat} (c : Cl n im A) {x y : Nat} (hx : x < n) (b : Bef im x y) : Cl n im (A.set x (A.getD x 0 ||| 2 ^ y)) := by
  refine ⟨by rw [List.length_set]; exact c.len, fun u v h => ?_⟩
  rw [rel_set (by rw [c.len]; exact hx)] at h
  by_cases e : u = x
  · subst e
    rw [if_pos rfl, or_bit, Bool.or_eq_true] at h
    rcases h with h | h
    · exact c.bf u v h
    · rw [Nat.testBit_two_pow] at h
      have q : y = v := of_decide_eq_true h
      subst q
      exact b
  · rw [if_neg e] at h
    exact c.bf u v h
/-- behind i rows of the stage k -/
structure Half (n : Nat) (A0 : List Nat) (k i : Nat) (A : List Nat) : Prop where
  len : A.length = n
  row : ∀ u v, rel A u v = if u < i then (rel A0 u v || (rel A0 u k && rel A0 k v)) else rel A0 u v
theorem Half.start {n k : Nat} {A0 : List Nat} (h : A0.length = n) : Half n A0 k 0 A0 := ⟨h, fun u v => by rw [if_neg (Nat.not_lt_zero u)]⟩
/-- the stage's own row stays -/
theorem Half.own {n k i : Nat} {A0 A : List Nat} (h : Half n A0 k i A) (v : Nat) : rel A k v = rel A0 k v := by
  rw [h.row]
  split
  · cases rel A0 k v <;> cases rel A0 k k <;> rfl
  · rfl
theorem Half.turnT {n k i : Nat} {A0 A : List Nat} (h : Half n A0 k i A) (hi : i < n) (t : rel A i k = true) : Half n A0 k (i + 1) (A.set i (A.getD i 0 ||| A.getD k 0)) := by
  refine ⟨by rw [List.length_set]; exact h.len, fun u v => ?_⟩
  rw [rel_set (by rw [h.len]; exact hi)]
  by_cases e : u = i
  · subst e
    have r1 := h.row u v
    have r2 := h.row u k
    rw [if_neg (Nat.lt_irrefl u)] at r1 r2
    have r3 := h.own v
    rw [if_pos rfl, if_pos (Nat.lt_succ_self u), or_bit]
    show (rel A u v || rel A k v) = _
    rw [r1, r3, ← r2, t, Bool.true_and]
  · rw [if_neg e, h.row]
    by_cases q : u < i
    · rw [if_pos q, if_pos (Nat.lt_succ_of_lt q)]
    · rw [if_neg q, if_neg (by omega)]
theorem Half.turnF {n k i : Nat} {A0 A : List Nat} (h : Half n A0 k i A) (t : rel A i k = false) : Half n A0 k (i + 1) A := by
  refine ⟨h.len, fun u v => ?_⟩
  by_cases e : u = i
  · subst e
    have r2 := h.row u k
    rw [if_neg (Nat.lt_irrefl u)] at r2
    rw [h.row, if_neg (Nat.lt_irrefl u), if_pos (Nat.lt_succ_self u), ← r2, t, Bool.false_and, Bool.or_false]
  · rw [h.row]
    by_cases q : u < i
    · rw [if_pos q, if_pos (Nat.lt_succ_of_lt q)]
    · rw [if_neg q, if_neg (by omega)]
/-- closed through the points below k -/
structure Thru (n : Nat) (im A : List Nat) (k : Nat) : Prop where
  cl : Cl n im A
  th : ∀ v, v < k → ∀ u w, rel A u v = true → rel A v w = true → rel A u w = true
theorem Thru.start {n : Nat} {im A : List Nat} (c : Cl n im A) : Thru n im A 0 := ⟨c, fun v hv => absurd hv (Nat.not_lt_zero v)⟩
theorem Thru.next {n k : Nat} {im A0 A : List Nat} (nd : im.Nodup) (t : Thru n im A0 k) (h : Half n A0 k n A) : Thru n im A (k + 1) := by
  have row : ∀ u v, rel A u v = true → rel A0 u v = true ∨ (rel A0 u k = true ∧ rel A0 k v = true) := fun u v q => by
    rw [h.row] at q
    split at q
    · rw [Bool.or_eq_true, Bool.and_eq_true] at q
      exact q
    · exact .inl q
  have back : ∀ u v, (rel A0 u v = true ∨ (rel A0 u k = true ∧ rel A0 k v = true)) → rel A u v = true := fun u v q => by
    have hu : u < n := by
      rw [← t.cl.len]
      rcases q with q | q
      · exact rel_lt q
      · exact rel_lt q.1
    rw [h.row, if_pos hu, Bool.or_eq_true, Bool.and_eq_true]
    exact q
  refine ⟨⟨h.len, fun u v q => ?_⟩, fun v hv u w q1 q2 => back u w ?_⟩
  · rcases row u v q with q | ⟨q1, q2⟩
    · exact t.cl.bf u v q
    · exact (t.cl.bf _ _ q1).tr nd (t.cl.bf _ _ q2)
  · have a := row _ _ q1
    have b := row _ _ q2
    by_cases e : v = k
    · subst e
      rcases a with a | ⟨a1, a2⟩
      · rcases b with b | ⟨b1, b2⟩
        · exact .inr ⟨a, b⟩
        · exact .inr ⟨a, b2⟩
      · rcases b with b | ⟨b1, b2⟩
        · exact .inr ⟨a1, b⟩
        · exact .inr ⟨a1, b2⟩
    · have hk : v < k := by omega
      rcases a with a | ⟨a1, a2⟩
      · rcases b with b | ⟨b1, b2⟩
        · exact .inl (t.th v hk u w a b)
        · exact .inr ⟨t.th v hk u k a b1, b2⟩
      · rcases b with b | ⟨b1, b2⟩
        · exact .inr ⟨a1, t.th v hk k w a2 b⟩
        · exact .inr ⟨a1, b2⟩
theorem Thru.po {n : Nat} {im A : List Nat} (nd : im.Nodup) (lt : ∀ v ∈ im, v < n) (t : Thru n im A n) : PO n (rel A) := by
  have bd : ∀ x y, rel A x y = true → x < n ∧ y < n := fun x y h => by
    obtain ⟨j, i, _, e1, e2⟩ := t.cl.bf x y h
    exact ⟨lt _ (List.mem_of_getElem? e1), lt _ (List.mem_of_getElem? e2)⟩
  refine ⟨bd, fun x => ?_, fun x y z a b => t.th y (bd x y a).2 x z a b⟩
  cases q : rel A x x with
  | false => rfl
  | true => exact ((t.cl.bf x x q).irr nd).elim
theorem PO.mask {n : Nat} {A : List Nat} (h : PO n (rel A)) (x : Nat) : A.getD x 0 < 2 ^ n := by
  refine Nat.lt_pow_two_of_testBit _ fun i hi => ?_
  cases q : (A.getD x 0).testBit i with
  | false => rfl
  | true =>
    have := (h.bd x i q).2
    omega
/-! ### the points above x, each behind those below it -/
structure Upw (L : Nat → Nat → Bool) (x : Nat) (fd : List Nat) : Prop where
  hx : x ∈ fd
  mem : ∀ y, y ∈ fd → y = x ∨ L x y = true
  beh : ∀ i y, fd[i]? = some y → ∀ z, L z y = true → (z = x ∨ L x z = true) → z ∈ fd.take i
theorem Upw.start {n : Nat} {L : Nat → Nat → Bool} (h : PO n L) (x : Nat) : Upw L x [x] := by
  refine ⟨List.mem_singleton.mpr rfl, fun y hy => .inl (List.mem_singleton.mp hy), fun i y e z l q => ?_⟩
  have ey : y = x := List.mem_singleton.mp (List.mem_of_getElem? e)
  subst ey
  exfalso
  rcases q with q | q
  · rw [q, h.irr] at l
    cases l
  · have := h.tr _ _ _ l q
    rw [h.irr] at this
    cases this
theorem Upw.push {L : Nat → Nat → Bool} {x y : Nat} {fd : List Nat} (u : Upw L x fd) (l : L x y = true) (t : ∀ z, L z y = true → z ∈ fd ∨ ¬ L x z = true) : Upw L x (fd ++ [y]) := by
  refine ⟨List.mem_append_left _ u.hx, fun v hv => ?_, fun i v e z lz q => ?_⟩
  · rcases List.mem_append.mp hv with hv | hv
    · exact u.mem v hv
    · rw [List.mem_singleton.mp hv]
      exact .inr l
  · rcases Nat.lt_or_ge i fd.length with hi | hi
    · rw [List.getElem?_append_left hi] at e
      rw [List.take_append_of_le_length (Nat.le_of_lt hi)]
      exact u.beh i v e z lz q
    · rw [List.getElem?_append_right hi] at e
      have ev : v = y := List.mem_singleton.mp (List.mem_of_getElem? e)
      subst ev
      have hz : z ∈ fd := by
        rcases q with q | q
        · rw [q]; exact u.hx
        · rcases t z lz with t | t
          · exact t
          · exact absurd q t
      rw [List.take_append]
      exact List.mem_append_left _ (by rw [List.take_of_length_le hi]; exact hz)
/-- a point of the rest that has all that must stand ahead of it -/
def Ripe (L : Nat → Nat → Bool) (x : Nat) (fd : List Nat) (y : Nat) : Prop := ∀ z, L z y = true → z ∈ fd ∨ ¬ L x z = true
theorem least_of {f : Nat → Nat} : ∀ {l : List Nat}, l ≠ [] → ∃ y, y ∈ l ∧ ∀ z, z ∈ l → f y ≤ f z
  | [], h => absurd rfl h
  | [a], _ => ⟨a, List.mem_singleton.mpr rfl, fun z hz => by rw [List.mem_singleton.mp hz]; exact Nat.le_refl _⟩
  | a :: b :: r, _ => by
    obtain ⟨y, hy, hl⟩ := least_of (f := f) (l := b :: r) (by intro q; cases q)
    rcases Nat.le_total (f a) (f y) with q | q
    · refine ⟨a, List.mem_cons_self, fun z hz => ?_⟩
      rcases List.mem_cons.mp hz with hz | hz
      · rw [hz]; exact Nat.le_refl _
      · exact Nat.le_trans q (hl z hz)
    · refine ⟨y, List.mem_cons_of_mem _ hy, fun z hz => ?_⟩
      rcases List.mem_cons.mp hz with hz | hz
      · rw [hz]; exact q
      · exact hl z hz
theorem ripe_of {n : Nat} {L : Nat → Nat → Bool} (h : PO n L) {x : Nat} {fd R : List Nat} (hR : ∀ y, y ∈ R ↔ L x y = true ∧ y ∉ fd) (ne : R ≠ []) : ∃ y, y ∈ R ∧ Ripe L x fd y := by
  obtain ⟨y, hy, hl⟩ := least_of (f := dn n L) ne
  refine ⟨y, hy, fun z lz => ?_⟩
  by_cases hz : z ∈ fd
  · exact .inl hz
  · refine .inr fun lx => ?_
    have := hl z ((hR z).mpr ⟨lx, hz⟩)
    have := h.dn_lt lz
    omega
/-- behind i items of the rest -/
structure Pass (L : Nat → Nat → Bool) (x : Nat) (fd R : List Nat) (i : Nat) (fd' : List Nat) : Prop where
  up : Upw L x fd'
  sub : ∀ z, z ∈ fd → z ∈ fd'
  len : fd'.length ≤ fd.length + i
  got : ∀ j y, j < i → R[j]? = some y → Ripe L x fd y → y ∈ fd'
theorem Pass.start {L : Nat → Nat → Bool} {x : Nat} {fd R : List Nat} (u : Upw L x fd) : Pass L x fd R 0 fd := ⟨u, fun _ h => h, Nat.le_refl _, fun j y hj => absurd hj (Nat.not_lt_zero j)⟩
theorem Pass.turnT {L : Nat → Nat → Bool} {x y i : Nat} {fd R fd' : List Nat} (p : Pass L x fd R i fd') (l : L x y = true) (e : R[i]? = some y) (t : Ripe L x fd' y) : Pass L x fd R (i + 1) (fd' ++ [y]) := by
  refine ⟨p.up.push l t, fun z hz => List.mem_append_left _ (p.sub z hz), by rw [List.length_append]; have := p.len; simp; omega, fun j v hj e' r => ?_⟩
  by_cases q : j = i
  · subst q
    rw [e] at e'
    cases e'
    exact List.mem_append_right _ (List.mem_singleton.mpr rfl)
  · exact List.mem_append_left _ (p.got j v (by omega) e' r)
theorem Pass.turnF {L : Nat → Nat → Bool} {x y i : Nat} {fd R fd' : List Nat} (p : Pass L x fd R i fd') (e : R[i]? = some y) (t : ¬ Ripe L x fd' y) : Pass L x fd R (i + 1) fd' := by
  refine ⟨p.up, p.sub, by have := p.len; omega, fun j v hj e' r => ?_⟩
  by_cases q : j = i
  · subst q
    rw [e] at e'
    cases e'
    exact absurd (fun z lz => (r z lz).imp (p.sub z) id) t
  · exact p.got j v (by omega) e' r
/-- behind the rest: what is left, and fewer -/
theorem Pass.fin {n : Nat} {L : Nat → Nat → Bool} (h : PO n L) {x : Nat} {fd R fd' : List Nat} (hR : ∀ y, y ∈ R ↔ L x y = true ∧ y ∉ fd) (ne : R ≠ []) (p : Pass L x fd R R.length fd') :
    (∀ y, y ∈ R.filter (fun y => decide (y ∉ fd')) ↔ L x y = true ∧ y ∉ fd') ∧ (R.filter (fun y => decide (y ∉ fd'))).length < R.length := by
  refine ⟨fun y => ?_, ?_⟩
  · rw [List.mem_filter, hR, decide_eq_true_iff]
    exact ⟨fun q => ⟨q.1.1, q.2⟩, fun q => ⟨⟨q.1, fun z => q.2 (p.sub y z)⟩, q.2⟩⟩
  · obtain ⟨y, hy, r⟩ := ripe_of h hR ne
    obtain ⟨j, hj, e⟩ := List.mem_iff_getElem.mp hy
    have q : y ∈ fd' := p.got j y hj (by rw [List.getElem?_eq_getElem hj, e]) r
    refine List.length_filter_lt_length_iff_exists.mpr ⟨y, hy, ?_⟩
    simp [q]
/-! ### the drawn row -/
structure Row (n : Nat) (im rest : List Nat) : Prop where
  nd : (im ++ rest).Nodup
  lt : ∀ v, v ∈ im ++ rest → v < n
theorem Row.start (n : Nat) : Row n [] (List.range n) := ⟨List.nodup_range, fun v hv => List.mem_range.mp hv⟩
theorem perm_erase : ∀ {l : List Nat} {k r : Nat}, l[k]? = some r → List.Perm (r :: l.eraseIdx k) l
  | [], _, _, h => by simp at h
  | a :: l, 0, r, h => by
    have e : a = r := by simpa using h
    rw [e]
    exact List.Perm.refl _
  | a :: l, k + 1, r, h => by
    have h' : l[k]? = some r := by simpa using h
    exact (List.Perm.swap a r (l.eraseIdx k)).trans ((perm_erase h').cons a)
theorem Row.turn {n k r : Nat} {im rest : List Nat} (w : Row n im rest) (e : rest[k]? = some r) : Row n (im ++ [r]) (rest.eraseIdx k) := by
  obtain ⟨hk, er⟩ := List.getElem?_eq_some_iff.mp e
  have p : List.Perm ((im ++ [r]) ++ rest.eraseIdx k) (im ++ rest) := by
    rw [List.append_assoc]
    refine List.Perm.append_left im ?_
    exact perm_erase e
  exact ⟨p.nodup_iff.mpr w.nd, fun v hv => w.lt v (p.mem_iff.mp hv)⟩
theorem Row.im {n : Nat} {im rest : List Nat} (w : Row n im rest) : im.Nodup ∧ ∀ v, v ∈ im → v < n := ⟨(List.nodup_append.mp w.nd).1, fun v hv => w.lt v (List.mem_append_left _ hv)⟩
/-! ### the chain counts -/
section
variable {n : Nat} {L : Nat → Nat → Bool}
def cv (n : Nat) (L : Nat → Nat → Bool) (x y : Nat) : Nat → Int
  | 0 => 0
  | k + 1 => P n L k x y
theorem cv_same (h : PO n L) (x : Nat) : ∀ k, cv n L x x k = if k = 1 then 1 else 0
  | 0 => rfl
  | 1 => by
    show (if x = x then (1 : Int) else 0) = if 1 = 1 then 1 else 0
    rw [if_pos rfl, if_pos rfl]
  | k + 2 => by
    show P n L (k + 1) x x = _
    rw [P_supp h k x x (by rw [h.irr]; exact Bool.false_ne_true), if_neg (by omega)]
theorem cv_out (h : PO n L) {z y : Nat} (e : z ≠ y) (q : ¬ L z y = true) : ∀ k, cv n L z y k = 0
  | 0 => rfl
  | 1 => if_neg e
  | k + 2 => P_supp h k z y q
/-- one step of the law's walk: the points above x that lead to y -/
def go (L : Nat → Nat → Bool) (x y z : Nat) : Bool := L x z && (z == y || L z y)
theorem cv_step (h : PO n L) {x y : Nat} (e : x ≠ y) : ∀ k, (S n fun z => if go L x y z = true then cv n L z y k else 0) = cv n L x y (k + 1)
  | 0 => by
    show (S n fun z => if go L x y z = true then 0 else 0) = if x = y then 1 else 0
    rw [if_neg e]
    exact S_zeros fun z _ => by split <;> rfl
  | k + 1 => by
    show _ = S n fun z => if L x z = true then P n L k z y else 0
    refine S_congr fun z _ => ?_
    unfold go
    by_cases l : L x z = true
    · rw [if_pos l, l, Bool.true_and]
      by_cases q : (z == y || L z y) = true
      · rw [if_pos q]
        rfl
      · rw [if_neg q]
        rw [Bool.or_eq_true, not_or] at q
        have := cv_out h (z := z) (y := y) (by simpa using q.1) q.2 (k + 1)
        exact this.symm
    · rw [if_neg l]
      have : L x z = false := by simpa using l
      rw [this, Bool.false_and, if_neg Bool.false_ne_true]
/-- what the law adds up -/
theorem due_all (x y : Nat) : (S (n + 1) fun j => cv n L x y (j + 1) * sg j) = mu n L x y := S_congr fun j _ => Int.mul_comm _ _
end
end K27
/-! the text by places, calls by what they leave, the data -/
namespace K27
open PySem L2 Evl
/-! ### the text by places -/
def topS (i : Nat) : Stmt := PySem.Challenge.pw_orderforms_k27_whole_moebius_functions.main.body.getD i (.Pass ⟨0, 0, 0, 0⟩)
abbrev sIsInt : Stmt := topS 6
abbrev sMembers : Stmt := topS 7
abbrev sSetOf : Stmt := topS 8
abbrev sHas : Stmt := topS 9
abbrev sIsTable : Stmt := topS 11
abbrev cInc : Stmt := topS 12
abbrev sIInit : Stmt := inClass cInc 0
abbrev sIAdd : Stmt := inClass cInc 2
abbrev sINeg : Stmt := inClass cInc 3
abbrev sISub : Stmt := inClass cInc 4
abbrev sIMul : Stmt := inClass cInc 5
abbrev sIValue : Stmt := inClass cInc 6
abbrev sIPower : Stmt := inClass cInc 8
abbrev sIInverse : Stmt := inClass cInc 9
abbrev sISums : Stmt := inClass cInc 10
abbrev sCheckSame : Stmt := topS 13
abbrev sUpwards : Stmt := topS 14
abbrev sDelta : Stmt := topS 15
abbrev sZeta : Stmt := topS 16
abbrev sMoebius : Stmt := topS 17
abbrev sChainsB : Stmt := topS 18
abbrev sChecked : Stmt := topS 21
abbrev sClosed : Stmt := topS 22
abbrev cOrd : Stmt := topS 23
abbrev sOInit : Stmt := inClass cOrd 0
abbrev sOEq : Stmt := inClass cOrd 2
abbrev sOSize : Stmt := inClass cOrd 3
abbrev sOBelow : Stmt := inClass cOrd 4
abbrev sOLess : Stmt := inClass cOrd 5
abbrev sOAtMost : Stmt := inClass cOrd 6
abbrev sOPairs : Stmt := inClass cOrd 8
abbrev sLNumbers : Stmt := topS 25
abbrev sLNext : Stmt := topS 26
abbrev sLOrder : Stmt := topS 27
abbrev sLTable : Stmt := topS 28
abbrev sLChains : Stmt := topS 29
abbrev sLaw : Stmt := topS 30

/-! ### names -/
theorem gn (i : Nat) {X : Cx} {x : Str} {pos : Pos} (hN : X.N.Nodup) (hi : X.N[i]? = some x := by rfl) (hx : Loc X.env.scope x := by first | exact Or.inl rfl | exact Or.inr rfl)
    (hf : X.fn x = true ∨ X.env.scope.names.lookup x = some .local := by first | exact .inl rfl | exact .inr rfl) : PG X (.Name x pos) (gName i) := pg_name hN hi hx hf
/-- x = e -/
theorem st (i : Nat) {X : Cx} {x : Str} {e : Expr} {te : TE} {pos pos' : Pos} (hN : X.N.Nodup) (he : PE X e te) (hi : X.N[i]? = some x := by rfl) (hx : Loc X.env.scope x := by first | exact Or.inl rfl | exact Or.inr rfl)
    (hs : swapsWith e (some (.Name x pos')) pos.line X.env = pure false := by rfl) (hf : X.fn x = true ∨ X.env.scope.names.lookup x = some .local := by first | exact .inl rfl | exact .inr rfl) :
    PS X (.Assign [.Name x pos'] e pos) (tAsg te (gName i)) := ps_set hN hi hx he hs hf
theorem eqm {X : Cx} {a b : Expr} {ta tb : TE} {pos : Pos} (ha : PE X a ta) (hb : PE X b tb) : PE X (.Compare a [.Eq] [b] pos) (tOp rEq ta tb) := pe_cmpR op_eq ha hb (nomark _)

/-! ### calls by what they leave -/
/-- te comes to a value of which phi holds -/
def EvP (te : TE) (σ : L2.St) (H : Hp) (φ : V → Hp → Prop) : Prop := ∀ H1, Ex H H1 → ∀ Q : VK, (∀ v H2, Ex H1 H2 → φ v H2 → Q v H2) → te σ H1 Q
def EvQ (ta : TA) (σ : L2.St) (H : Hp) (Φ : List V → Hp → Prop) : Prop := ∀ H1, Ex H H1 → ∀ Q : List V → Hp → Prop, (∀ vs H2, Ex H1 H2 → Φ vs H2 → Q vs H2) → ta σ H1 Q
/-- it stays as the heap grows -/
def Mo (φ : V → Hp → Prop) : Prop := ∀ v H H', Ex H H' → φ v H → φ v H'
section
variable {σ : L2.St} {H H' : Hp} {ta tb te : TE} {tr : TA} {x v : V} {φ ψ : V → Hp → Prop} {Φ : List V → Hp → Prop} {D : Ends}
theorem Ev.p (h : Ev te σ H v) : EvP te σ H (fun x _ => x = v) := fun H1 e Q q => h H1 e Q fun H2 e2 => q v H2 e2 rfl
theorem EvP.ev (h : EvP te σ H fun x _ => x = v) : Ev te σ H v := fun H1 e Q q => h H1 e Q fun w H2 e2 hw => by
  subst hw
  exact q H2 e2
theorem EvP.mono (e : Ex H H') (h : EvP te σ H φ) : EvP te σ H' φ := fun H1 a Q q => h H1 (e.trans a) Q q
theorem EvQ.mono (e : Ex H H') (h : EvQ tr σ H Φ) : EvQ tr σ H' Φ := fun H1 a Q q => h H1 (e.trans a) Q q
theorem EvP.imp (h : EvP te σ H φ) (i : ∀ v H2, Ex H H2 → φ v H2 → ψ v H2) : EvP te σ H ψ := fun H1 e Q q => h H1 e Q fun v H2 e2 hv => q v H2 e2 (i v H2 (e.trans e2) hv)
theorem ep_bind {f : V → Hp → VK → Prop} (h : EvP ta σ H φ) (k : ∀ v H1, Ex H H1 → φ v H1 → ∀ Q : VK, (∀ w H2, Ex H1 H2 → ψ w H2 → Q w H2) → f v H1 Q) : EvP (fun σ H Q => ta σ H fun v H1 => f v H1 Q) σ H ψ :=
  fun H1 e Q q => h H1 e _ fun v H2 e2 hv => k v H2 (e.trans e2) hv Q fun w H3 e3 hw => q w H3 (e2.trans e3) hw
theorem ea_q {vs : List V} (h : EvA tr σ H vs) : EvQ tr σ H (fun ws _ => ws = vs) := fun H1 e Q q => h H1 e Q fun H2 e2 => q vs H2 e2 rfl
theorem eq_nil : EvQ tNil σ H (fun vs _ => vs = []) := fun H1 _ Q q => q [] H1 (Ex.refl H1) rfl
theorem eq_cons (m : Mo φ) (h : EvP te σ H φ) (hr : EvQ tr σ H Φ) : EvQ (tCons te tr) σ H (fun vs H2 => ∃ v r, vs = v :: r ∧ φ v H2 ∧ Φ r H2) := fun H1 e Q q =>
  h H1 e _ fun v H2 e2 hv => hr H2 (e.trans e2) _ fun r H3 e3 hr => q _ H3 (e2.trans e3) ⟨v, r, rfl, m v H2 H3 e3 hv, hr⟩
theorem mo_c {w : V} : Mo (fun x _ => x = w) := fun _ _ _ _ h => h

/-- a promise: what it asks by a ghost g, what comes back; all that was tracked stays -/
abbrev SpG {γ : Type} (Pre : γ → List V → Hp → Prop) (Post : γ → V → Hp → Prop) : Sp := fun vs H Q _ => ∃ g, Pre g vs H ∧ ∀ v H', Ex H H' → Post g v H' → Q v H'
theorem ep_call {γ : Type} {Pre : γ → List V → Hp → Prop} {Post : γ → V → Hp → Prop} {E : XK} (g : γ) (h : EvQ tr σ H Φ) (k : ∀ vs H1, Ex H H1 → Φ vs H1 → Pre g vs H1) : EvP (tCall (SpG Pre Post) [] E tr) σ H (Post g) := fun H1 e Q q =>
  h H1 e _ fun vs H2 e2 hv => ⟨g, by rw [List.append_nil]; exact k vs H2 (e.trans e2) hv, fun v H3 e3 hp => q v H3 (e2.trans e3) hp⟩
theorem ep_callA {γ : Type} {Pre : γ → List V → Hp → Prop} {Post : γ → V → Hp → Prop} {E : XK} {vs : List V} (g : γ) (h : EvA tr σ H vs) (k : ∀ H1, Ex H H1 → Pre g vs H1) : EvP (tCall (SpG Pre Post) [] E tr) σ H (Post g) :=
  ep_call g (ea_q h) fun ws H1 e hw => by
    subst hw
    exact k H1 e
theorem ep_meth {γ : Type} {Pre : γ → List V → Hp → Prop} {Post : γ → V → Hp → Prop} {E : XK} {C a : Addr} {m : Str} {dx : Addr} {fs : List (Str × V)} (g : γ) (ho : Ev ta σ H (.ref a)) (hH : H a = some (.ins C dx fs)) (hl : fs.lookup m = none)
    (h : EvQ tr σ H Φ) (k : ∀ vs H1, Ex H H1 → Φ vs H1 → Pre g (.ref a :: vs) H1) : EvP (tMeth C m (SpG Pre Post) [] E ta tr) σ H (Post g) := fun H1 e Q q =>
  ho H1 e _ fun H2 e2 => ⟨a, dx, fs, rfl, e2 _ _ (e _ _ hH), hl, h H2 (e.trans e2) _ fun vs H3 e3 hv => ⟨g, by rw [List.append_nil]; exact k vs H3 ((e.trans e2).trans e3) hv, fun v H4 e4 hp => q v H4 ((e2.trans e3).trans e4) hp⟩⟩
theorem ep_methA {γ : Type} {Pre : γ → List V → Hp → Prop} {Post : γ → V → Hp → Prop} {E : XK} {C a : Addr} {m : Str} {dx : Addr} {fs : List (Str × V)} {vs : List V} (g : γ) (ho : Ev ta σ H (.ref a)) (hH : H a = some (.ins C dx fs)) (hl : fs.lookup m = none)
    (h : EvA tr σ H vs) (k : ∀ H1, Ex H H1 → Pre g (.ref a :: vs) H1) : EvP (tMeth C m (SpG Pre Post) [] E ta tr) σ H (Post g) :=
  ep_meth g ho hH hl (ea_q h) fun ws H1 e hw => by
    subst hw
    exact k H1 e
/-- a method of an instance that is told by phi -/
theorem ep_methP {γ : Type} {Pre : γ → List V → Hp → Prop} {Post : γ → V → Hp → Prop} {E : XK} {C : Addr} {m : Str} {vs : List V} (g : γ) (mo : Mo φ) (ho : EvP ta σ H φ) (hH : ∀ v H1, φ v H1 → ∃ a dx fs, v = .ref a ∧ H1 a = some (.ins C dx fs) ∧ fs.lookup m = none)
    (h : EvA tr σ H vs) (k : ∀ v H1, Ex H H1 → φ v H1 → Pre g (v :: vs) H1) : EvP (tMeth C m (SpG Pre Post) [] E ta tr) σ H (Post g) := fun H1 e Q q =>
  ho H1 e _ fun x H2 e2 hx => by
    obtain ⟨a, dx, fs, rfl, hx2, hl⟩ := hH x H2 hx
    exact ⟨a, dx, fs, rfl, hx2, hl, h H2 (e.trans e2) _ fun H3 e3 => ⟨g, by rw [List.append_nil]; exact k _ H3 ((e.trans e2).trans e3) (mo _ _ _ e3 hx), fun v H4 e4 hp => q v H4 ((e2.trans e3).trans e4) hp⟩⟩
/-- an own __init__: the new instance at p, asked of the rest of the heap -/
abbrev SpI {γ : Type} (C : Addr) (Pre : γ → List V → Hp → Prop) (Post : γ → V → Hp → Prop) : Sp := fun vs H Q _ => ∃ (g : γ) (p dx : Addr) (ws : List V) (H0 : Hp), vs = .ref p :: ws ∧ H0 p = none ∧ Ex H0 H ∧ H p = some (.ins C dx []) ∧ Pre g ws H0 ∧
  ∀ H', Ex H0 H' → Post g (.ref p) H' → Q .non H'
theorem ep_make {γ : Type} {Pre : γ → List V → Hp → Prop} {Post : γ → V → Hp → Prop} {E : XK} {C : Addr} (g : γ) (h : EvQ tr σ H Φ) (k : ∀ vs H1, Ex H H1 → Φ vs H1 → Pre g vs H1) : EvP (tMake C (SpI C Pre Post) [] E tr) σ H (Post g) := fun H1 e Q q =>
  h H1 e _ fun vs H2 e2 hv x dx nx ndx ne => ⟨g, x, dx, vs, H2, by rw [List.append_nil], nx, fun a o ha => by
      rw [upd_ne (ne_of_none ha nx), upd_ne (ne_of_none ha ndx)]
      exact ha, upd_same, k vs H2 (e.trans e2) hv, fun H3 e3 hp => ⟨rfl, q _ H3 (e2.trans e3) hp⟩⟩
/-! statements -/
variable {tz tu : TS}
theorem q_asgP {i : Nat} (h : EvP te σ H φ) (k : ∀ v H1, Ex H H1 → φ v H1 → tz D (σ.set i (some v)) H1) : tSeq (tAsg te (gName i)) tz D σ H := h H (Ex.refl H) _ fun v H1 e hv => k v H1 e hv
theorem s_asgP {i : Nat} (h : EvP te σ H φ) (k : ∀ v H1, Ex H H1 → φ v H1 → D.nx (σ.set i (some v)) H1) : tAsg te (gName i) D σ H := h H (Ex.refl H) _ fun v H1 e hv => k v H1 e hv
theorem s_retP (h : EvP te σ H φ) (k : ∀ v H1, Ex H H1 → φ v H1 → D.rt v H1) : tRet te D σ H := h H (Ex.refl H) _ k
theorem q_dropP (h : EvP te σ H φ) (k : ∀ v H1, Ex H H1 → φ v H1 → tz D σ H1) : tSeq (tDrop te) tz D σ H := h H (Ex.refl H) _ k
/-- a field -/
theorem ev_fld {K : PySem.W.Frag} {f : Str} {a C dx : Addr} {fs : List (Str × V)} (h : Ev te σ H (.ref a)) (hH : H a = some (.ins C dx fs)) (c : Cls K C) (n : NoAttr K C f) (l : fs.lookup f = some v) : Ev (tFld K te f) σ H v := fun H1 e Q q =>
  h H1 e _ fun H2 e2 => ⟨a, C, dx, fs, v, rfl, e2 _ _ (e _ _ hH), c, n, l, q H2 e2⟩
/-- a new object on top -/
theorem Ex.on {H0 : Hp} {p : Addr} {o : HO} (e : Ex H0 H) (h : H0 p = none) : Ex H0 (upd H p o) := Ex.mut e h
end
end K27
namespace K27
open PySem L2 Evl
/-! ### defs as they are called -/
/-- the def x of the module keeps the promise sp -/
def Cal (P : Program) (w : World) (K : PySem.W.Frag) (mg : Str → Option Value) (base : Heap) (k : Nat) (x : Str) (ps : List Str) (sp : Sp) : Prop :=
  ∃ f fd, mg x = some (.ref f) ∧ PySem.W.keepIn K (.ref f) = true ∧ Binds K fd ps [] ∧ FnOk P w K mg base CX0 k f fd ps sp
/-- the method m of the class at C -/
def Met (P : Program) (w : World) (K : PySem.W.Frag) (mg : Str → Option Value) (base : Heap) (k : Nat) (C : Addr) (m : Str) (ps : List Str) (sp : Sp) : Prop :=
  ∃ f fd, Cls K C ∧ Meth K C m f ∧ Binds K fd ps [] ∧ FnOk P w K mg base CX0 k f fd ps sp
/-- the class x, made by its own __init__ -/
def Mkr (P : Program) (w : World) (K : PySem.W.Frag) (mg : Str → Option Value) (base : Heap) (k : Nat) (C : Addr) (x : Str) (ps : List Str) (sp : Sp) : Prop :=
  ∃ f fd, mg x = some (.ref C) ∧ Mk K C f ∧ Binds K fd ps [] ∧ FnOk P w K mg base CX0 k f fd ps sp
section
variable {X : Cx} {k j : Nat} {C : Addr} {x m : Str} {ps : List Str} {sp : Sp} {e o : Expr} {es : List Expr} {t : TA} {ta : TE} {p pos apos : Pos}
theorem pc (c : Cal X.prog X.w X.K X.mg X.base k x ps sp) (hr : Room j X.A) (ha : PA X (e :: es) t) (hkj : k ≤ j := by decide) (hg : Gl X x := by rfl) (hdb : (x == ("__debug__" : Str)) = false := by decide)
    (he : starEach (e :: es) X.env = (false, eval e X.env) :: starEach es X.env := by rfl) (hpl : (backTo pos (starEach es X.env)).any (·.1) = false := by rfl) : PE X (.Call (.Name x p) (e :: es) [] pos) (tCall sp [] E0 t) := by
  obtain ⟨f, fd, hm, hk, hb, F⟩ := c
  exact pe_call F (hr.mono hkj) hg hm hk hb .nil pass0 ha hdb he hpl
theorem pmk (c : Mkr X.prog X.w X.K X.mg X.base k C x ps sp) (hr : Room j X.A) (ha : PA X (e :: es) t) (hkj : k + 1 ≤ j := by decide) (hg : Gl X x := by rfl) (hdb : (x == ("__debug__" : Str)) = false := by decide)
    (he : starEach (e :: es) X.env = (false, eval e X.env) :: starEach es X.env := by rfl) (hpl : (backTo pos (starEach es X.env)).any (·.1) = false := by rfl) : PE X (.Call (.Name x p) (e :: es) [] pos) (tMake C sp [] E0 t) := by
  obtain ⟨f, fd, hm, M, hb, F⟩ := c
  exact pe_make M F (hr.mono hkj) hg hm hb .nil pass0 ha hdb he hpl
end
end K27
/-! methods, own operators, own != -/
namespace K27Q
open PySem PySem.W PyProof.Rows
section
variable {prog : Program} {w : World} {A : Around} {E : Value → Shared → Prop} {s : Shared} {K : Frag} {x y C f : Addr} {ox : Obj} {od : Option Obj}
theorem entry_ne {Q : Fin → Shared → Prop} (hu : A.units < cLine) (X : K.In s.heap) (I : PySem.W.InstAt s.heap x ox C od) (hs : findIn K (.ref C) "__eq__" = some (some (.ref f))) (hf : isFn K (.ref f) = true)
    (hcall : wpAny (model prog w) A (call (.ref f) [.ref x, .ref y]) (fun v s' => ∃ b, v = .bool b ∧ Q (.done (.ret (.bool (!b)))) s') E s) :
    wpAny (model prog w) A (Builtin.«object.__ne__» ⟨[.ref x, .ref y], []⟩) Q E s := by
  unfold Builtin.«object.__ne__»
  repeat (first
    | with_reducible refine wpAny_cRoomFor hu ?_
    | (refine wpAny_bind (m := callSpecialIfBound? (.ref x) (Str.ofString "__eq__") [.ref y])
        (ifBound_K X I hs hf (wpAny_mono hcall (fun r s' hr => by
          obtain ⟨b, rfl, hq⟩ := hr
          repeat (first | exact hq | exact wpAny_pure hq | exact wpAny_truthy_bool hq | (refine wpAny_bind (m := truthy (.bool _)) (wpAny_truthy_bool ?_)) | wp_step)) fun _ _ e => e)))
    | wp_step)
theorem ifBound_objNe {args : List Value} {Q : Option Value → Shared → Prop} {M : Model} (X : K.In s.heap) (I : PySem.W.InstAt s.heap x ox C od) (hs : findIn K (.ref C) "__ne__" = some (some (.builtin "object.__ne__")))
    (h : wpAny M A (call (.builtin "object.__ne__") (.ref x :: args)) (fun v => Q (some v)) E s) : wpAny M A (callSpecialIfBound? (.ref x) "__ne__" args) Q E s := by
  simp only [callSpecialIfBound?, bindSpecialIfBound?]
  refine wpAny_holding (wpAny_bind (wpAny_bind (wpAny_bind (I.type.here ((PySem.W.looks_findIn X hs).here ?_)))))
  refine wpAny_bind (wpAny_askSetting (wpAny_ite ?_))
  have fin : wpAny M A (call (.builtin "object.__ne__") ([.ref x] ++ args) >>= fun v => pure (some v)) Q E s := wpAny_bind (wpAny_mono h (fun v s' h' => wpAny_pure h') fun _ _ h' => h')
  split
  · exact wpAny_bind (wpAny_of_eq (F.cmp_object.ne.bind _) (wpAny_pure (by exact fin)))
  · exact wpAny_tryCatch (wpAny_bind (wpAny_of_eq (F.cmp_object.ne.bind _) (wpAny_pure (by exact fin))))
/-- x != y, both of the class C, whose == is its own and whose != is object's -/
theorem ne_own {Q : Value → Shared → Prop} (hu : A.units + 1 < cLine) (X : K.In s.heap) (I : PySem.W.InstAt s.heap x ox C od) (J : Looks (model prog w) s.heap (typeOf (.ref y)) (.ref C)) (hm : mroIn K C (.type "object") = some true)
    (hs : findIn K (.ref C) "__eq__" = some (some (.ref f))) (hf : isFn K (.ref f) = true) (hn : findIn K (.ref C) "__ne__" = some (some (.builtin "object.__ne__")))
    (hcall : wpAny (model prog w) A.in1 (call (.ref f) [.ref x, .ref y]) (fun v s' => ∃ b, v = .bool b ∧ Q (.bool (!b)) s') E s) :
    wpAny (model prog w) A (compareOp .NotEq (.ref x) (.ref y)) Q E s := by
  have hu0 : A.units < cLine := Nat.lt_of_succ_lt hu
  have hu1 : A.in1.units < cLine := by
    show A.units + 1 < cLine
    exact hu
  have two : wpAny (model prog w) A (call (.builtin "object.__ne__") [.ref x, .ref y]) (fun v s' => ∃ b, v = .bool b ∧ Q (.bool b) s') E s := by
    refine wpAny_call (codeAny_call_builtin F.cmp_object.ne.plain F.cmpEntry_ne (PySem.W.check_slot F.cmpKind_ne F.cmpSplit_ne (I.type.andThen (PySem.W.looks_mroIn X hm)) (F.cmpArgs_ne _ _) (entry_ne (A := A.in1) hu1 X I hs hf (wpAny_mono hcall (fun v s' hv => ?_) fun _ _ e => e))))
    obtain ⟨b, rfl, hq⟩ := hv
    first | exact ⟨b, rfl, _, rfl, hq⟩ | exact ⟨b, rfl, ⟨_, rfl, hq⟩⟩
  have one : wpAny (model prog w) A (tryCompare (.ref x) "__ne__" (.ref y)) (fun r s' => ∃ v, r = some v ∧ Q v s') E s := by
    unfold tryCompare
    refine wpAny_bind (ifBound_objNe X I hn (wpAny_mono two (fun v s' hv => ?_) fun _ _ e => e))
    obtain ⟨b, rfl, hq⟩ := hv
    exact wpAny_pure ⟨_, rfl, hq⟩
  unfold compareOp
  unfold richCompare
  simp only [oneThing_ref]
  refine wpAny_holding (wpAny_bind (wpAny_cRoomFor hu0 ?_))
  rw [cmpInfo_NotEq]
  dsimp only
  refine wpAny_bind (I.type.here (wpAny_bind (J.here ?_)))
  rw [show (Value.ref C != Value.ref C) = false from by simp]
  simp only [Bool.false_eq_true, if_false]
  refine wpAny_bind (wpAny_pure ?_)
  simp only [Bool.false_eq_true, if_false]
  refine wpAny_bind (wpAny_mono one (fun r s' z => ?_) fun _ _ e => e)
  obtain ⟨v, rfl, hq⟩ := z
  exact wpAny_pure hq
end
end K27Q
namespace K27
open PySem L2 Evl
theorem cmpb {P : Value → Shared → Prop} {z : V} {v : Value} {s' : Shared} (r : RelV z v) (h : P v s') : PySem.W.CmpBack P v s' := by
  cases z with
  | non => cases (show v = Value.none from r); exact h
  | bl b => cases (show v = Value.bool b from r); exact h
  | int i =>
    obtain ⟨t, e⟩ := (show ∃ t, v = Value.int i t from r)
    cases e
    exact h
  | str x =>
    obtain ⟨t, e⟩ := (show ∃ t, v = Value.str x t from r)
    cases e
    exact h
  | byt b =>
    obtain ⟨t, e⟩ := (show ∃ t, v = Value.bytes b t from r)
    cases e
    exact h
  | flt b =>
    obtain ⟨t, e⟩ := (show ∃ t, v = Value.float b t from r)
    cases e
    exact h
  | ref a => cases (show v = Value.ref a from r); exact h
  | ty n => cases (show v = Value.type n from r); exact h
section
variable {X : Cx} {k j : Nat} {C f : Addr} {fd : FuncData} {x m : Str} {ps : List Str} {sp : Sp} {e o : Expr} {es : List Expr} {t : TA} {ta : TE} {p pos apos : Pos} {pins : List (Addr × Obj)} {σ : L2.St} {H : Hp} {s : Shared}
/-- the callee runs, called from within a built-in -/
theorem run_at {A : Around} {Q : VK} {us : List Value} {vs : List V} (sb : Sub X k A) (F : FnOk X.prog X.w X.K X.mg X.base CX0 k f fd ps sp) (hb : Binds X.K fd ps []) (I : Inv X pins σ H s) (r : Vals vs us) (h : sp vs H Q E0) :
    wpAny (model X.prog X.w) A (call (.ref f) us) (EP X pins σ Q) X.xe s := by
  have e0 : Env0 X.prog X.w X.K X.mg X.base A X.stack s H := by
    have e := I.env0
    exact ⟨by rw [sb.fr]; exact e.frames, e.mod, e.bs, e.bsz, e.funs, e.frf, e.hok, e.bare⟩
  have hl := F.len _ _ _ _ h
  refine wpAny_call (codeAny_mono (F.run A X.stack s H ⟨us, []⟩ us vs Q E0 sb.room e0 (by
    have := hb s us I.kIn (by rw [List.append_nil, ← r.length]; exact hl)
    simpa using this) r h) fun r s' hq => ?_)
  cases r with
  | error e => exact False.elim hq
  | ok fl =>
    cases fl with
    | ret w => exact I.after hq
    | next => exact False.elim hq
    | brk => exact False.elim hq
    | cont => exact False.elim hq
theorem pm {pl : Sem Bool} (c : Met X.prog X.w X.K X.mg X.base k C m ps sp) (he : PE X o ta) (hr : Room j X.A) (ha : PA X (e :: es) t) (hkj : k ≤ j := by decide)
    (hst : starEach (e :: es) X.env = (false, eval e X.env) :: starEach es X.env := by rfl) (hpl : (backTo pos (starEach es X.env)).any (·.1) = false := by rfl)
    (ht : eval (.Call (.Attribute o m apos) (e :: es) [] pos) X.env = (do
      let ov ← eval o X.env
      standAt apos.atName
      let (f, first) ← holding [ov] (getMethod ov m pl)
      callWith pos f first (backTo pos (starEach (e :: es) X.env)) (backToKw pos (keywordEach [] X.env))) := by rfl) :
    PE X (.Call (.Attribute o m apos) (e :: es) [] pos) (tMeth C m sp [] E0 ta t) := by
  obtain ⟨f, fd, cl, M, hb, F⟩ := c
  exact pe_meth he cl M F (hr.mono hkj) hb .nil pass0 ha hst hpl ht
theorem pm0 {pl : Sem Bool} (c : Met X.prog X.w X.K X.mg X.base k C m ps sp) (he : PE X o ta) (hr : Room j X.A) (hkj : k ≤ j := by decide)
    (ht : eval (.Call (.Attribute o m apos) [] [] pos) X.env = (do
      let ov ← eval o X.env
      standAt apos.atName
      let (f, first) ← holding [ov] (getMethod ov m pl)
      callWith pos f first (backTo pos (starEach [] X.env)) (backToKw pos (keywordEach [] X.env))) := by rfl) :
    PE X (.Call (.Attribute o m apos) [] [] pos) (tMeth C m sp [] E0 ta tNil) := by
  obtain ⟨f, fd, cl, M, hb, F⟩ := c
  exact pe_meth0 he cl M F (hr.mono hkj) hb .nil pass0 ht
/-- x op y of two instances of the class at C by its own method -/
def rOwn (C : Addr) (sp : Sp) : R2 := fun x y H Q => ∃ a b dx dy fs gs, x = .ref a ∧ y = .ref b ∧ H a = some (.ins C dx fs) ∧ H b = some (.ins C dy gs) ∧ sp [.ref a, .ref b] H Q E0
theorem op_own {op : Operator} (c : Met X.prog X.w X.K X.mg X.base k C (PySem.dunder op.info.2) ps sp) (sf : PySem.W.selfFirst X.K C = true) (hr : Room j X.A) (hkj : k ≤ j := by decide) : OpR X (binaryOp op) (rOwn C sp) := by
  obtain ⟨f, fd, cl, M, hb, F⟩ := c
  intro pins s σ H x y v u Q I rx ry h
  obtain ⟨a, b, dx, dy, fs, gs, rfl, rfl, ha, hb', hsp⟩ := h
  cases rx
  cases ry
  obtain ⟨mA, J, _⟩ := ins_get I.hok ha
  obtain ⟨mB, J', _⟩ := ins_get I.hok hb'
  obtain ⟨od, J, _⟩ := J.look
  obtain ⟨od', J', _⟩ := J'.look
  obtain ⟨m, hF⟩ := I.fr
  refine PySem.W.binop_K hF I.ok.mod.kin J J'.type sf M.at_ M.fn ?_
  refine thn (run_at ⟨hr.mono hkj, rfl⟩ F hb I (show Vals [V.ref a, V.ref b] [Value.ref a, Value.ref b] from .cons rfl (.cons rfl .nil)) hsp) fun v s' hv => ?_
  obtain ⟨z, H', I', rz, q⟩ := hv
  exact cmpb rz ⟨z, H', I', rz, q⟩
/-- -x of an instance -/
def rOwn1 (C : Addr) (sp : Sp) : V → Hp → VK → Prop := fun x H Q => ∃ a dx fs, x = .ref a ∧ H a = some (.ins C dx fs) ∧ sp [.ref a] H Q E0
theorem un_own (c : Met X.prog X.w X.K X.mg X.base k C "__neg__" ps sp) (hr : Room j X.A) (hkj : k ≤ j := by decide) : UnR X (unaryOp .USub) (rOwn1 C sp) := by
  obtain ⟨f, fd, cl, M, hb, F⟩ := c
  intro pins s σ H x v Q I rx h
  obtain ⟨a, dx, fs, rfl, ha, hsp⟩ := h
  cases rx
  obtain ⟨mA, J, _⟩ := ins_get I.hok ha
  obtain ⟨od, J, _⟩ := J.look
  obtain ⟨m, hF⟩ := I.fr
  exact PySem.W.ksp_neg hF I.ok.mod.kin J M.at_ M.fn (run_at ⟨hr.mono hkj, rfl⟩ F hb I (show Vals [V.ref a] [Value.ref a] from .cons rfl .nil) hsp)
/-- x != y by the class's own == -/
def rOwnNe (C : Addr) (sp : Sp) : R2 := fun x y H Q => ∃ a b dx dy fs gs, x = .ref a ∧ y = .ref b ∧ H a = some (.ins C dx fs) ∧ H b = some (.ins C dy gs) ∧ sp [.ref a, .ref b] H (fun v H' => ∃ c, v = .bl c ∧ Q (.bl (!c)) H') E0
theorem op_ownNe (c : Met X.prog X.w X.K X.mg X.base k C "__eq__" ps sp) (hm : PySem.W.mroIn X.K C (.type "object") = some true) (hn : PySem.W.findIn X.K (.ref C) "__ne__" = some (some (.builtin "object.__ne__"))) (hr : Room j X.A) (hkj : k + 1 ≤ j := by decide) :
    OpR X (compareOp .NotEq) (rOwnNe C sp) := by
  obtain ⟨f, fd, cl, M, hb, F⟩ := c
  intro pins s σ H x y v u Q I rx ry h
  obtain ⟨a, b, dx, dy, fs, gs, rfl, rfl, ha, hb', hsp⟩ := h
  cases rx
  cases ry
  obtain ⟨mA, J, _⟩ := ins_get I.hok ha
  obtain ⟨mB, J', _⟩ := ins_get I.hok hb'
  obtain ⟨od, J, _⟩ := J.look
  obtain ⟨od', J', _⟩ := J'.look
  have sb : Sub X (k + 1) X.A := ⟨hr.mono hkj, rfl⟩
  refine K27Q.ne_own (by have := sb.room.units; omega) I.kIn J J'.type hm M.at_ M.fn hn ?_
  refine thn (run_at sb.in1 F hb I (show Vals [V.ref a, V.ref b] [Value.ref a, Value.ref b] from .cons rfl (.cons rfl .nil)) hsp) fun v s' hv => ?_
  obtain ⟨z, H', I', rz, c, ez, q⟩ := hv
  subst ez
  cases rz
  exact ⟨c, rfl, .bl (!c), H', I', rfl, q⟩
end
end K27
namespace K27
open PySem L2 Evl
/-! ### bits of numbers that are not negative -/
theorem and_nat (a b : Nat) : Builtin.bitAnd (a : Int) (b : Int) = ((a &&& b : Nat) : Int) := by
  rw [PyProof.Rows.bitAnd_pp (by omega) (by omega), Int.toNat_natCast, Int.toNat_natCast]
theorem or_nat (a b : Nat) : Builtin.bitOr (a : Int) (b : Int) = ((a ||| b : Nat) : Int) := by
  have e1 := PyProof.Rows.bitOr_and (a : Int) (b : Int)
  rw [and_nat] at e1
  have e2 : (a ||| b) + (a &&& b) = a + b := PyProof.Rows.nat_or_add_and a b
  omega
theorem shr_nat (m x : Nat) : (m : Int) / 2 ^ ((x : Int)).toNat = ((m >>> x : Nat) : Int) := by
  rw [Int.toNat_natCast, PyProof.Rows.two_pow_cast, Nat.shiftRight_eq_div_pow]
  exact (Int.natCast_ediv _ _).symm
theorem shl_nat (x : Nat) : (1 : Int) * 2 ^ ((x : Int)).toNat = ((2 ^ x : Nat) : Int) := by
  rw [Int.toNat_natCast, PyProof.Rows.two_pow_cast, Int.one_mul]
/-- bits >> x & 1 == 1 -/
theorem bit_is (m x : Nat) : (decide (V.int (Builtin.bitAnd ((m : Int) / 2 ^ ((x : Int)).toNat) 1) = V.int 1)) = m.testBit x := by
  have e : Builtin.bitAnd ((m : Int) / 2 ^ ((x : Int)).toNat) 1 = (((m >>> x) &&& 1 : Nat) : Int) := by
    rw [shr_nat]
    exact and_nat (m >>> x) 1
  rw [e, dec_int]
  unfold Nat.testBit
  rw [Nat.and_comm 1 (m >>> x)]
  have z : (m >>> x) &&& 1 = (m >>> x) % 2 := Nat.and_one_is_mod _
  rw [z]
  rcases Nat.mod_two_eq_zero_or_one (m >>> x) with q | q
  · rw [q]; rfl
  · rw [q]; rfl
/-- what the built-in names of the module are: still the built-in ones -/
structure Bl (mg : Str → Option Value) : Prop where
  isi : mg "isinstance" = none
  int : mg "int" = none
  bool : mg "bool" = none
  len : mg "len" = none
  range : mg "range" = none
  tuple : mg "tuple" = none
  list : mg "list" = none
  sum : mg "sum" = none
  all : mg "all" = none
  min : mg "min" = none
  abs : mg "abs" = none
section
variable {P : Program} {w : World} {K : PySem.W.Frag} {mg : Str → Option Value} {base : Heap} {σ : L2.St} {H : Hp}
/-! ### isinstance -/
theorem ev_isi {x : V} {c : String} {t : String} {b : Bool} {te tc : TE} (h : Ev te σ H x) (hc : Ev tc σ H (.ty c)) (ty : ∀ H1, Ex H H1 → TyX K H1 x (.type t)) (e : kitB t c = some b) : Ev (tCB (rIsi K) (tCons te (tCons tc tNil))) σ H (.bl b) :=
  ev_cb (ea_cons h (ea_cons hc ea_nil)) fun H1 e1 Q q => ⟨x, .ty c, .type t, .type c, b, rfl, .ty c, ty H1 e1, kit_ty e, q H1 (Ex.refl H1)⟩
/-! ### is_integer -/
abbrev spIsInt : Sp := SpG (γ := Int) (fun i vs _ => vs = [.int i]) (fun _ v _ => v = .bl true)
theorem scIsInt : FnScope ["value"] ["value"] (defScope sIsInt) := ⟨rfl, rfl, rfl, by decide +kernel, rfl, by decide +kernel, by decide +kernel⟩
theorem ok_isint {f : Addr} {fd : FuncData} (F : Fun K "is_integer" "is_integer" sIsInt f fd) (B : Bl mg) : FnOk P w K mg base CX0 1 f fd ["value"] spIsInt := by
  refine F.ok scIsInt (fun vs H Q E h => ?_) (fun cdv A outer s H vs Q E hr h => ?_)
  · obtain ⟨i, rfl, _⟩ := h
    rfl
  · obtain ⟨i, rfl, k⟩ := h
    refine ⟨_, pss_one (ps_ret (pe_and (pe_callB call_isi (by rfl) B.isi (by decide +kernel) (pa_cons (pv 0) (pa_cons (pe_bltn (v := .ty "int") (by rfl) B.int (by decide +kernel) rfl) pa_nil)))
      (pe_one (pe_not (pe_callB call_isi (by rfl) B.isi (by decide +kernel) (pa_cons (pv 0) (pa_cons (pe_bltn (v := .ty "bool") (by rfl) B.bool (by decide +kernel) rfl) pa_nil))))))), ?_⟩
    refine s_ret (v := .bl true) (ev_andV (a := true) (b := true) (ev_isi (ev_var rfl) ev_c (fun _ _ => .base (.int i)) (by decide +kernel)) fun _ => ev_notV (a := false) (ev_isi (ev_var rfl) ev_c (fun _ _ => .base (.int i)) (by decide +kernel))) fun H1 e => k _ H1 e rfl
/-! ### has -/
abbrev spHas : Sp := SpG (γ := Nat × Nat) (fun g vs _ => vs = [.int (g.1 : Nat), .int (g.2 : Nat)]) (fun g v _ => v = .bl (g.1.testBit g.2))
theorem scHas : FnScope ["bits", "x"] ["bits", "x"] (defScope sHas) := ⟨rfl, rfl, rfl, by decide +kernel, rfl, by decide +kernel, by decide +kernel⟩
/-- bits >> x & 1 == 1 -/
theorem ev_bit {ta tb tc td : TE} {m x : Nat} (ha : Ev ta σ H (.int (m : Nat))) (hb : Ev tb σ H (.int (x : Nat))) (hc : Ev tc σ H (.int 1)) (hd : Ev td σ H (.int 1)) :
    Ev (tOp rEq (tOp (rI0 fun i j => .int (Builtin.bitAnd i j)) (tOp (rI (fun _ j => 0 ≤ j) fun i j => .int (i / 2 ^ j.toNat)) ta tb) tc) td) σ H (.bl (m.testBit x)) :=
  ev_is (ev_op (ev_op (ev_op ha hb (rv_I (Int.natCast_nonneg x))) hc rv_I0) hd (rv_eq rfl)) (by rw [bit_is])
theorem ok_has {f : Addr} {fd : FuncData} (F : Fun K "has" "has" sHas f fd) : FnOk P w K mg base CX0 1 f fd ["bits", "x"] spHas := by
  refine F.ok scHas (fun vs H Q E h => ?_) (fun cdv A outer s H vs Q E hr h => ?_)
  · obtain ⟨g, rfl, _⟩ := h
    rfl
  · obtain ⟨⟨m, x⟩, rfl, k⟩ := h
    refine ⟨_, pss_one (ps_ret (eqm (pe_op op_and (pe_op op_shr (pv 0) (pv 1)) pe_int) pe_int)), ?_⟩
    exact s_ret (ev_bit (ev_var rfl) (ev_var rfl) ev_c ev_c) fun H1 e => k _ H1 e rfl
/-! ### set_of: a list of points -/
def orAll (ps : List Nat) : Nat := ps.foldl (fun m x => m ||| 2 ^ x) 0
abbrev nV (n : Nat) : V := .int (n : Int)
abbrev spSetOf (K : PySem.W.Frag) : Sp := SpG (γ := List Nat) (fun ps vs H => ∃ a, vs = [.ref a] ∧ SqL K H a (ps.map nV) ∧ ∀ x, x ∈ ps → x ≤ 1000) (fun ps v _ => v = nV (orAll ps))
theorem scSetOf : FnScope ["points", "out", "x"] ["points"] (defScope sSetOf) := ⟨rfl, rfl, rfl, by decide +kernel, rfl, by decide +kernel, by decide +kernel⟩
theorem get_map {α : Type} {f : α → V} {xs : List α} {i : Nat} {y : V} (h : (xs.map f)[i]? = some y) : ∃ x, xs[i]? = some x ∧ y = f x := by
  rw [List.getElem?_map] at h
  cases e : xs[i]? with
  | none => rw [e] at h; cases h
  | some x => rw [e] at h; exact ⟨x, rfl, (Option.some.inj h).symm⟩
theorem fold_take {β : Type} {f : β → Nat → β} {b : β} {ps : List Nat} {i x : Nat} (h : ps[i]? = some x) : (ps.take (i + 1)).foldl f b = f ((ps.take i).foldl f b) x := by
  rw [List.take_add_one, h, List.foldl_append]
  rfl
theorem ok_setof {f : Addr} {fd : FuncData} (F : Fun K "set_of" "set_of" sSetOf f fd) : FnOk P w K mg base CX0 1 f fd ["points"] (spSetOf K) := by
  refine F.ok scSetOf (fun vs H Q E h => ?_) (fun cdv A outer s H vs Q E hr h => ?_)
  · obtain ⟨g, ⟨a, rfl, _⟩, _⟩ := h
    rfl
  · obtain ⟨ps, ⟨a, rfl, hS, hx⟩, k⟩ := h
    refine ⟨_, pss_cons (st 1 scSetOf.nd pe_int) (pss_cons (ps_for PassesOwn.never rfl (pi_list (pv 0)) (gn 2 scSetOf.nd)
      (pss_one (st 1 scSetOf.nd (pe_op op_or (pv 1) (pe_op op_shl pe_int (pv 2)))))) (pss_one (ps_ret (pv 1)))), ?_⟩
    refine q_asg ev_c fun H1 e1 => ?_
    refine q_forLn (a := a) (xs := ps.map nV) (ev_var rfl) (ex_l e1 hS) (fun i σ' H' => ∃ v2, σ' = [some (.ref a), some (nV (orAll (ps.take i))), v2] ∧ Ex H H') (fun H2 e2 => ⟨none, rfl, e1.trans e2⟩) (fun i σ' H' _ ⟨_, _, e⟩ => ex_l e hS) ?_ ?_
    · rintro i y σ' H' hi ⟨v2, rfl, e⟩
      obtain ⟨x, hxi, rfl⟩ := get_map hi
      have hx1 := hx x (List.mem_of_getElem? hxi)
      refine s_asg (v := nV (orAll (ps.take (i + 1)))) (ev_is (ev_op (ev_var rfl) (ev_op ev_c (ev_var rfl) (rv_I (C := CPow) ⟨Int.natCast_nonneg x, by omega, by decide⟩)) rv_I0) ?_) fun H2 e2 => ⟨_, rfl, e.trans e2⟩
      rw [shl_nat, or_nat]
      unfold orAll
      rw [fold_take hxi]
    · rintro σ' H' ⟨v2, rfl, e⟩
      refine s_ret (ev_var rfl) fun H2 e2 => k _ H2 (e.trans e2) ?_
      rw [List.length_map, List.take_length]
end
end K27
/-! comprehensions whose elements are new objects; sums; tuples; members -/
namespace K27
open PySem L2 Evl
/-- a new list at l of new objects, the i-th one o i -/
structure Mat (H1 H2 : Hp) (l : Addr) (rs : List Addr) (n : Nat) (o : Nat → HO) : Prop where
  nl : H1 l = none
  nr : ∀ r, r ∈ rs → H1 r = none
  nd : rs.Nodup
  lr : l ∉ rs
  ex : Ex H1 H2
  hl : H2 l = some (.lst (rs.map V.ref))
  len : rs.length = n
  at_ : ∀ (i : Nat) r, rs[i]? = some r → H2 r = some (o i)
def EvM (te : TE) (σ : L2.St) (H : Hp) (n : Nat) (o : Nat → HO) : Prop := ∀ H1, Ex H H1 → ∀ Q : VK, (∀ l rs H2, Mat H1 H2 l rs n o → Q (.ref l) H2) → te σ H1 Q
/-- a new object -/
def EvO1 (te : TE) (σ : L2.St) (H : Hp) (o : HO) : Prop := ∀ H1, Ex H H1 → ∀ Q : VK, (∀ p H2, H1 p = none → Ex H1 H2 → H2 p = some o → Q (.ref p) H2) → te σ H1 Q
theorem Mat.start {H1 : Hp} {D : Addr} {o : Nat → HO} (h : H1 D = none) : Mat H1 (upd H1 D (.lst [])) D [] 0 o :=
  ⟨h, fun _ hr => by simp at hr, List.nodup_nil, by simp, Ex.new h, upd_same, rfl, fun i r hr => by simp at hr⟩
theorem Mat.turn {H1 H' H4 : Hp} {D p : Addr} {rs : List Addr} {i : Nat} {o : Nat → HO} (m : Mat H1 H' D rs i o) (hp : H' p = none) (e : Ex H' H4) (ho : H4 p = some (o i)) :
    H4 D = some (.lst (rs.map V.ref)) ∧ Mat H1 (upd H4 D (.lst (rs.map V.ref ++ [.ref p]))) D (rs ++ [p]) (i + 1) o := by
  have hD := e _ _ m.hl
  have npD : p ≠ D := fun q => by rw [q, m.hl] at hp; cases hp
  have npr : p ∉ rs := fun q => by
    obtain ⟨k, hk, ek⟩ := List.mem_iff_getElem.mp q
    have z := m.at_ k p (by rw [List.getElem?_eq_getElem hk, ek])
    rw [hp] at z
    cases z
  refine ⟨hD, m.nl, fun r hr => ?_, ?_, ?_, Ex.mut (m.ex.trans e) m.nl, ?_, by rw [List.length_append, m.len]; rfl, fun k r hr => ?_⟩
  · rcases List.mem_append.mp hr with hr | hr
    · exact m.nr r hr
    · rw [List.mem_singleton.mp hr]
      exact fresh_back m.ex hp
  · refine List.nodup_append.mpr ⟨m.nd, List.nodup_cons.mpr ⟨by simp, List.nodup_nil⟩, fun a ha b hb => ?_⟩
    rw [List.mem_singleton.mp hb]
    exact fun q => npr (q ▸ ha)
  · intro q
    rcases List.mem_append.mp q with q | q
    · exact m.lr q
    · exact npD (List.mem_singleton.mp q).symm
  · rw [upd_same, List.map_append]
    rfl
  · have hk : r ≠ D := fun q => by
      have z : r ∈ rs ++ [p] := List.mem_of_getElem? hr
      rw [q] at z
      rcases List.mem_append.mp z with z | z
      · exact m.lr z
      · exact npD (List.mem_singleton.mp z).symm
    rw [upd_ne hk]
    rcases Nat.lt_or_ge k rs.length with q | q
    · rw [List.getElem?_append_left q] at hr
      exact e _ _ (m.at_ k r hr)
    · rw [List.getElem?_append_right q] at hr
      have hk0 : k - rs.length = 0 := by
        have := (List.getElem?_eq_some_iff.mp hr).1
        simp at this
        omega
      rw [hk0] at hr
      have ep : p = r := by simpa using hr
      have ek : k = i := by rw [m.len] at hk0 q; omega
      rw [ek, ← ep]
      exact ho
theorem size_lt {n : Nat} (h : n ≤ 40000) : n < sizeLine := sz_lt (by omega)
section
variable {K : PySem.W.Frag} {σ : L2.St} {H H' : Hp} {ta tb te : TE} {x v : V}
theorem em_lcR1 {ta : TA} {j : Nat} {vs : List Nat} {n : Int} (o : Nat → HO) (h : EvA ta σ H [.int n]) (hn : 0 ≤ n ∧ n ≤ 40000) (hw : ∀ x, wipe ((wipe σ vs).set j (some x)) vs = wipe σ vs)
    (he : ∀ (i : Nat) H1, Ex H H1 → (i : Int) < n → EvO1 te ((wipe σ vs).set j (some (.int (i : Int)))) H1 (o i)) : EvM (tLc (iRng1 ta) (gName j) tYes te vs) σ H n.toNat o := fun H0 e Q q => h H0 e _ fun H1 e1 => ⟨n, rfl, by omega, by omega, fun Dl hD =>
  lc_range (lo := 0) (n := n.toNat) (fun i H' => ∃ rs, Mat H1 H' Dl rs i o) ⟨[], Mat.start hD⟩ (fun i H' hi p => by
    have e0 : (0 : Int) + (i : Int) = (i : Int) := Int.zero_add _
    obtain ⟨rs, m⟩ := p
    show wipe ((wipe σ vs).set j (some (.int ((0 : Int) + (i : Int))))) vs = wipe σ vs ∧ te ((wipe σ vs).set j (some (.int ((0 : Int) + (i : Int))))) H' fun y H4 => ∃ acc, H4 Dl = some (.lst acc) ∧ acc.length < sizeLine ∧ ∃ rs, Mat H1 (upd H4 Dl (.lst (acc ++ [y]))) Dl rs (i + 1) o
    rw [e0]
    refine ⟨hw _, he i H' ((e.trans e1).trans m.ex) (by omega) H' (Ex.refl H') _ fun p H4 hp e4 ho => ?_⟩
    obtain ⟨hD4, m'⟩ := m.turn hp e4 ho
    exact ⟨_, hD4, by rw [List.length_map, m.len]; exact size_lt (by omega), _, m'⟩) (fun H' p => by
    obtain ⟨rs, m⟩ := p
    exact q Dl rs H' ⟨fresh_back e1 m.nl, fun r hr => fresh_back e1 (m.nr r hr), m.nd, m.lr, e1.trans m.ex, m.hl, m.len, m.at_⟩)⟩
theorem em_lcL {a : Addr} {xs : List V} {tl : TE} {j : Nat} {vs : List Nat} (o : Nat → HO) (h : Ev tl σ H (.ref a)) (hx : SqL K H a xs) (hz : xs.length ≤ 40000) (hw : ∀ x, wipe ((wipe σ vs).set j (some x)) vs = wipe σ vs)
    (he : ∀ (i : Nat) (x : V) H1, Ex H H1 → xs[i]? = some x → EvO1 te ((wipe σ vs).set j (some x)) H1 (o i)) : EvM (tLc (iList K tl) (gName j) tYes te vs) σ H xs.length o := fun H0 e Q q => h H0 e _ fun H1 e1 => ⟨a, rfl, ⟨xs, ex_l (e.trans e1) hx⟩, fun Dl hD =>
  lc_list (xs := xs) (fun i H' => ∃ rs, Mat H1 H' Dl rs i o) ⟨[], Mat.start hD⟩ (fun i H' _ p => by
    obtain ⟨rs, m⟩ := p
    exact ex_l ((e.trans e1).trans m.ex) hx) (fun i x H' hi p => by
    obtain ⟨rs, m⟩ := p
    show wipe ((wipe σ vs).set j (some x)) vs = wipe σ vs ∧ te ((wipe σ vs).set j (some x)) H' fun y H4 => ∃ acc, H4 Dl = some (.lst acc) ∧ acc.length < sizeLine ∧ ∃ rs, Mat H1 (upd H4 Dl (.lst (acc ++ [y]))) Dl rs (i + 1) o
    refine ⟨hw _, he i x H' ((e.trans e1).trans m.ex) hi H' (Ex.refl H') _ fun p H4 hp e4 ho => ?_⟩
    obtain ⟨hD4, m'⟩ := m.turn hp e4 ho
    have := (List.getElem?_eq_some_iff.mp hi).1
    exact ⟨_, hD4, by rw [List.length_map, m.len]; exact size_lt (by omega), _, m'⟩) (fun H' p => by
    obtain ⟨rs, m⟩ := p
    exact q Dl rs H' ⟨fresh_back e1 m.nl, fun r hr => fresh_back e1 (m.nr r hr), m.nd, m.lr, e1.trans m.ex, m.hl, m.len, m.at_⟩)⟩
theorem EvL.o {xs : List V} (h : EvL te σ H xs) : EvO1 te σ H (.lst xs) := h
theorem EvU.o {xs : List V} (h : EvU te σ H xs) : EvO1 te σ H (.tup xs) := h
/-! ### built-ins over a new list -/
def rTupS (K : PySem.W.Frag) : List V → Hp → VK → Prop := fun xs H Q => ∃ p ys, xs = [.ref p] ∧ ((SqL K H p ys ∧ ∀ l, H l = none → Q (.ref l) (upd H l (.tup ys))) ∨ (SqT K H p ys ∧ Q (.ref p) H))
theorem eu_tupN {xs : List V} (ha : EvL te σ H xs) : EvU (tCB (rTupS K) (tCons te tNil)) σ H xs := fun H1 e Q q =>
  ha H1 e _ fun p H2 hp e2 h2 => ⟨p, xs, rfl, Or.inl ⟨sq_of h2, fun l hl => q l _ (fresh_back e2 hl) (e2.trans (Ex.new hl)) upd_same⟩⟩
theorem eu_tupL {p : Addr} {xs : List V} (ha : Ev te σ H (.ref p)) (h : SqL K H p xs) : EvU (tCB (rTupS K) (tCons te tNil)) σ H xs := fun H1 e Q q =>
  ha H1 e _ fun H2 e2 => ⟨p, xs, rfl, Or.inl ⟨ex_l (e.trans e2) h, fun l hl => q l _ (fresh_back e2 hl) (e2.trans (Ex.new hl)) upd_same⟩⟩
theorem ev_sum {ns : List Int} (ha : EvL te σ H (ns.map V.int)) : Ev (tCB (rSum K) (tCons te tNil)) σ H (.int ns.sum) := fun H1 e Q q =>
  ha H1 e _ fun p H2 _ e2 h2 => ⟨p, ns, rfl, sq_of h2, q H2 e2⟩
theorem ev_all {bs : List Bool} (ha : EvL te σ H (bs.map V.bl)) : Ev (tCB (rAll K) (tCons te tNil)) σ H (.bl (bs.all id)) := fun H1 e Q q =>
  ha H1 e _ fun p H2 _ e2 h2 => ⟨p, bs, rfl, sq_of h2, q H2 e2⟩
theorem given_int (n : Nat) (f : Nat → Bool) (g : Nat → Int) : given n f (fun i => V.int (g i)) = (((List.range n).filter f).map g).map V.int := by
  unfold given
  rw [List.map_map]
  rfl
theorem given_bl (n : Nat) (f : Nat → Bool) (g : Nat → Bool) : given n f (fun i => V.bl (g i)) = (((List.range n).filter f).map g).map V.bl := by
  unfold given
  rw [List.map_map]
  rfl
theorem range_filter_true (n : Nat) : (List.range n).filter (fun _ => true) = List.range n := List.filter_eq_self.mpr fun _ _ => rfl
theorem given_all (n : Nat) (v : Nat → V) : given n (fun _ => true) v = (List.range n).map v := by
  unfold given
  rw [range_filter_true]
theorem et_yes : EvT tYes σ H true := fun H1 _ Q q => q H1 (Ex.refl H1)
theorem range_at {n i : Nat} {f : Nat → V} (h : i < n) : ((List.range n).map f)[i]? = some (f i) := by
  rw [List.getElem?_map, List.getElem?_range h]
  rfl
end
/-! ### members -/
theorem filter_range {p : Nat → Bool} {a b : Nat} (hab : a ≤ b) (h : ∀ i, a ≤ i → p i = false) : (List.range b).filter p = (List.range a).filter p := by
  induction b with
  | zero => rw [Nat.le_zero.mp hab]
  | succ b ih =>
    by_cases e : a = b + 1
    · rw [e]
    · rw [List.range_succ, List.filter_append, ih (by omega), List.filter_cons, if_neg (by rw [h b (by omega)]; exact Bool.false_ne_true), List.filter_nil, List.append_nil]
def mem (n m : Nat) : List Nat := (List.range n).filter fun i => m.testBit i
theorem bits_top {m i : Nat} (h : Builtin.Int.intBits (m : Int) ≤ i) : m.testBit i = false := by
  refine Nat.testBit_lt_two_pow ?_
  refine Nat.lt_of_lt_of_le ?_ (Nat.pow_le_pow_right (by omega) h)
  unfold Builtin.Int.intBits
  by_cases e : m = 0
  · subst e
    exact Nat.two_pow_pos _
  · rw [if_neg (by simpa using e), Int.natAbs_natCast]
    exact Nat.lt_log2_self
theorem mem_bits {m n : Nat} (h : m < 2 ^ n) : (List.range (Builtin.Int.intBits (m : Int))).filter (fun i => m.testBit i) = mem n m := by
  have hn : ∀ i, n ≤ i → m.testBit i = false := fun i hi => Nat.testBit_lt_two_pow (Nat.lt_of_lt_of_le h (Nat.pow_le_pow_right (by omega) hi))
  unfold mem
  rcases Nat.le_total n (Builtin.Int.intBits (m : Int)) with q | q
  · exact filter_range q hn
  · exact (filter_range q fun i hi => bits_top hi).symm
theorem bits_le {m n : Nat} (h : m < 2 ^ n) : Builtin.Int.intBits (m : Int) ≤ n := PyProof.Rows.intBits_le (by rw [Int.natAbs_natCast]; exact h)
section
variable {P : Program} {w : World} {K : PySem.W.Frag} {mg : Str → Option Value} {base : Heap} {σ : L2.St} {H : Hp}
theorem ev_bits {te : TE} {m : Nat} (h : Ev te σ H (nV m)) : Ev (tBits te) σ H (nV (Builtin.Int.intBits (m : Int))) := fun H1 e Q q => h H1 e _ fun H2 e2 => ⟨_, rfl, q H2 e2⟩
abbrev spMembers : Sp := SpG (γ := Nat × Nat) (fun g vs _ => vs = [nV g.2] ∧ g.2 < 2 ^ g.1 ∧ g.1 ≤ 1000) (fun g v H => ∃ t, v = .ref t ∧ H t = some (.tup ((mem g.1 g.2).map nV)))
theorem scMembers : FnScope ["bits", "x"] ["bits"] (defScope sMembers) := ⟨rfl, rfl, rfl, by decide +kernel, rfl, by decide +kernel, by decide +kernel⟩
theorem ok_members {f : Addr} {fd : FuncData} (F : Fun K "members" "members" sMembers f fd) (B : Bl mg) : FnOk P w K mg base CX0 1 f fd ["bits"] spMembers := by
  refine F.ok scMembers (fun vs H Q E h => ?_) (fun cdv A outer s H vs Q E hr h => ?_)
  · obtain ⟨i, ⟨rfl, _⟩, _⟩ := h
    rfl
  · obtain ⟨⟨n, m⟩, ⟨rfl, hm, hn⟩, k⟩ := h
    refine ⟨_, pss_one (ps_ret (pe_callTy call_tuple_of (by rfl) B.tuple (by decide +kernel) (pa_cons (pe_lc (own := [("x", 1)]) (g := gName 1) rfl scMembers.nd (pi_range1 (by rfl) B.range (pa_cons (pe_bits (pv 0)) pa_nil))
      (blkOk_by (N := ["bits", "x"]) (sc := defScope sMembers) (by decide +kernel)) (fun _ _ _ _ _ => gn 1 scMembers.nd)
      (fun _ _ _ _ _ => pts_one (pt_cmpR op_eq (pe_op op_and (pe_op op_shr (pv 0) (pv 1)) pe_int) pe_int (nomark _))) (fun _ _ _ _ _ => pv 1)) pa_nil))), ?_⟩
    have hb : Builtin.Int.intBits (m : Int) ≤ n := bits_le hm
    have hn' : n ≤ 1000 := hn
    have e2 : given ((Builtin.Int.intBits (m : Int) : Nat) : Int).toNat (fun i => m.testBit i) (fun i => nV i) = (mem n m).map nV := by
      rw [Int.toNat_natCast, ← mem_bits hm]
      rfl
    refine s_retU (xs := (mem n m).map nV) (eu_tupN (K := K) ?_) fun p H1 hp e1 h1 => k _ H1 e1 ⟨p, rfl, h1⟩
    rw [← e2]
    exact el_lcR1 (fun i => m.testBit i) (fun i => nV i) (ea_cons (ev_bits (ev_var rfl)) ea_nil) (by omega) (fun x => rfl) (fun i H1 e1 hi => et_test (ev_bit (ev_var rfl) (ev_var rfl) ev_c ev_c)) (fun i H1 e1 hi _ => ev_var rfl)
end
end K27
/-! the rules with the written part by its own name (within a comprehension's block the context's is no closed term) -/
namespace K27
open PySem L2 Evl
section
variable (K : PySem.W.Frag) {X : Cx} {e a b o : Expr} {es : List Expr} {te ta tb to : TE} {t : TA} {f : Str} {pos p apos cpos : Pos} {tg : Expr}
theorem fl (he : PE X e te) (hb : attributeBase e f X.env (eval e X.env) = eval e X.env := by rfl) (hK : X.K = K := by rfl) : PE X (.Attribute e f pos) (tFld K te f) := by
  subst hK
  exact pe_fld he hb
theorem ixl (ha : PE X a ta) (hb : PE X b tb) (hs : PlainIx b := by exact fun _ _ => rfl) (hK : X.K = K := by rfl) : PE X (.Subscript a b pos) (tOp (rIxL K) ta tb) := by
  subst hK
  exact pe_ix ix_list ha hb hs
theorem ixt (ha : PE X a ta) (hb : PE X b tb) (hs : PlainIx b := by exact fun _ _ => rfl) (hK : X.K = K := by rfl) : PE X (.Subscript a b pos) (tOp (rIxT K) ta tb) := by
  subst hK
  exact pe_ix ix_tup ha hb hs
theorem bLen (B : Bl X.mg) (ha : PE X e te) (hg : Gl X "len" := by rfl) (he : starEach [e] X.env = (false, eval e X.env) :: starEach [] X.env := by rfl) (hK : X.K = K := by rfl) : PE X (.Call (.Name "len" p) [e] [] pos) (tCB (rLenS K) (tCons te tNil)) := by
  subst hK
  exact pe_callB call_len_seq hg B.len PySem.boot_len (pa_cons ha pa_nil he) (by decide) (by decide) he
theorem bTup (B : Bl X.mg) (ha : PE X e te) (hg : Gl X "tuple" := by rfl) (he : starEach [e] X.env = (false, eval e X.env) :: starEach [] X.env := by rfl) (hK : X.K = K := by rfl) : PE X (.Call (.Name "tuple" p) [e] [] pos) (tCB (rTupS K) (tCons te tNil)) := by
  subst hK
  exact pe_callTy call_tuple_of hg B.tuple (by decide +kernel) (pa_cons ha pa_nil he) (by decide) (by decide) he
theorem bList (B : Bl X.mg) (ha : PE X e te) (hg : Gl X "list" := by rfl) (he : starEach [e] X.env = (false, eval e X.env) :: starEach [] X.env := by rfl) (hK : X.K = K := by rfl) : PE X (.Call (.Name "list" p) [e] [] pos) (tCB (rListS K) (tCons te tNil)) := by
  subst hK
  exact pe_callTy call_list_of hg B.list (by decide +kernel) (pa_cons ha pa_nil he) (by decide) (by decide) he
theorem bSum (B : Bl X.mg) (hc : X.calm = true) (ha : PE X e te) (hg : Gl X "sum" := by rfl) (he : starEach [e] X.env = (false, eval e X.env) :: starEach [] X.env := by rfl) (hK : X.K = K := by rfl) : PE X (.Call (.Name "sum" p) [e] [] pos) (tCB (rSum K) (tCons te tNil)) := by
  subst hK
  exact pe_callB (cr_sum hc) hg B.sum (by decide +kernel) (pa_cons ha pa_nil he) (by decide) (by decide) he
theorem bAll (B : Bl X.mg) (hc : X.calm = true) (ha : PE X e te) (hg : Gl X "all" := by rfl) (he : starEach [e] X.env = (false, eval e X.env) :: starEach [] X.env := by rfl) (hK : X.K = K := by rfl) : PE X (.Call (.Name "all" p) [e] [] pos) (tCB (rAll K) (tCons te tNil)) := by
  subst hK
  exact pe_callB (cr_all hc) hg B.all (by decide +kernel) (pa_cons ha pa_nil he) (by decide) (by decide) he
theorem cIn (ha : PE X a ta) (hb : PE X b tb) (hm : behindInMarks .In b = false := by rfl) (hK : X.K = K := by rfl) : PE X (.Compare a [.In] [b] pos) (tOp (rIn K false) ta tb) := by
  subst hK
  exact pe_cmpR op_in_seq ha hb hm
theorem cNotIn (ha : PE X a ta) (hb : PE X b tb) (hm : behindInMarks .NotIn b = false := by rfl) (hK : X.K = K := by rfl) : PE X (.Compare a [.NotIn] [b] pos) (tOp (rIn K true) ta tb) := by
  subst hK
  exact pe_cmpR op_notIn_seq ha hb hm
theorem bIsi (B : Bl X.mg) (ha : PA X (e :: es) t) (hg : Gl X "isinstance" := by rfl) (hs : starEach (e :: es) X.env = (false, eval e X.env) :: starEach es X.env := by rfl) (hpl : (backTo pos (starEach es X.env)).any (·.1) = false := by rfl) (hK : X.K = K := by rfl) :
    PE X (.Call (.Name "isinstance" p) (e :: es) [] pos) (tCB (rIsi K) t) := by
  subst hK
  exact pe_callB call_isi hg B.isi (by decide +kernel) ha (by decide) (by decide) hs hpl
theorem bIsiT (B : Bl X.mg) (ha : PA X (e :: es) t) (hg : Gl X "isinstance" := by rfl) (hs : starEach (e :: es) X.env = (false, eval e X.env) :: starEach es X.env := by rfl) (hpl : (backTo pos (starEach es X.env)).any (·.1) = false := by rfl) (hK : X.K = K := by rfl) :
    PE X (.Call (.Name "isinstance" p) (e :: es) [] pos) (tCB (rIsiT K) t) := by
  subst hK
  exact pe_callB call_isiT hg B.isi (by decide +kernel) ha (by decide) (by decide) hs hpl
theorem wList {l : Expr} {tl : TE} (hl : PE X l tl) (hK : X.K = K := by rfl) : PI X tg l (iList K tl) := by
  subst hK
  exact pi_list hl
theorem wTup {l : Expr} {tl : TE} (hl : PE X l tl) (hK : X.K = K := by rfl) : PI X tg l (iTup K tl) := by
  subst hK
  exact pi_tup hl
theorem gPair {es : List Expr} {k : Nat} {t : TGs} {n : Nat} (hc : X.calm = true) (h : PGs X es t) (hn : (assignEach es X.env).length = n := by rfl) (hst : (assignEach es X.env).findIdx? (·.1) = none := by rfl) (hK : X.K = K := by rfl) : PG X (.Tuple es k pos) (gTup K n t) := by
  subst hK
  exact pg_tup hc h hn hst
theorem sApp (ho : PE X o to) (he : PE X e te)
    (hbase : attributeBase o "append" X.env (eval o X.env) = eval o X.env := by rfl)
    (hfew : ((backTo cpos (starEach (e :: []) X.env)).all (fun x => !x.1) && (backToKw cpos (keywordEach [] X.env)).all (fun x => x.1.isSome)
      && decide ((e :: ([] : List Expr)).length + ([] : List Keyword).length + (if ([] : List Keyword).isEmpty then 0 else 1) < 30)) = true := by rfl)
    (hline : (apos.endLine == cpos.line) = true := by rfl) (hs : starEach (e :: []) X.env = (false, eval e X.env) :: starEach [] X.env := by rfl) (hplain : (backTo cpos (starEach [] X.env)).any (·.1) = false := by rfl) (hK : X.K = K := by rfl) :
    PE X (.Call (.Attribute o "append" apos) [e] [] cpos) (tBM K "list" rAppend to (tCons te tNil)) := by
  subst hK
  exact pe_bm PySem.F.plainAttrs_list PySem.F.slot_list_append PySem.F.type_list_append mt_append ho (pa_cons he pa_nil hs) hbase hfew hline hs hplain
end
section
variable {X : Cx} {e : Expr} {te : TE} {pos p : Pos} {tg : Expr}
theorem wR1 (B : Bl X.mg) (ha : PE X e te) (hg : Gl X "range" := by rfl) (hs : starEach [e] X.env = (false, eval e X.env) :: starEach [] X.env := by rfl) : PI X tg (.Call (.Name "range" p) [e] [] pos) (iRng1 (tCons te tNil)) := pi_range1 hg B.range (pa_cons ha pa_nil hs) hs
theorem bInt (B : Bl X.mg) (ha : PE X e te) (hg : Gl X "int" := by rfl) (he : starEach [e] X.env = (false, eval e X.env) :: starEach [] X.env := by rfl) :
    PE X (.Call (.Name "int" p) [e] [] pos) (tCB (fun xs H Q => (∃ i, xs = [.int i] ∧ Q (.int i) H) ∨ ∃ k, xs = [.bl k] ∧ Q (.int (if k then 1 else 0)) H) (tCons te tNil)) :=
  pe_callTy call_int1 hg B.int (by decide +kernel) (pa_cons ha pa_nil he) (by decide) (by decide) he
end
end K27
/-! an order: its methods -/
namespace K27
open PySem L2 Evl
theorem nA : ¬ (("n" : Str) = "above") := by decide +kernel
def oF (n : Nat) (t : Addr) : List (Str × V) := putF "above" (.ref t) (putF "n" (nV n) [])
theorem oF_n (n : Nat) (t : Addr) : (oF n t).lookup ("n" : Str) = some (nV n) := by
  unfold oF
  rw [lookup_putF, if_neg nA, lookup_putF, if_pos rfl]
theorem oF_above (n : Nat) (t : Addr) : (oF n t).lookup ("above" : Str) = some (.ref t) := by
  unfold oF
  rw [lookup_putF, if_pos rfl]
theorem oF_no (n : Nat) (t : Addr) {m : Str} (h1 : ¬ m = "above") (h2 : ¬ m = "n") : (oF n t).lookup m = none := by
  unfold oF
  rw [lookup_putF, if_neg h1, lookup_putF, if_neg h2]
  rfl
/-- the class Order, as the top made it -/
structure OC (K : PySem.W.Frag) (mg : Str → Option Value) (CO : Addr) : Prop where
  cl : Cls K CO
  nN : NoAttr K CO "n"
  nA : NoAttr K CO "above"
  mro : PySem.W.mroIn K CO (.type "object") = some true
  ne : PySem.W.findIn K (.ref CO) "__ne__" = some (some (.builtin "object.__ne__"))
  most : ∃ t, mg "MOST" = some (.int 10 t)
  cc : PySem.W.findIn K (.ref CO) "__class__" = some (some (.builtin "object.__class__"))
  cg : PySem.W.specialIn K (.builtin "object.__class__") "__get__" = some (some (.builtin "getset_descriptor.__get__"))
  ct : PySem.W.takesIn K (.builtin "object.__class__") = some true
  mgO : mg "Order" = some (.ref CO)
  one : PySem.W.kitOne K (.ref CO) (.ref CO) = some true
/-- an order of n points at p; A its masks -/
structure OA (CO : Addr) (n : Nat) (A : List Nat) (p : Addr) (H : Hp) : Prop where
  ob : ∃ dx t, H p = some (.ins CO dx (oF n t)) ∧ H t = some (.tup (A.map nV))
  len : A.length = n
  le : n ≤ 10
  po : PO n (rel A)
theorem OA.mono {CO : Addr} {n : Nat} {A : List Nat} {p : Addr} {H H' : Hp} (o : OA CO n A p H) (e : Ex H H') : OA CO n A p H' :=
  ⟨let ⟨dx, t, h1, h2⟩ := o.ob; ⟨dx, t, e _ _ h1, e _ _ h2⟩, o.len, o.le, o.po⟩
theorem at_mask {A : List Nat} {x : Nat} (h : x < A.length) : atI (A.map nV) (x : Int) = some (nV (A.getD x 0)) := by
  refine atI_nat ?_
  rw [List.getElem?_map, List.getElem?_eq_getElem h, List.getD_eq_getElem?_getD, List.getElem?_eq_getElem h]
  rfl
section
variable {P : Program} {w : World} {K : PySem.W.Frag} {mg : Str → Option Value} {base : Heap} {σ : L2.St} {H : Hp} {CO : Addr}
theorem ev_n {te : TE} {p : Addr} {n : Nat} {A : List Nat} (T : OC K mg CO) (h : Ev te σ H (.ref p)) (o : OA CO n A p H) : Ev (tFld K te "n") σ H (nV n) := by
  obtain ⟨dx, t, h1, h2⟩ := o.ob
  exact ev_fld h h1 T.cl T.nN (oF_n n t)
/-- self.above[x] -/
theorem ev_mask {te tx : TE} {p : Addr} {n x : Nat} {A : List Nat} (T : OC K mg CO) (h : Ev te σ H (.ref p)) (o : OA CO n A p H) (hx : Ev tx σ H (nV x)) (hl : x < n) : Ev (tOp (rIxT K) (tFld K te "above") tx) σ H (nV (A.getD x 0)) := by
  obtain ⟨dx, t, h1, h2⟩ := o.ob
  exact ev_op (ev_fld h h1 T.cl T.nA (oF_above n t)) hx (rv_ixT (st_of h2) (at_mask (by rw [o.len]; exact hl)))
/-! ### size, less, at_most -/
abbrev GO := Nat × List Nat × Addr
abbrev spSize (CO : Addr) : Sp := SpG (γ := GO) (fun g vs H => vs = [.ref g.2.2] ∧ OA CO g.1 g.2.1 g.2.2 H) (fun g v _ => v = nV g.1)
theorem scSize : FnScope ["self"] ["self"] (defScope sOSize) := ⟨rfl, rfl, rfl, by decide +kernel, rfl, by decide +kernel, by decide +kernel⟩
theorem ok_size {f : Addr} {fd : FuncData} (F : Fun K "size" "Order.size" sOSize f fd) (T : OC K mg CO) : FnOk P w K mg base CX0 1 f fd ["self"] (spSize CO) := by
  refine F.ok scSize (fun vs H Q E h => ?_) (fun cdv A outer s H vs Q E hr h => ?_)
  · obtain ⟨g, ⟨rfl, _⟩, _⟩ := h
    rfl
  · obtain ⟨⟨n, A, p⟩, ⟨rfl, o⟩, k⟩ := h
    refine ⟨_, pss_one (ps_ret (pe_fld (pv 0) rfl)), ?_⟩
    exact s_ret (ev_n T (ev_var rfl) o) fun H1 e => k _ H1 e rfl
abbrev spLess (CO : Addr) : Sp := SpG (γ := GO × Nat × Nat) (fun g vs H => vs = [.ref g.1.2.2, nV g.2.1, nV g.2.2] ∧ OA CO g.1.1 g.1.2.1 g.1.2.2 H ∧ g.2.1 < g.1.1) (fun g v _ => v = .bl (rel g.1.2.1 g.2.1 g.2.2))
theorem scLess : FnScope ["self", "x", "y"] ["self", "x", "y"] (defScope sOLess) := ⟨rfl, rfl, rfl, by decide +kernel, rfl, by decide +kernel, by decide +kernel⟩
/-- has(self.above[x], y) -/
theorem ev_hasAt {te tx ty : TE} {p : Addr} {n x y : Nat} {A : List Nat} {E : XK} (T : OC K mg CO) (h : Ev te σ H (.ref p)) (o : OA CO n A p H) (hx : Ev tx σ H (nV x)) (hy : Ev ty σ H (nV y)) (hl : x < n) :
    Ev (tCall spHas [] E (tCons (tOp (rIxT K) (tFld K te "above") tx) (tCons ty tNil))) σ H (.bl (rel A x y)) :=
  (ep_callA (A.getD x 0, y) (ea_cons (ev_mask T h o hx hl) (ea_cons hy ea_nil)) fun _ _ => rfl).ev
theorem ok_less {f : Addr} {fd : FuncData} (F : Fun K "less" "Order.less" sOLess f fd) (T : OC K mg CO) (cHas : Cal P w K mg base 1 "has" ["bits", "x"] spHas) : FnOk P w K mg base CX0 2 f fd ["self", "x", "y"] (spLess CO) := by
  refine F.ok scLess (fun vs H Q E h => ?_) (fun cdv A outer s H vs Q E hr h => ?_)
  · obtain ⟨g, ⟨rfl, _⟩, _⟩ := h
    rfl
  · obtain ⟨⟨⟨n, A, p⟩, x, y⟩, ⟨rfl, o, hl⟩, k⟩ := h
    refine ⟨_, pss_one (ps_ret (pc cHas hr (pa_cons (pe_ix ix_tup (pe_fld (pv 0) rfl) (pv 1) (fun _ _ => rfl)) (pa_cons (pv 2) pa_nil)))), ?_⟩
    exact s_ret (ev_hasAt T (ev_var rfl) o (ev_var rfl) (ev_var rfl) hl) fun H1 e => k _ H1 e rfl
abbrev spAtMost (CO : Addr) : Sp := SpG (γ := GO × Nat × Nat) (fun g vs H => vs = [.ref g.1.2.2, nV g.2.1, nV g.2.2] ∧ OA CO g.1.1 g.1.2.1 g.1.2.2 H ∧ g.2.1 < g.1.1) (fun g v _ => v = .bl (decide (g.2.1 = g.2.2) || rel g.1.2.1 g.2.1 g.2.2))
theorem scAtMost : FnScope ["self", "x", "y"] ["self", "x", "y"] (defScope sOAtMost) := ⟨rfl, rfl, rfl, by decide +kernel, rfl, by decide +kernel, by decide +kernel⟩
theorem dec_nV (x y : Nat) : decide (nV x = nV y) = decide (x = y) := by
  rw [Bool.eq_iff_iff, decide_eq_true_iff, decide_eq_true_iff]
  constructor
  · intro h
    have := V.int.inj h
    omega
  · intro h
    rw [h]
theorem ok_atmost {f : Addr} {fd : FuncData} (F : Fun K "at_most" "Order.at_most" sOAtMost f fd) (T : OC K mg CO) (cHas : Cal P w K mg base 1 "has" ["bits", "x"] spHas) : FnOk P w K mg base CX0 2 f fd ["self", "x", "y"] (spAtMost CO) := by
  refine F.ok scAtMost (fun vs H Q E h => ?_) (fun cdv A outer s H vs Q E hr h => ?_)
  · obtain ⟨g, ⟨rfl, _⟩, _⟩ := h
    rfl
  · obtain ⟨⟨⟨n, A, p⟩, x, y⟩, ⟨rfl, o, hl⟩, k⟩ := h
    refine ⟨_, pss_one (ps_ret (pe_or (eqm (pv 1) (pv 2)) (pe_one (pc cHas hr (pa_cons (pe_ix ix_tup (pe_fld (pv 0) rfl) (pv 1) (fun _ _ => rfl)) (pa_cons (pv 2) pa_nil)))))), ?_⟩
    exact s_ret (ev_orV (ev_is (ev_op (ev_var rfl) (ev_var rfl) (rv_eq rfl)) (congrArg V.bl (dec_nV x y))) fun _ => ev_hasAt T (ev_var rfl) o (ev_var rfl) (ev_var rfl) hl) fun H1 e => k _ H1 e rfl
/-! ### below -/
def bl (n : Nat) (A : List Nat) (y : Nat) : Nat := orAll ((List.range n).filter fun x => rel A x y)
abbrev spBelow (CO : Addr) : Sp := SpG (γ := GO) (fun g vs H => vs = [.ref g.2.2] ∧ OA CO g.1 g.2.1 g.2.2 H) (fun g v H => ∃ t, v = .ref t ∧ H t = some (.tup ((List.range g.1).map fun y => nV (bl g.1 g.2.1 y))))
abbrev nBelow : List Str := ["self", "y", "x"]
theorem scBelow : FnScope nBelow ["self"] (defScope sOBelow) := ⟨rfl, rfl, rfl, by decide +kernel, rfl, by decide +kernel, by decide +kernel⟩
theorem eq_L1 {te : TE} {xs : List V} (h : EvL te σ H xs) : EvQ (tCons te tNil) σ H (fun vs H => ∃ p, vs = [.ref p] ∧ H p = some (.lst xs)) := fun H1 e Q q => h H1 e _ fun p H2 _ e2 h2 => q _ H2 e2 ⟨p, rfl, h2⟩
theorem ok_below {f : Addr} {fd : FuncData} (F : Fun K "below" "Order.below" sOBelow f fd) (T : OC K mg CO) (B : Bl mg) (cHas : Cal P w K mg base 1 "has" ["bits", "x"] spHas) (cSet : Cal P w K mg base 1 "set_of" ["points"] (spSetOf K)) :
    FnOk P w K mg base CX0 2 f fd ["self"] (spBelow CO) := by
  refine F.ok scBelow (fun vs H Q E h => ?_) (fun cdv A outer s H vs Q E hr h => ?_)
  · obtain ⟨g, ⟨rfl, _⟩, _⟩ := h
    rfl
  · obtain ⟨⟨n, A, p⟩, ⟨rfl, o⟩, k⟩ := h
    have hn : n ≤ 10 := o.le
    refine ⟨_, pss_one (ps_ret (bTup K B (pe_lc (own := [("y", 1)]) (g := gName 1) (tt := tYes) rfl scBelow.nd (wR1 B (fl K (pv 0)))
      (blkOk_by (N := nBelow) (sc := defScope sOBelow) (by decide +kernel)) (fun _ _ _ _ _ => gn 1 scBelow.nd) (fun _ _ _ _ _ => pts_nil)
      (fun _ _ _ _ _ => pc cSet hr (pa_cons (pe_lc (own := [("x", 2)]) (g := gName 2) rfl scBelow.nd (wR1 B (fl K (pv 0)))
          (blkOk_by (N := nBelow) (sc := relS _ (defScope sOBelow)) (by decide +kernel)) (fun _ _ _ _ _ => gn 2 scBelow.nd)
          (fun _ _ _ _ _ => pts_one (pt_val (pc cHas hr (pa_cons (ixt K (fl K (pv 0)) (pv 2)) (pa_cons (pv 1) pa_nil))))) (fun _ _ _ _ _ => pv 2)) pa_nil))))), ?_⟩
    refine s_retU (xs := (List.range n).map fun y => nV (bl n A y)) (eu_tupN (K := K) ?_) fun t H1 hp e1 h1 => k _ H1 e1 ⟨t, rfl, h1⟩
    rw [← given_all]
    refine el_lcR1 (n := (n : Int)) (fun _ => true) (fun y => nV (bl n A y)) (ea_cons (ev_n T (ev_var rfl) o) ea_nil) (by omega) (fun x => rfl) (fun i H1 e1 hi => et_yes) (fun y H1 e1 hy _ => ?_)
    have o1 := o.mono e1
    refine (ep_call ((List.range n).filter fun x => rel A x y) (eq_L1 (xs := ((List.range n).filter fun x => rel A x y).map nV) ?_) fun vs H2 e2 hv => ?_).ev
    · exact el_lcR1 (n := (n : Int)) (fun x => rel A x y) (fun x => nV x) (ea_cons (ev_n T (ev_var rfl) o1) ea_nil) (by omega) (fun x => rfl) (fun x H2 e2 hx => et_B (ev_hasAt T (ev_var rfl) (o1.mono e2) (ev_var rfl) (ev_var rfl) (by omega))) (fun x H2 e2 hx _ => ev_var rfl)
    · obtain ⟨q, rfl, hq⟩ := hv
      exact ⟨q, rfl, sq_of hq, fun x hx => by have := List.mem_range.mp (List.mem_filter.mp hx).1; omega⟩
end
end K27
/-! pairs; an order made -/
namespace K27
open PySem L2 Evl
/-- rs are tuples, those of ps -/
def PrR (H : Hp) (rs : List Addr) (ps : List (Nat × Nat)) : Prop := rs.length = ps.length ∧ ∀ (i : Nat) r (p : Nat × Nat), rs[i]? = some r → ps[i]? = some p → H r = some (.tup [nV p.1, nV p.2])
theorem PrR.mono {H H' : Hp} {rs : List Addr} {ps : List (Nat × Nat)} (h : PrR H rs ps) (e : Ex H H') : PrR H' rs ps := ⟨h.1, fun i r p a b => e _ _ (h.2 i r p a b)⟩
theorem PrR.nil {H : Hp} : PrR H [] [] := ⟨rfl, fun i r p h _ => by simp at h⟩
/-- a list, no tuple, is written -/
theorem PrR.upd {H : Hp} {rs : List Addr} {ps : List (Nat × Nat)} (h : PrR H rs ps) {l : Addr} {xs ys : List V} (hl : H l = some (.lst xs)) : PrR (L2.upd H l (.lst ys)) rs ps := ⟨h.1, fun i r p a b => by
  have z := h.2 i r p a b
  rw [upd_ne (ne_of z hl (by intro q; cases q))]
  exact z⟩
theorem PrR.push {H : Hp} {rs : List Addr} {ps : List (Nat × Nat)} (h : PrR H rs ps) {r : Addr} {p : Nat × Nat} (hr : H r = some (.tup [nV p.1, nV p.2])) : PrR H (rs ++ [r]) (ps ++ [p]) := by
  refine ⟨by rw [List.length_append, List.length_append, h.1]; rfl, fun i r' p' a b => ?_⟩
  rcases Nat.lt_or_ge i rs.length with q | q
  · rw [List.getElem?_append_left q] at a
    rw [List.getElem?_append_left (by rw [← h.1]; exact q)] at b
    exact h.2 i r' p' a b
  · rw [List.getElem?_append_right q] at a
    rw [List.getElem?_append_right (by rw [← h.1]; exact q)] at b
    have e0 : i - rs.length = 0 := by
      have := (List.getElem?_eq_some_iff.mp a).1
      simp at this
      omega
    rw [e0] at a
    rw [← h.1, e0] at b
    have e1 : r = r' := by simpa using a
    have e2 : p = p' := by simpa using b
    rw [← e1, ← e2]
    exact hr
theorem PrR.at_ {H : Hp} {rs : List Addr} {ps : List (Nat × Nat)} (h : PrR H rs ps) {i : Nat} {r : Addr} (hr : rs[i]? = some r) : ∃ p, ps[i]? = some p ∧ H r = some (.tup [nV p.1, nV p.2]) := by
  have hi : i < ps.length := by rw [← h.1]; exact (List.getElem?_eq_some_iff.mp hr).1
  exact ⟨ps[i], List.getElem?_eq_getElem hi, h.2 i r _ hr (List.getElem?_eq_getElem hi)⟩
/-- a list at l of such -/
def PL (H : Hp) (l : Addr) (ps : List (Nat × Nat)) : Prop := ∃ rs, H l = some (.lst (rs.map V.ref)) ∧ PrR H rs ps
def prs (n : Nat) (A : List Nat) (i : Nat) : List (Nat × Nat) := (List.range i).flatMap fun x => (mem n (A.getD x 0)).map fun y => (x, y)
theorem prs_succ (n : Nat) (A : List Nat) (i : Nat) : prs n A (i + 1) = prs n A i ++ (mem n (A.getD i 0)).map fun y => (i, y) := by
  unfold prs
  rw [List.range_succ, List.flatMap_append]
  simp
theorem prs_mem {n : Nat} {A : List Nat} (h : PO n (rel A)) (p : Nat × Nat) : p ∈ prs n A n ↔ rel A p.1 p.2 = true := by
  unfold prs
  rw [List.mem_flatMap]
  constructor
  · rintro ⟨x, hx, hy⟩
    obtain ⟨y, hy', e⟩ := List.mem_map.mp hy
    subst e
    exact (List.mem_filter.mp (show y ∈ (List.range n).filter (fun i => (A.getD x 0).testBit i) from hy')).2
  · intro hr
    have b := h.bd _ _ hr
    exact ⟨p.1, List.mem_range.mpr b.1, List.mem_map.mpr ⟨p.2, List.mem_filter.mpr ⟨List.mem_range.mpr b.2, hr⟩, rfl⟩⟩
theorem mem_len (n m : Nat) : (mem n m).length ≤ n := by
  unfold mem
  have h := List.length_filter_le (fun i => m.testBit i) (List.range n)
  rw [List.length_range] at h
  exact h
theorem prs_len (n : Nat) (A : List Nat) : ∀ i, (prs n A i).length ≤ i * n
  | 0 => by simp [prs]
  | i + 1 => by
    have := prs_len n A i
    have := mem_len n (A.getD i 0)
    rw [prs_succ, List.length_append, List.length_map, Nat.succ_mul]
    omega
section
variable {P : Program} {w : World} {K : PySem.W.Frag} {mg : Str → Option Value} {base : Heap} {σ : L2.St} {H : Hp} {CO : Addr}
/-! ### pairs -/
abbrev spPairs (CO : Addr) : Sp := SpG (γ := GO) (fun g vs H => vs = [.ref g.2.2] ∧ OA CO g.1 g.2.1 g.2.2 H) (fun g v H => ∃ t rs, v = .ref t ∧ H t = some (.tup (rs.map V.ref)) ∧ PrR H rs (prs g.1 g.2.1 g.1))
abbrev nPairs : List Str := ["self", "out", "x", "y"]
theorem scPairs : FnScope nPairs ["self"] (defScope sOPairs) := ⟨rfl, rfl, rfl, by decide +kernel, rfl, by decide +kernel, by decide +kernel⟩
theorem map_take {α β : Type} (f : α → β) (xs : List α) {j : Nat} {x : α} (h : xs[j]? = some x) : (xs.take (j + 1)).map f = (xs.take j).map f ++ [f x] := by
  rw [List.take_add_one, h, List.map_append]
  rfl
theorem ok_pairs {f : Addr} {fd : FuncData} (F : Fun K "pairs" "Order.pairs" sOPairs f fd) (T : OC K mg CO) (B : Bl mg) (cMem : Cal P w K mg base 1 "members" ["bits"] spMembers) : FnOk P w K mg base CX0 2 f fd ["self"] (spPairs CO) := by
  refine F.ok scPairs (fun vs H Q E h => ?_) (fun cdv A outer s H vs Q E hr h => ?_)
  · obtain ⟨g, ⟨rfl, _⟩, _⟩ := h
    rfl
  · obtain ⟨⟨n, A, p⟩, ⟨rfl, o⟩, k⟩ := h
    have hn : n ≤ 10 := o.le
    have hlenA : A.length = n := o.len
    refine ⟨_, pss_cons (st 1 scPairs.nd (pe_lst pa_nil)) (pss_cons (ps_for PassesOwn.never rfl (wR1 B (fl K (pv 0))) (gn 2 scPairs.nd)
      (pss_one (ps_for PassesOwn.never rfl (wTup K (pc cMem hr (pa_cons (ixt K (fl K (pv 0)) (pv 2)) pa_nil))) (gn 3 scPairs.nd) (pss_one (ps_expr (sApp K (pv 1) (pe_tup (pa_cons (pv 2) (pa_cons (pv 3) pa_nil)))))))))
      (pss_one (ps_ret (bTup K B (pv 1))))), ?_⟩
    refine q_asgL (el_lst ea_nil (by decide)) fun l H1 nl e1 h1 => ?_
    refine q_forR1 (n := (n : Int)) (ea_cons (ev_n T (ev_var rfl) (o.mono e1)) ea_nil) (by omega) (fun i σ' H' => ∃ v2 v3, σ' = [some (.ref p), some (.ref l), v2, v3] ∧ Ex H H' ∧ PL H' l (prs n A i))
      (fun H2 e2 => ⟨none, none, rfl, e1.trans e2, [], e2 _ _ h1, PrR.nil⟩) ?_ ?_
    · rintro i σ' H' hi ⟨v2, v3, rfl, e, rs, hl, hp⟩
      have hin : i < n := by omega
      have o' := o.mono e
      -- for y in members(self.above[x])
      refine (ep_callA (n, A.getD i 0) (ea_cons (ev_mask T (ev_var rfl) o' (ev_var rfl) hin) ea_nil) fun H2 e2 => ⟨rfl, o.po.mask i, by show n ≤ 1000; omega⟩ : EvP _ _ H' _) H' (Ex.refl H') _ fun v H2 e2 hv => ?_
      obtain ⟨t, rfl, ht⟩ := hv
      refine ⟨t, rfl, ⟨_, st_of ht⟩, for_tup (xs := (mem n (A.getD i 0)).map nV) (fun j σ' H' => ∃ v3, σ' = [some (.ref p), some (.ref l), some (nV i), v3] ∧ Ex H H' ∧ H' t = some (.tup ((mem n (A.getD i 0)).map nV)) ∧ PL H' l (prs n A i ++ ((mem n (A.getD i 0)).take j).map fun y => (i, y)))
        ⟨v3, rfl, e.trans e2, ht, rs, e2 _ _ hl, by rw [List.take_zero, List.map_nil, List.append_nil]; exact hp.mono e2⟩ (fun j σ' H' _ ⟨_, _, _, h, _⟩ => st_of h) ?_ ?_⟩
      · rintro j y σ' H3 hj ⟨v3', rfl, e3, ht3, rs3, hl3, hp3⟩
        obtain ⟨y, hy, rfl⟩ := get_map hj
        have hlen : (rs3.map V.ref).length < 100000 := by
          rw [List.length_map, hp3.1, List.length_append, List.length_map]
          have := prs_len n A i
          have h2 : i * n ≤ 10 * 10 := Nat.mul_le_mul (by omega) hn
          have h3 : ((mem n (A.getD i 0)).take j).length ≤ n := Nat.le_trans (List.length_take_le' _ _) (mem_len _ _)
          omega
        refine s_appU (xs := rs3.map V.ref) hl3 (ev_var rfl) (eu_tup (ea_cons (ev_var rfl) (ea_cons (ev_var rfl) ea_nil)) (by show 2 ≤ 100000; decide)) hlen fun r H4 nr e4 hr4 => ?_
        have hl4 := e4 _ _ hl3
        refine ⟨_, rfl, Ex.mut (e3.trans e4) nl, ?_, rs3 ++ [r], ?_, ?_⟩
        · rw [upd_ne (ne_of (e4 _ _ ht3) hl4 (by intro q; cases q))]
          exact e4 _ _ ht3
        · rw [upd_same, List.map_append]
          rfl
        · rw [map_take (fun y => (i, y)) _ hy, ← List.append_assoc]
          exact ((hp3.mono e4).upd hl4).push (by
            rw [upd_ne (ne_of hr4 hl4 (by intro q; cases q))]
            exact hr4)
      · rintro σ' H3 ⟨v3', rfl, e3, ht3, rs3, hl3, hp3⟩
        refine ⟨_, _, rfl, e3, rs3, hl3, ?_⟩
        rw [prs_succ]
        have et : (mem n (A.getD i 0)).take ((mem n (A.getD i 0)).map nV).length = mem n (A.getD i 0) := by rw [List.length_map, List.take_length]
        rw [et] at hp3
        exact hp3
    · rintro σ' H' ⟨v2, v3, rfl, e, rs, hl, hp⟩
      rw [Int.toNat_natCast] at hp
      refine s_retU (eu_tupL (K := K) (ev_var rfl) (sq_of hl)) fun t H2 nt e2 ht => k _ H2 (e.trans e2) ⟨t, rs, rfl, ht, hp.mono e2⟩
end
end K27
/-! _checked_pairs -/
namespace K27
open PySem L2 Evl
section
variable {P : Program} {w : World} {K : PySem.W.Frag} {mg : Str → Option Value} {base : Heap} {σ : L2.St} {H : Hp} {CO : Addr}
theorem ev_isi2 {x : V} {c d t : String} {b : Bool} {te tc td : TE} (h : Ev te σ H x) (hc : Ev tc σ H (.ty c)) (hd : Ev td σ H (.ty d)) (ty : ∀ H1, Ex H H1 → TyX K H1 x (.type t)) (e : PySem.W.kitAny K (.type t) [.type c, .type d] = some b) :
    Ev (tCB (rIsiT K) (tCons te (tCons (tTup (tCons tc (tCons td tNil))) tNil))) σ H (.bl b) := fun H1 e1 Q q =>
  h H1 e1 _ fun H2 e2 => eu_tup (ea_cons (hc.mono (e1.trans e2)) (ea_cons (hd.mono (e1.trans e2)) ea_nil)) (by show 2 ≤ 100000; decide) H2 (Ex.refl H2) _ fun p H3 np e3 h3 =>
    ⟨x, p, _, .type t, [.type c, .type d], b, rfl, h3, .cons (.ty c) (.cons (.ty d) .nil), ty H3 ((e1.trans e2).trans e3), e, q H3 (e2.trans e3)⟩
theorem kit_list : PySem.W.kitAny K (.type "list") [.type "list", .type "tuple"] = some true := kitAny_cons (b := true) (kit_ty (by decide +kernel)) (fun q => nomatch q) (fun _ => rfl)
theorem kit_list2 : PySem.W.kitAny K (.type "list") [.type "tuple", .type "list"] = some true := kitAny_cons (b := false) (kit_ty (by decide +kernel)) (fun _ => kitAny_cons (b := true) (kit_ty (by decide +kernel)) (fun q => nomatch q) (fun _ => rfl)) (fun q => nomatch q)
theorem ev_lt {ta tb : TE} {i j : Int} (ha : Ev ta σ H (.int i)) (hb : Ev tb σ H (.int j)) : Ev (tOp (rI0 fun i j => .bl (decide (i < j))) ta tb) σ H (.bl (decide (i < j))) := ev_op ha hb rv_I0
theorem ev_ge {ta tb : TE} {i j : Int} (ha : Ev ta σ H (.int i)) (hb : Ev tb σ H (.int j)) : Ev (tOp (rI0 fun i j => .bl (decide (j ≤ i))) ta tb) σ H (.bl (decide (j ≤ i))) := ev_op ha hb rv_I0
theorem ev_isint {te : TE} {i : Int} {E : XK} (h : Ev te σ H (.int i)) : Ev (tCall spIsInt [] E (tCons te tNil)) σ H (.bl true) := (ep_callA i (ea_cons h ea_nil) fun _ _ => rfl).ev
theorem ev_lenT {p : Addr} {xs : List V} {te : TE} (ha : Ev te σ H (.ref p)) (h : SqT K H p xs) : Ev (tCB (rLenS K) (tCons te tNil)) σ H (.int (xs.length : Int)) := fun H1 e Q q =>
  ha H1 e _ fun H2 e2 => ⟨p, xs, rfl, Or.inr (ex_t (e.trans e2) h), q H2 e2⟩
/-- a statement, then the rest, with a word between them -/
theorem q_cut' {D : Ends} {tu tz : TS} {M : L2.St → Hp → Prop} (h : tu { D with nx := M } σ H) (k : ∀ σ' H', M σ' H' → tz D σ' H') (mono : True := trivial) : tCut tu tz D σ H := ⟨M, h, k⟩
structure GP where
  n : Nat
  a : Addr
  rs : List Addr
  ps : List (Nat × Nat)
abbrev spChecked (K : PySem.W.Frag) : Sp := SpG (γ := GP) (fun g vs H => vs = [nV g.n, .ref g.a] ∧ H g.a = some (.lst (g.rs.map V.ref)) ∧ PrR H g.rs g.ps ∧ (∀ p, p ∈ g.ps → p.1 < g.n ∧ p.2 < g.n) ∧ g.rs.length ≤ 1000) (fun g v H => ∃ l, v = .ref l ∧ H l = some (.lst (g.rs.map V.ref)))
abbrev nChecked : List Str := ["n", "pairs", "out", "pair", "x"]
theorem scChecked : FnScope nChecked ["n", "pairs"] (defScope sChecked) := ⟨rfl, rfl, rfl, by decide +kernel, rfl, by decide +kernel, by decide +kernel⟩
theorem ok_checked {f : Addr} {fd : FuncData} (F : Fun K "_checked_pairs" "_checked_pairs" sChecked f fd) (B : Bl mg) (cInt : Cal P w K mg base 1 "is_integer" ["value"] spIsInt) : FnOk P w K mg base CX0 2 f fd ["n", "pairs"] (spChecked K) := by
  refine F.ok scChecked (fun vs H Q E h => ?_) (fun cdv A outer s H vs Q E hr h => ?_)
  · obtain ⟨g, ⟨rfl, _⟩, _⟩ := h
    rfl
  · obtain ⟨⟨n, a, rs, ps⟩, ⟨rfl, ha, hp, hlt, hl⟩, k⟩ := h
    dsimp only at ha hp hlt hl
    refine ⟨_, pss_cons (ps_if (pt_not (pt_val (bIsiT K B (pa_cons (pv 1) (pa_cons (pe_tup (pa_cons (pe_bltn (v := .ty "list") (by rfl) B.list (by decide +kernel) rfl) (pa_cons (pe_bltn (v := .ty "tuple") (by rfl) B.tuple (by decide +kernel) rfl) pa_nil))) pa_nil))))) (pss_one ps_never) pss_nil)
      (pss_cons (st 2 scChecked.nd (pe_lst pa_nil))
      (pss_cons (ps_for PassesOwn.never rfl (wList K (pv 1)) (gn 3 scChecked.nd)
        (pss_cons (ps_if (PW.pt (pw_or (pt_not (pt_val (bIsi K B (pa_cons (pv 3) (pa_cons (pe_bltn (v := .ty "tuple") (by rfl) B.tuple (by decide +kernel) rfl) pa_nil))))) (pw_or1 (pt_cmpR op_ne (bLen K B (pv 3)) pe_int (nomark _))))) (pss_one ps_never) pss_nil)
        (pss_cut (ps_for PassesOwn.never rfl (wTup K (pv 3)) (gn 4 scChecked.nd)
          (pss_one (ps_if (PW.pt (pw_or (pt_not (pt_val (pc cInt hr (pa_cons (pv 4) pa_nil)))) (pw_or (pt_cmpR op_lt (pv 4) pe_int (nomark _)) (pw_or1 (pt_cmpR op_ge (pv 4) (pv 0) (nomark _)))))) (pss_one ps_never) pss_nil)))
        (pss_one (ps_expr (sApp K (pv 2) (pv 3)))))))
      (pss_one (ps_ret (pv 2))))), ?_⟩
    refine q_when (b := false) (et_not (a := true) (et_B (ev_isi2 (ev_var rfl) ev_c ev_c (fun H1 e1 => .base (.lst (e1 _ _ ha))) kit_list))) (fun q => nomatch q) fun _ H1 e1 => ?_
    refine q_asgL (el_lst ea_nil (by decide)) fun l H2 nl e2 h2 => ?_
    refine q_forLn (a := a) (xs := rs.map V.ref) (ev_var rfl) (sq_of (e2 _ _ (e1 _ _ ha))) (fun i σ' H' => ∃ v3 v4, σ' = [some (nV n), some (.ref a), some (.ref l), v3, v4] ∧ Ex H H' ∧ H' l = some (.lst ((rs.take i).map V.ref)))
      (fun H3 e3 => ⟨none, none, rfl, (e1.trans e2).trans e3, e3 _ _ h2⟩) (fun i σ' H' _ ⟨_, _, _, e, _⟩ => sq_of (e _ _ ha)) ?_ ?_
    · rintro i y σ' H3 hi ⟨v3, v4, rfl, e3, h3⟩
      obtain ⟨r, hir, rfl⟩ := get_map hi
      obtain ⟨⟨x, y⟩, hps, hrt⟩ := hp.at_ hir
      have b := hlt _ (List.mem_of_getElem? hps)
      have hr3 := e3 _ _ hrt
      refine q_when (b := false) (et_is (et_or (a := false) (b := false) (et_not (a := true) (et_B (ev_isi (ev_var rfl) ev_c (fun H4 e4 => .base (.tup (e4 _ _ hr3))) (by decide +kernel)))) (fun _ => et_test (ev_is (ev_op (ev_lenT (ev_var rfl) (st_of hr3)) ev_c (rv_ne rfl)) rfl))) rfl) (fun q => nomatch q) fun _ H4 e4 => ?_
      refine q_cut' (M := fun σ' H' => ∃ v4, σ' = [some (nV n), some (.ref a), some (.ref l), some (.ref r), v4] ∧ Ex H4 H') ?_ ?_
      · refine s_forT (a := r) (xs := [nV x, nV y]) (ev_var rfl) (st_of (e4 _ _ hr3)) (fun j σ' H' => ∃ v4, σ' = [some (nV n), some (.ref a), some (.ref l), some (.ref r), v4] ∧ Ex H4 H') (fun H5 e5 => ⟨v4, rfl, e5⟩) (fun j σ' H' _ ⟨_, _, e⟩ => st_of (e _ _ (e4 _ _ hr3))) ?_ ?_
        · rintro j z σ' H5 hj ⟨v4', rfl, e5⟩
          obtain ⟨u, hu, rfl⟩ : ∃ u : Nat, u < n ∧ z = nV u := by
            match j, hj with
            | 0, hj => exact ⟨x, b.1, (Option.some.inj hj).symm⟩
            | 1, hj => exact ⟨y, b.2, (Option.some.inj hj).symm⟩
            | j + 2, hj => simp at hj
          refine s_when (b := false) (et_is (et_or (a := false) (b := false) (et_not (a := true) (et_B (ev_isint (ev_var rfl)))) (fun _ => et_or (a := false) (b := false) (et_test (ev_is (ev_lt (ev_var rfl) ev_c) (congrArg V.bl (decide_eq_false (by omega))))) (fun _ => et_test (ev_is (ev_ge (ev_var rfl) (ev_var rfl)) (congrArg V.bl (decide_eq_false (by omega))))))) rfl) (fun q => nomatch q) fun _ H6 e6 => ?_
          exact ⟨_, rfl, e5.trans e6⟩
        · rintro σ' H5 ⟨v4', rfl, e5⟩
          exact ⟨_, rfl, e5⟩
      · rintro σ' H5 ⟨v4', rfl, e5⟩
        have hl5 := e5 _ _ (e4 _ _ h3)
        refine s_app (xs := (rs.take i).map V.ref) hl5 (ev_var rfl) (ev_var rfl) (by rw [List.length_map]; have := List.length_take_le' i rs; omega) fun H6 e6 => ⟨_, _, rfl, Ex.mut (((e3.trans e4).trans e5).trans e6) (fresh_back e1 nl), ?_⟩
        rw [upd_same, map_take V.ref rs hir]
    · rintro σ' H3 ⟨v3, v4, rfl, e3, h3⟩
      rw [List.length_map, List.take_length] at h3
      exact s_ret (ev_var rfl) fun H4 e4 => k _ H4 (e3.trans e4) ⟨l, rfl, e4 _ _ h3⟩
end
end K27
/-! _closed, Order.__init__, Order.__eq__ -/
namespace K27
open PySem L2 Evl
theorem set_nV (A : List Nat) (i m : Nat) : (A.map nV).set i (nV m) = (A.set i m).map nV := List.map_set.symm
theorem rep_zero (n : Nat) : (List.replicate n [nV 0]).flatten = (List.replicate n 0).map nV := by
  induction n with
  | zero => rfl
  | succ n ih => rw [List.replicate_succ, List.flatten_cons, ih, List.replicate_succ, List.map_cons]; rfl
section
variable {P : Program} {w : World} {K : PySem.W.Frag} {mg : Str → Option Value} {base : Heap} {σ : L2.St} {H : Hp} {CO : Addr}
structure GC where
  n : Nat
  a : Addr
  rs : List Addr
  ps : List (Nat × Nat)
  im : List Nat
/-- the pairs say what the row im says -/
structure Drawn (n : Nat) (im : List Nat) (ps : List (Nat × Nat)) : Prop where
  le : n ≤ 10
  nd : im.Nodup
  lt : ∀ v, v ∈ im → v < n
  bf : ∀ p, p ∈ ps → Bef im p.1 p.2
theorem Drawn.plt {n : Nat} {im : List Nat} {ps : List (Nat × Nat)} (d : Drawn n im ps) (p : Nat × Nat) (h : p ∈ ps) : p.1 < n ∧ p.2 < n := by
  obtain ⟨j, i, _, e1, e2⟩ := d.bf p h
  exact ⟨d.lt _ (List.mem_of_getElem? e1), d.lt _ (List.mem_of_getElem? e2)⟩
abbrev spClosed (K : PySem.W.Frag) : Sp := SpG (γ := GC) (fun g vs H => vs = [nV g.n, .ref g.a] ∧ H g.a = some (.lst (g.rs.map V.ref)) ∧ PrR H g.rs g.ps ∧ Drawn g.n g.im g.ps) (fun g v H => ∃ t A, v = .ref t ∧ H t = some (.tup (A.map nV)) ∧ A.length = g.n ∧ PO g.n (rel A))
abbrev nClosed : List Str := ["n", "pairs", "above", "x", "y"]
theorem scClosed : FnScope nClosed ["n", "pairs"] (defScope sClosed) := ⟨rfl, rfl, rfl, by decide +kernel, rfl, by decide +kernel, by decide +kernel⟩
theorem ev_rep {ta tb : TE} {n : Nat} (ha : EvL ta σ H [nV 0]) (hb : ∀ H1, Ex H H1 → Ev tb σ H1 (nV n)) (hn : n ≤ 1000) : EvL (tOp rRep ta tb) σ H ((List.replicate n 0).map nV) := fun H1 e Q q =>
  ha H1 e _ fun p H2 np e2 h2 => hb H2 (e.trans e2) H2 (Ex.refl H2) _ fun H3 e3 => ⟨p, (n : Int), [nV 0], rfl, rfl, e3 _ _ h2, by omega, by omega, by rw [Int.toNat_natCast]; show 1 * n ≤ sizeLine; exact sz_of (by omega), fun l nl => by
    rw [Int.toNat_natCast, rep_zero]
    exact q l _ (fresh_back (e2.trans e3) nl) ((e2.trans e3).trans (Ex.new nl)) upd_same⟩
/-- xs[x] of a list of masks -/
theorem ev_mAt {ta tb : TE} {l : Addr} {A : List Nat} {x : Nat} (ha : Ev ta σ H (.ref l)) (hb : Ev tb σ H (nV x)) (hl : H l = some (.lst (A.map nV))) (hx : x < A.length) : Ev (tOp (rIxL K) ta tb) σ H (nV (A.getD x 0)) :=
  ev_op ha hb (rv_ixL (sq_of hl) (at_mask hx))
theorem ok_closed {f : Addr} {fd : FuncData} (F : Fun K "_closed" "_closed" sClosed f fd) (B : Bl mg) (cHas : Cal P w K mg base 1 "has" ["bits", "x"] spHas) : FnOk P w K mg base CX0 2 f fd ["n", "pairs"] (spClosed K) := by
  refine F.ok scClosed (fun vs H Q E h => ?_) (fun cdv A outer s H vs Q E hr h => ?_)
  · obtain ⟨g, ⟨rfl, _⟩, _⟩ := h
    rfl
  · obtain ⟨⟨n, a, rs, ps, im⟩, ⟨rfl, ha, hp, hd⟩, k⟩ := h
    dsimp only at ha hp hd
    have hn := hd.le
    refine ⟨_, pss_cons (st 2 scClosed.nd (pe_op op_rep (pe_lst (pa_cons pe_int pa_nil)) (pv 0)))
      (pss_cut (ps_for PassesOwn.never rfl (wList K (pv 1)) (gPair K rfl (pgs_cons (gn 3 scClosed.nd) (pgs_cons (gn 4 scClosed.nd) pgs_nil)))
        (pss_one (ps_asg (pe_op op_or (ixl K (pv 2) (pv 3)) (pe_op op_shl pe_int (pv 4))) (pg_sub (pv 2) (pv 3) set_list))))
      (pss_cut (ps_for PassesOwn.never rfl (wR1 B (pv 0)) (gn 4 scClosed.nd)
        (pss_one (ps_for PassesOwn.never rfl (wR1 B (pv 0)) (gn 3 scClosed.nd)
          (pss_one (ps_if (pt_val (pc cHas hr (pa_cons (ixl K (pv 2) (pv 3)) (pa_cons (pv 4) pa_nil)))) (pss_one (ps_asg (pe_op op_or (ixl K (pv 2) (pv 3)) (ixl K (pv 2) (pv 4))) (pg_sub (pv 2) (pv 3) set_list))) pss_nil)))))
      (pss_cut (ps_for PassesOwn.never rfl (wR1 B (pv 0)) (gn 3 scClosed.nd)
        (pss_one (ps_if (pt_val (pc cHas hr (pa_cons (ixl K (pv 2) (pv 3)) (pa_cons (pv 3) pa_nil)))) (pss_one ps_never) pss_nil)))
      (pss_one (ps_ret (bTup K B (pv 2))))))), ?_⟩
    refine q_asgL (ev_rep (n := n) (el_lst (ea_cons ev_c ea_nil) (by decide)) (fun H1 e1 => ev_var rfl) (by omega)) fun l H1 nl e1 h1 => ?_
    -- for x, y in pairs
    refine q_cut' (M := fun σ' H' => ∃ v3 v4 A, σ' = [some (nV n), some (.ref a), some (.ref l), v3, v4] ∧ Ex H H' ∧ H' l = some (.lst (A.map nV)) ∧ Cl n im A) ?_ ?_
    · refine s_forL (a := a) (xs := rs.map V.ref) (ev_var rfl) (sq_of (e1 _ _ ha)) (fun i σ' H' => ∃ v3 v4 A, σ' = [some (nV n), some (.ref a), some (.ref l), v3, v4] ∧ Ex H H' ∧ H' l = some (.lst (A.map nV)) ∧ Cl n im A)
        (fun H2 e2 => ⟨none, none, _, rfl, e1.trans e2, e2 _ _ h1, Cl.new n im⟩) (fun i σ' H' _ ⟨_, _, _, _, e, _⟩ => sq_of (e _ _ ha)) ?_ ?_
      · rintro i y σ' H2 hi ⟨v3, v4, A, rfl, e2, h2, c⟩
        obtain ⟨r, hir, rfl⟩ := get_map hi
        obtain ⟨⟨x, y⟩, hps, hrt⟩ := hp.at_ hir
        have hm := List.mem_of_getElem? hps
        have b := hd.plt _ hm
        have bf := hd.bf _ hm
        dsimp only at b bf
        refine ⟨r, [nV x, nV y], rfl, st_of (e2 _ _ hrt), rfl, nV x, [nV y], rfl, nV y, [], rfl, rfl, ?_⟩
        refine s_setL (l := l) (xs := A.map nV) (j := x) (v := nV (A.getD x 0 ||| 2 ^ y)) h2 (ev_is (ev_op (ev_mAt (ev_var rfl) (ev_var rfl) h2 (by rw [c.len]; exact b.1)) (ev_op ev_c (ev_var rfl) (rv_I (C := CPow) ⟨Int.natCast_nonneg y, by omega, by decide⟩)) rv_I0) ?_) (ev_var rfl) (ev_var rfl) (by rw [List.length_map, c.len]; exact b.1) fun H3 e3 => ?_
        · rw [shl_nat, or_nat]
        · refine ⟨_, _, A.set x (A.getD x 0 ||| 2 ^ y), rfl, Ex.mut (e2.trans e3) nl, ?_, c.add b.1 bf⟩
          rw [upd_same, set_nV]
      · rintro σ' H2 ⟨v3, v4, A, rfl, e2, h2, c⟩
        exact ⟨_, _, _, rfl, e2, h2, c⟩
    rintro σ' H2 ⟨v3, v4, A, rfl, e2, h2, c⟩
    -- for y in range(n): for x in range(n)
    refine q_cut' (M := fun σ' H' => ∃ v3 v4 A, σ' = [some (nV n), some (.ref a), some (.ref l), v3, v4] ∧ Ex H H' ∧ H' l = some (.lst (A.map nV)) ∧ Thru n im A n) ?_ ?_
    · refine s_forR1 (n := (n : Int)) (ea_cons (ev_var rfl) ea_nil) (by omega) (fun i σ' H' => ∃ v3 v4 A, σ' = [some (nV n), some (.ref a), some (.ref l), v3, v4] ∧ Ex H H' ∧ H' l = some (.lst (A.map nV)) ∧ Thru n im A i)
        (fun H3 e3 => ⟨_, _, A, rfl, e2.trans e3, e3 _ _ h2, Thru.start c⟩) ?_ ?_
      · rintro y σ' H3 hy ⟨v3, v4, A0, rfl, e3, h3, t0⟩
        refine s_forR1 (n := (n : Int)) (ea_cons (ev_var rfl) ea_nil) (by omega) (fun i σ' H' => ∃ v3 A, σ' = [some (nV n), some (.ref a), some (.ref l), v3, some (nV y)] ∧ Ex H H' ∧ H' l = some (.lst (A.map nV)) ∧ Half n A0 y i A)
          (fun H4 e4 => ⟨_, A0, rfl, e3.trans e4, e4 _ _ h3, Half.start t0.cl.len⟩) ?_ ?_
        · rintro x σ' H4 hx ⟨v3, A, rfl, e4, h4, hf⟩
          have hxn : x < n := by omega
          have hyn : y < n := by omega
          have lx : x < A.length := by rw [hf.len]; exact hxn
          have ly : y < A.length := by rw [hf.len]; exact hyn
          refine s_when (b := rel A x y) (et_B ((ep_callA (A.getD x 0, y) (ea_cons (ev_mAt (K := K) (ev_var rfl) (ev_var rfl) h4 lx) (ea_cons (ev_var rfl) ea_nil)) fun _ _ => rfl).ev)) (fun hb H5 e5 => ?_) (fun hb H5 e5 => ?_)
          · have h5 := e5 _ _ h4
            refine s_setL (l := l) (xs := A.map nV) (j := x) (v := nV (A.getD x 0 ||| A.getD y 0)) h5 (ev_is (ev_op (ev_mAt (ev_var rfl) (ev_var rfl) h5 lx) (ev_mAt (ev_var rfl) (ev_var rfl) h5 ly) rv_I0) (congrArg V.int (or_nat _ _))) (ev_var rfl) (ev_var rfl) (by rw [List.length_map]; exact lx) fun H6 e6 => ?_
            refine ⟨_, A.set x (A.getD x 0 ||| A.getD y 0), rfl, Ex.mut ((e4.trans e5).trans e6) nl, ?_, hf.turnT hxn hb⟩
            rw [upd_same, set_nV]
          · exact ⟨_, A, rfl, e4.trans e5, e5 _ _ h4, hf.turnF hb⟩
        · rintro σ' H4 ⟨v3, A, rfl, e4, h4, hf⟩
          rw [Int.toNat_natCast] at hf
          exact ⟨_, _, A, rfl, e4, h4, t0.next hd.nd hf⟩
      · rintro σ' H3 ⟨v3, v4, A, rfl, e3, h3, t⟩
        rw [Int.toNat_natCast] at t
        exact ⟨_, _, A, rfl, e3, h3, t⟩
    rintro σ' H3 ⟨v3, v4, A, rfl, e3, h3, t⟩
    have po := t.po hd.nd hd.lt
    have lA := t.cl.len
    -- for x in range(n): no point above itself
    refine q_cut' (M := fun σ' H' => ∃ v3 v4, σ' = [some (nV n), some (.ref a), some (.ref l), v3, v4] ∧ Ex H3 H') ?_ ?_
    · refine s_forR1 (n := (n : Int)) (ea_cons (ev_var rfl) ea_nil) (by omega) (fun i σ' H' => ∃ v3 v4, σ' = [some (nV n), some (.ref a), some (.ref l), v3, v4] ∧ Ex H3 H') (fun H4 e4 => ⟨_, _, rfl, e4⟩) ?_ ?_
      · rintro x σ' H4 hx ⟨v3, v4, rfl, e4⟩
        refine s_when (b := false) (et_B (ev_is ((ep_callA (A.getD x 0, x) (ea_cons (ev_mAt (K := K) (ev_var rfl) (ev_var rfl) (e4 _ _ h3) (by rw [lA]; omega)) (ea_cons (ev_var rfl) ea_nil)) fun _ _ => rfl).ev) (congrArg V.bl (po.irr x)))) (fun q => nomatch q) (fun _ H5 e5 => ?_)
        exact ⟨_, _, rfl, e4.trans e5⟩
      · rintro σ' H4 ⟨v3, v4, rfl, e4⟩
        exact ⟨_, _, rfl, e4⟩
    rintro σ' H4 ⟨v3, v4, rfl, e4⟩
    exact s_retU (eu_tupL (K := K) (ev_var rfl) (sq_of (e4 _ _ h3))) fun t H5 nt e5 ht => k _ H5 ((e3.trans e4).trans e5) ⟨t, A, rfl, ht, lA, po⟩
end
end K27
/-! Order.__init__, Order.__eq__, check_same; tuples of ints compared -/
namespace K27
open PySem L2 Evl
/-! ### tuples of ints as data -/
def dI (ns : List Int) : PyData := .tuple (ns.map PyData.int)
theorem dI_can : ∀ ns : List Int, PyData.canLayAll0 (ns.map PyData.int) = true
  | [] => rfl
  | n :: r => by
    rw [List.map_cons]
    unfold PyData.canLayAll0
    rw [dI_can r, Bool.and_true]
    rfl
theorem dI_depth : ∀ ns : List Int, PyData.depthAll (ns.map PyData.int) ≤ 1
  | [] => Nat.zero_le _
  | n :: r => by
    rw [List.map_cons]
    unfold PyData.depthAll
    have h1 := dI_depth r
    have h2 : (PyData.int n).depth ≤ 1 := by unfold PyData.depth; omega
    omega
theorem dI_shaped (ns : List Int) : SeqAt.shaped (dI ns) = true := by
  have h := dI_depth ns
  have e : PyData.canLay0 (dI ns) = true := dI_can ns
  have d : (dI ns).depth ≤ 64 := by
    unfold dI PyData.depth
    omega
  unfold SeqAt.shaped
  rw [e, decide_eq_true d]
  rfl
theorem dI_refl (ns : List Int) : PyData.eqv (dI ns) (dI ns) = true := SeqAt.eqv_refl _ (dI_can ns)
section
variable {P : Program} {w : World} {K : PySem.W.Frag} {mg : Str → Option Value} {base : Heap} {σ : L2.St} {H : Hp} {CO : Addr}
theorem dp_all : ∀ ns : List Int, DpAll K H (ns.map V.int) (ns.map PyData.int)
  | [] => .nil
  | n :: r => .cons (.int n) (dp_all r)
theorem dp_ints {t : Addr} {ns : List Int} (h : SqT K H t (ns.map V.int)) : Dp K H (.ref t) (dI ns) := .tup h (dp_all ns)
/-- == of tuples of the same ints -/
theorem rv_eqT {t u : Addr} {ns : List Int} (h : SqT K H t (ns.map V.int)) (h' : SqT K H u (ns.map V.int)) : RV (rEqD K) (.ref t) (.ref u) H (.bl true) := fun H1 e Q q =>
  ⟨dI ns, dI ns, dp_ints (ex_t e h), dp_ints (ex_t e h'), dI_shaped ns, dI_shaped ns, by rw [dI_refl]; exact q H1 (Ex.refl H1)⟩
theorem rv_neT {t u : Addr} {ns : List Int} (h : SqT K H t (ns.map V.int)) (h' : SqT K H u (ns.map V.int)) : RV (rNeD K) (.ref t) (.ref u) H (.bl false) := fun H1 e Q q =>
  ⟨dI ns, dI ns, dp_ints (ex_t e h), dp_ints (ex_t e h'), dI_shaped ns, dI_shaped ns, by rw [dI_refl]; exact q H1 (Ex.refl H1)⟩
theorem map_nV (A : List Nat) : A.map nV = (A.map fun m : Nat => (m : Int)).map V.int := by
  rw [List.map_map]
  rfl
/-! ### Order.__eq__ of an order and itself -/
abbrev spOEq (CO : Addr) : Sp := SpG (γ := GO) (fun g vs H => vs = [.ref g.2.2, .ref g.2.2] ∧ OA CO g.1 g.2.1 g.2.2 H) (fun g v _ => v = .bl true)
theorem scOEq : FnScope ["self", "other"] ["self", "other"] (defScope sOEq) := ⟨rfl, rfl, rfl, by decide +kernel, rfl, by decide +kernel, by decide +kernel⟩
theorem ok_oeq {f : Addr} {fd : FuncData} (F : Fun K "__eq__" "Order.__eq__" sOEq f fd) (T : OC K mg CO) (B : Bl mg) : FnOk P w K mg base CX0 1 f fd ["self", "other"] (spOEq CO) := by
  refine F.ok scOEq (fun vs H Q E h => ?_) (fun cdv A outer s H vs Q E hr h => ?_)
  · obtain ⟨g, ⟨rfl, _⟩, _⟩ := h
    rfl
  · obtain ⟨⟨n, A, p⟩, ⟨rfl, o⟩, k⟩ := h
    obtain ⟨dx, t, h1, h2⟩ := o.ob
    have hu := hr.units
    refine ⟨_, pss_one (ps_ret (pe_and (bIsi K B (pa_cons (pv 1) (pa_cons (pe_glob (v := .ref CO) (by rfl) T.mgO rfl) pa_nil)))
      (pe_and (eqm (fl K (pv 0)) (fl K (pv 1))) (pe_one (pe_cmpR (op_eqD hu) (fl K (pv 0)) (fl K (pv 1)) (nomark _)))))), ?_⟩
    have e1 : Ev (tCB (rIsi K) (tCons (tVar 1) (tCons (tC (.ref CO)) tNil))) (L2.start ["self", "other"] [.ref p, .ref p]) H (.bl true) :=
      ev_cb (ea_cons (ev_var rfl) (ea_cons ev_c ea_nil)) fun H1 e1 Q q => ⟨.ref p, .ref CO, .ref CO, .ref CO, true, rfl, .own CO, .base (.ins (e1 _ _ h1) T.cl T.cc T.cg T.ct T.mro), T.one, q H1 (Ex.refl H1)⟩
    refine s_ret (v := .bl true) (ev_andV (a := true) (b := true) e1 fun _ => ev_andV (a := true) (b := true) (ev_is (ev_op (ev_n T (ev_var rfl) o) (ev_n T (ev_var rfl) o) (rv_eq rfl)) (congrArg V.bl (decide_eq_true rfl))) fun _ =>
      ev_op (ev_fld (ev_var rfl) h1 T.cl T.nA (oF_above n t)) (ev_fld (ev_var rfl) h1 T.cl T.nA (oF_above n t)) (rv_eqT (ns := A.map fun m : Nat => (m : Int)) (by rw [← map_nV]; exact st_of h2) (by rw [← map_nV]; exact st_of h2))) fun H1 e => k _ H1 e rfl
/-- the call of _closed, its list made on the way -/
theorem ep_callC {E : XK} {n : Nat} {rs : List Addr} {ps : List (Nat × Nat)} {im : List Nat} {H0 : Hp} {ta : TA} (hd : Drawn n im ps) (hp : PrR H0 rs ps) (e0 : Ex H0 H)
    (h : EvQ ta σ H (fun vs H2 => ∃ v r, vs = v :: r ∧ v = nV n ∧ ∃ v' r', r = v' :: r' ∧ (∃ l, v' = .ref l ∧ H2 l = some (.lst (rs.map V.ref))) ∧ r' = [])) :
    EvP (tCall (spClosed K) [] E ta) σ H (fun v H => ∃ t A, v = .ref t ∧ H t = some (.tup (A.map nV)) ∧ A.length = n ∧ PO n (rel A)) := fun H1 e Q q =>
  h H1 e _ fun vs H2 e2 hv => by
    obtain ⟨v, r, rfl, rfl, v', r', rfl, ⟨l, rfl, hl⟩, rfl⟩ := hv
    exact ⟨⟨n, l, rs, ps, im⟩, ⟨rfl, hl, ((hp.mono e0).mono e).mono e2, hd⟩, fun v H3 e3 hp => q v H3 (e2.trans e3) hp⟩
/-! ### Order.__init__ -/
abbrev spOInit (CO : Addr) : Sp := SpI CO (γ := GC) (fun g ws H => ws = [nV g.n, .ref g.a] ∧ H g.a = some (.lst (g.rs.map V.ref)) ∧ PrR H g.rs g.ps ∧ Drawn g.n g.im g.ps ∧ g.rs.length ≤ 1000) (fun g v H => ∃ p A, v = .ref p ∧ OA CO g.n A p H)
theorem scOInit : FnScope ["self", "n", "pairs"] ["self", "n", "pairs"] (defScope sOInit) := ⟨rfl, rfl, rfl, by decide +kernel, rfl, by decide +kernel, by decide +kernel⟩
theorem ok_oinit {f : Addr} {fd : FuncData} (F : Fun K "__init__" "Order.__init__" sOInit f fd) (T : OC K mg CO) (cInt : Cal P w K mg base 1 "is_integer" ["value"] spIsInt) (cChk : Cal P w K mg base 2 "_checked_pairs" ["n", "pairs"] (spChecked K)) (cClo : Cal P w K mg base 2 "_closed" ["n", "pairs"] (spClosed K)) :
    FnOk P w K mg base CX0 3 f fd ["self", "n", "pairs"] (spOInit CO) := by
  refine F.ok scOInit (fun vs H Q E h => ?_) (fun cdv A outer s H vs Q E hr h => ?_)
  · obtain ⟨g, p, dx, ws, H0, rfl, _, _, _, ⟨rfl, _⟩, _⟩ := h
    rfl
  · obtain ⟨⟨n, a, rs, ps, im⟩, p, dx, ws, H0, rfl, np, e0, hp, ⟨rfl, ha, hpr, hd, hlen⟩, k⟩ := h
    dsimp only at ha hpr hd hlen
    have hn := hd.le
    obtain ⟨mt, hmost⟩ := T.most
    refine ⟨_, pss_cons (ps_if (PW.pt (pw_or (pt_not (pt_val (pc cInt hr (pa_cons (pv 1) pa_nil)))) (pw_or1 (pt_cmpR op_lt (pv 1) pe_int (nomark _))))) (pss_one ps_never) pss_nil)
      (pss_cons (ps_if (pt_cmpR op_gt (pv 1) (pe_glob (v := .int 10) (by rfl) hmost ⟨_, rfl⟩) (nomark _)) (pss_one ps_never) pss_nil)
      (pss_cons (ps_fld (pv 0) (pv 1) rfl) (pss_one (ps_fld (pv 0) (pc cClo hr (pa_cons (pv 1) (pa_cons (pc cChk hr (pa_cons (pv 1) (pa_cons (pv 2) pa_nil))) pa_nil))) rfl)))), ?_⟩
    refine q_when (b := false) (et_is (et_or (a := false) (b := false) (et_not (a := true) (et_B (ev_isint (ev_var rfl)))) (fun _ => et_test (ev_is (ev_lt (ev_var rfl) ev_c) (congrArg V.bl (decide_eq_false (by omega)))))) rfl) (fun q => nomatch q) fun _ H1 e1 => ?_
    refine q_when (b := false) (et_test (ev_is (ev_op (ev_var rfl) ev_c rv_I0) (congrArg V.bl (decide_eq_false (by show ¬ ((10 : Int) < (n : Int)); omega))))) (fun q => nomatch q) fun _ H2 e2 => ?_
    -- self.n = n
    have h2 := e2 _ _ (e1 _ _ hp)
    refine ⟨_, rfl, _, rfl, p, CO, dx, [], rfl, h2, T.cl, T.nN, (by show 0 < 1000; decide), ?_⟩
    have e3 : Ex H0 (upd H2 p (.ins CO dx (putF "n" (nV n) []))) := Ex.mut ((e0.trans e1).trans e2) np
    generalize hH3 : upd H2 p (.ins CO dx (putF "n" (nV n) [])) = H3 at e3
    have h3 : H3 p = some (.ins CO dx (putF "n" (nV n) [])) := by rw [← hH3]; exact upd_same
    -- self.above = _closed(n, _checked_pairs(n, pairs))
    have chk : EvP (tCall (spChecked K) [] E0 (tCons (tVar 1) (tCons (tVar 2) tNil))) (L2.start ["self", "n", "pairs"] [.ref p, nV n, .ref a]) H3 (fun v H => ∃ l, v = .ref l ∧ H l = some (.lst (rs.map V.ref))) :=
      ep_callA (⟨n, a, rs, ps⟩ : GP) (ea_cons (ev_var rfl) (ea_cons (ev_var rfl) ea_nil)) fun H4 e4 => ⟨rfl, e4 _ _ (e3 _ _ ha), (hpr.mono e3).mono e4, hd.plt, hlen⟩
    have mo : Mo (fun v H => ∃ l, v = .ref l ∧ H l = some (.lst (rs.map V.ref))) := fun v H H' e ⟨l, q, hl⟩ => ⟨l, q, e _ _ hl⟩
    have clo := ep_callC (K := K) (E := E0) hd hpr e3 (eq_cons mo_c (Ev.p (ev_var (σ := L2.start ["self", "n", "pairs"] [.ref p, nV n, .ref a]) (i := 1) (v := nV n) rfl)) (eq_cons mo chk eq_nil))
    refine clo H3 (Ex.refl H3) _ fun v H4 e4 hv => ?_
    obtain ⟨t, A, rfl, ht, hA, po⟩ := hv
    refine ⟨_, rfl, p, CO, dx, _, rfl, e4 _ _ h3, T.cl, T.nA, (by show 1 < 1000; decide), ?_⟩
    have npt : t ≠ p := ne_of ht (e4 _ _ h3) (by intro q; cases q)
    refine k _ (Ex.mut (e3.trans e4) np) ⟨p, A, rfl, ⟨dx, t, upd_same, by rw [upd_ne npt]; exact ht⟩, hA, hd.le, po⟩
end
end K27
/-! functions on intervals: made, read -/
namespace K27
open PySem L2 Evl
theorem nOR : ¬ (("order" : Str) = "rows") := by decide +kernel
def iF (o t : Addr) : List (Str × V) := putF "rows" (.ref t) (putF "order" (.ref o) [])
theorem iF_order (o t : Addr) : (iF o t).lookup ("order" : Str) = some (.ref o) := by
  unfold iF
  rw [lookup_putF, if_neg nOR, lookup_putF, if_pos rfl]
theorem iF_rows (o t : Addr) : (iF o t).lookup ("rows" : Str) = some (.ref t) := by
  unfold iF
  rw [lookup_putF, if_pos rfl]
theorem iF_no (o t : Addr) {m : Str} (h1 : ¬ m = "rows") (h2 : ¬ m = "order") : (iF o t).lookup m = none := by
  unfold iF
  rw [lookup_putF, if_neg h1, lookup_putF, if_neg h2]
  rfl
structure IC (K : PySem.W.Frag) (mg : Str → Option Value) (CI : Addr) : Prop where
  cl : Cls K CI
  nO : NoAttr K CI "order"
  nR : NoAttr K CI "rows"
  sf : PySem.W.selfFirst K CI = true
def rowV (n : Nat) (f : Nat → Int) : List V := (List.range n).map fun y => V.int (f y)
theorem rowV_len (n : Nat) (f : Nat → Int) : (rowV n f).length = n := by unfold rowV; rw [List.length_map, List.length_range]
theorem rowV_at {n : Nat} {f : Nat → Int} {y : Nat} (h : y < n) : atI (rowV n f) (y : Int) = some (.int (f y)) := atI_nat (range_at (f := fun y => V.int (f y)) h)
theorem rowV_int (n : Nat) (f : Nat → Int) : rowV n f = ((List.range n).map f).map V.int := by
  unfold rowV
  rw [List.map_map]
  rfl
/-- a list at l of n lists, the rows of M -/
def ML (H : Hp) (l : Addr) (n : Nat) (M : Nat → Nat → Int) : Prop := ∃ rs : List Addr, H l = some (.lst (rs.map V.ref)) ∧ rs.length = n ∧ ∀ (x : Nat) r, rs[x]? = some r → H r = some (.lst (rowV n (M x)))
theorem ML.mono {H H' : Hp} {l : Addr} {n : Nat} {M : Nat → Nat → Int} (h : ML H l n M) (e : Ex H H') : ML H' l n M := by
  obtain ⟨rs, h1, h2, h3⟩ := h
  exact ⟨rs, e _ _ h1, h2, fun x r hx => e _ _ (h3 x r hx)⟩
/-- a function on the intervals of the order at p, at q; M its values -/
def IA (CI : Addr) (n : Nat) (M : Nat → Nat → Int) (p q : Addr) (H : Hp) : Prop := ∃ (dx t : Addr) (rs : List Addr), H q = some (.ins CI dx (iF p t)) ∧ H t = some (.tup (rs.map V.ref)) ∧ rs.length = n ∧ ∀ (x : Nat) (r : Addr), rs[x]? = some r → H r = some (.tup (rowV n (M x)))
theorem IA.mono {CI : Addr} {H H' : Hp} {p q : Addr} {n : Nat} {M : Nat → Nat → Int} (h : IA CI n M p q H) (e : Ex H H') : IA CI n M p q H' := by
  obtain ⟨dx, t, rs, h0, h1, h2, h3⟩ := h
  exact ⟨dx, t, rs, e _ _ h0, e _ _ h1, h2, fun x r hx => e _ _ (h3 x r hx)⟩
theorem ref_at {rs : List Addr} {x : Nat} (h : x < rs.length) : atI (rs.map V.ref) (x : Int) = some (.ref rs[x]) := by
  refine atI_nat ?_
  rw [List.getElem?_map, List.getElem?_eq_getElem h]
  rfl
/-- the values are 0 where no interval is -/
def Supp (n : Nat) (A : List Nat) (M : Nat → Nat → Int) : Prop := ∀ x y, x < n → y < n → M x y ≠ 0 → x = y ∨ rel A x y = true
section
variable {P : Program} {w : World} {K : PySem.W.Frag} {mg : Str → Option Value} {base : Heap} {σ : L2.St} {H : Hp} {CO CI : Addr}
/-- rows[x][y] of lists -/
theorem ev_ml {tl tx ty : TE} {l : Addr} {n x y : Nat} {M : Nat → Nat → Int} (h : Ev tl σ H (.ref l)) (m : ML H l n M) (hx : Ev tx σ H (nV x)) (hy : Ev ty σ H (nV y)) (lx : x < n) (ly : y < n) : Ev (tOp (rIxL K) (tOp (rIxL K) tl tx) ty) σ H (.int (M x y)) := by
  obtain ⟨rs, h1, h2, h3⟩ := m
  have hl : x < rs.length := by rw [h2]; exact lx
  exact ev_op (ev_op h hx (rv_ixL (sq_of h1) (ref_at hl))) hy (rv_ixL (sq_of (h3 x _ (List.getElem?_eq_getElem hl))) (rowV_at ly))
/-- self.rows[x][y] -/
theorem ev_ia {te tx ty : TE} {p q : Addr} {n x y : Nat} {M : Nat → Nat → Int} (T : IC K mg CI) (h : Ev te σ H (.ref q)) (m : IA CI n M p q H) (hx : Ev tx σ H (nV x)) (hy : Ev ty σ H (nV y)) (lx : x < n) (ly : y < n) :
    Ev (tOp (rIxT K) (tOp (rIxT K) (tFld K te "rows") tx) ty) σ H (.int (M x y)) := by
  obtain ⟨dx, t, rs, h0, h1, h2, h3⟩ := m
  have hl : x < rs.length := by rw [h2]; exact lx
  exact ev_op (ev_op (ev_fld h h0 T.cl T.nR (iF_rows p t)) hx (rv_ixT (st_of h1) (ref_at hl))) hy (rv_ixT (st_of (h3 x _ (List.getElem?_eq_getElem hl))) (rowV_at ly))
theorem ev_order {te : TE} {p q : Addr} {n : Nat} {M : Nat → Nat → Int} (T : IC K mg CI) (h : Ev te σ H (.ref q)) (m : IA CI n M p q H) : Ev (tFld K te "order") σ H (.ref p) := by
  obtain ⟨dx, t, rs, h0, _⟩ := m
  exact ev_fld h h0 T.cl T.nO (iF_order p t)
/-- len(self.rows) -/
theorem ev_rowsLen {te : TE} {p q : Addr} {n : Nat} {M : Nat → Nat → Int} (T : IC K mg CI) (h : Ev te σ H (.ref q)) (m : IA CI n M p q H) : Ev (tCB (rLenS K) (tCons (tFld K te "rows") tNil)) σ H (nV n) := by
  obtain ⟨dx, t, rs, h0, h1, h2, _⟩ := m
  refine ev_is (ev_lenT (ev_fld h h0 T.cl T.nR (iF_rows p t)) (st_of h1)) ?_
  rw [List.length_map, h2]
/-- order.size() -/
theorem ev_size {te : TE} {p : Addr} {n : Nat} {A : List Nat} {E : XK} (h : Ev te σ H (.ref p)) (o : OA CO n A p H) : Ev (tMeth CO "size" (spSize CO) [] E te tNil) σ H (nV n) := by
  obtain ⟨dx, t, h1, h2⟩ := id o.ob
  exact (ep_methA (n, A, p) h h1 (oF_no n t (by decide +kernel) (by decide +kernel)) ea_nil fun H1 e => ⟨rfl, o.mono e⟩).ev
theorem ev_atmost {te tx ty : TE} {p : Addr} {n x y : Nat} {A : List Nat} {E : XK} (h : Ev te σ H (.ref p)) (o : OA CO n A p H) (hx : Ev tx σ H (nV x)) (hy : Ev ty σ H (nV y)) (lx : x < n) :
    Ev (tMeth CO "at_most" (spAtMost CO) [] E te (tCons tx (tCons ty tNil))) σ H (.bl (decide (x = y) || rel A x y)) := by
  obtain ⟨dx, t, h1, h2⟩ := id o.ob
  exact (ep_methA ((n, A, p), x, y) h h1 (oF_no n t (by decide +kernel) (by decide +kernel)) (ea_cons hx (ea_cons hy ea_nil)) fun H1 e => ⟨rfl, o.mono e, lx⟩).ev
theorem ev_less {te tx ty : TE} {p : Addr} {n x y : Nat} {A : List Nat} {E : XK} (h : Ev te σ H (.ref p)) (o : OA CO n A p H) (hx : Ev tx σ H (nV x)) (hy : Ev ty σ H (nV y)) (lx : x < n) :
    Ev (tMeth CO "less" (spLess CO) [] E te (tCons tx (tCons ty tNil))) σ H (.bl (rel A x y)) := by
  obtain ⟨dx, t, h1, h2⟩ := id o.ob
  exact (ep_methA ((n, A, p), x, y) h h1 (oF_no n t (by decide +kernel) (by decide +kernel)) (ea_cons hx (ea_cons hy ea_nil)) fun H1 e => ⟨rfl, o.mono e, lx⟩).ev
/-! ### is_table -/
structure GT where
  n : Nat
  A : List Nat
  p : Addr
  M : Nat → Nat → Int
  l : Addr
abbrev spTable (CO : Addr) : Sp := SpG (γ := GT) (fun g vs H => vs = [.ref g.p, .ref g.l] ∧ OA CO g.n g.A g.p H ∧ ML H g.l g.n g.M ∧ Supp g.n g.A g.M) (fun _ v _ => v = .bl true)
abbrev nTable : List Str := ["order", "rows", "size", "x", "y"]
theorem scTable : FnScope nTable ["order", "rows"] (defScope sIsTable) := ⟨rfl, rfl, rfl, by decide +kernel, rfl, by decide +kernel, by decide +kernel⟩
theorem ok_table {f : Addr} {fd : FuncData} (F : Fun K "is_table" "is_table" sIsTable f fd) (B : Bl mg) (cInt : Cal P w K mg base 1 "is_integer" ["value"] spIsInt) (mSize : Met P w K mg base 1 CO "size" ["self"] (spSize CO))
    (mAt : Met P w K mg base 2 CO "at_most" ["self", "x", "y"] (spAtMost CO)) : FnOk P w K mg base CX0 3 f fd ["order", "rows"] (spTable CO) := by
  refine F.ok scTable (fun vs H Q E h => ?_) (fun cdv A outer s H vs Q E hr h => ?_)
  · obtain ⟨g, ⟨rfl, _⟩, _⟩ := h
    rfl
  · obtain ⟨⟨n, A, p, M, l⟩, ⟨rfl, o, m, sp⟩, k⟩ := h
    dsimp only at o m sp
    have hn := o.le
    refine ⟨_, pss_cons (st 2 scTable.nd (pm0 mSize (pv 0) hr))
      (pss_cons (ps_if (PW.pt (pw_or (pt_not (pt_val (bIsiT K B (pa_cons (pv 1) (pa_cons (pe_tup (pa_cons (pe_bltn (v := .ty "tuple") (by rfl) B.tuple (by decide +kernel) rfl) (pa_cons (pe_bltn (v := .ty "list") (by rfl) B.list (by decide +kernel) rfl) pa_nil))) pa_nil))))) (pw_or1 (pt_cmpR op_ne (bLen K B (pv 1)) (pv 2) (nomark _))))) (pss_one (ps_ret pe_bl)) pss_nil)
      (pss_cons (ps_for PassesOwn.never rfl (wR1 B (pv 2)) (gn 3 scTable.nd)
        (pss_cons (ps_if (PW.pt (pw_or (pt_not (pt_val (bIsiT K B (pa_cons (ixl K (pv 1) (pv 3)) (pa_cons (pe_tup (pa_cons (pe_bltn (v := .ty "tuple") (by rfl) B.tuple (by decide +kernel) rfl) (pa_cons (pe_bltn (v := .ty "list") (by rfl) B.list (by decide +kernel) rfl) pa_nil))) pa_nil))))) (pw_or1 (pt_cmpR op_ne (bLen K B (ixl K (pv 1) (pv 3))) (pv 2) (nomark _))))) (pss_one (ps_ret pe_bl)) pss_nil)
        (pss_one (ps_for PassesOwn.never rfl (wR1 B (pv 2)) (gn 4 scTable.nd)
          (pss_cons (ps_if (pt_not (pt_val (pc cInt hr (pa_cons (ixl K (ixl K (pv 1) (pv 3)) (pv 4)) pa_nil)))) (pss_one (ps_ret pe_bl)) pss_nil)
          (pss_one (ps_if (PW.pt (pw_and (pt_cmpR op_ne (ixl K (ixl K (pv 1) (pv 3)) (pv 4)) pe_int (nomark _)) (pw_and1 (pt_not (pt_val (pm mAt (pv 0) hr (pa_cons (pv 3) (pa_cons (pv 4) pa_nil)))))))) (pss_one (ps_ret pe_bl)) pss_nil)))))))
      (pss_one (ps_ret pe_bl)))), ?_⟩
    refine q_asg (ev_size (ev_var rfl) o) fun H1 e1 => ?_
    have o1 := o.mono e1
    have m1 := m.mono e1
    obtain ⟨rs, h1, h2, h3⟩ := id m1
    refine q_when (b := false) (et_is (et_or (a := false) (b := false) (et_not (a := true) (et_B (ev_isi2 (ev_var rfl) ev_c ev_c (fun H2 e2 => .base (.lst (e2 _ _ h1))) kit_list2))) (fun _ => et_test (ev_is (ev_op (ev_len (ev_var rfl) (sq_of h1)) (ev_var rfl) (rv_ne rfl)) (by rw [List.length_map, h2]; simp)))) rfl) (fun q => nomatch q) fun _ H2 e2 => ?_
    refine q_forR1 (n := (n : Int)) (ea_cons (ev_var rfl) ea_nil) (by omega) (fun i σ' H' => ∃ v3 v4, σ' = [some (.ref p), some (.ref l), some (nV n), v3, v4] ∧ Ex H1 H') (fun H3 e3 => ⟨none, none, rfl, e2.trans e3⟩) ?_ ?_
    · rintro x σ' H3 hx ⟨v3, v4, rfl, e3⟩
      have lx : x < n := by omega
      have hl : x < rs.length := by rw [h2]; exact lx
      have hrow := h3 x _ (List.getElem?_eq_getElem hl)
      have ix : ∀ {H4 : Hp}, Ex H3 H4 → Ev (tOp (rIxL K) (tVar 1) (tVar 3)) [some (.ref p), some (.ref l), some (nV n), some (nV x), v4] H4 (.ref rs[x]) := fun {H4} e4 => ev_op (ev_var rfl) (ev_var rfl) (rv_ixL (sq_of (e4 _ _ (e3 _ _ h1))) (ref_at hl))
      refine q_when (b := false) (et_is (et_or (a := false) (b := false) (et_not (a := true) (et_B (ev_isi2 (ix (Ex.refl _)) ev_c ev_c (fun H4 e4 => .base (.lst (e4 _ _ (e3 _ _ hrow)))) kit_list2))) (fun _ => et_test (ev_is (ev_op (ev_len (ix (Ex.refl _)) (sq_of (e3 _ _ hrow))) (ev_var rfl) (rv_ne rfl)) (by rw [rowV_len]; simp)))) rfl) (fun q => nomatch q) fun _ H4 e4 => ?_
      refine s_forR1 (n := (n : Int)) (ea_cons (ev_var rfl) ea_nil) (by omega) (fun i σ' H' => ∃ v4, σ' = [some (.ref p), some (.ref l), some (nV n), some (nV x), v4] ∧ Ex H1 H') (fun H5 e5 => ⟨v4, rfl, (e3.trans e4).trans e5⟩) ?_ ?_
      · rintro y σ' H5 hy ⟨v4', rfl, e5⟩
        have ly : y < n := by omega
        have m5 := m1.mono e5
        refine q_when (b := false) (et_not (a := true) (et_B (ev_isint (ev_ml (ev_var rfl) m5 (ev_var rfl) (ev_var rfl) lx ly)))) (fun q => nomatch q) fun _ H6 e6 => ?_
        refine s_when (b := false) (et_is (et_and (a := decide (M x y ≠ 0)) (b := !(decide (x = y) || rel A x y)) (et_test (ev_is (ev_op (ev_ml (ev_var rfl) (m5.mono e6) (ev_var rfl) (ev_var rfl) lx ly) ev_c (rv_ne rfl)) (congrArg V.bl ?_))) (fun _ => et_not (et_B (ev_atmost (ev_var rfl) (o1.mono (e5.trans e6)) (ev_var rfl) (ev_var rfl) lx)))) ?_) (fun q => nomatch q) fun _ H7 e7 => ?_
        · rw [dec_int]
          by_cases q : M x y = 0
          · rw [q]; rfl
          · rw [decide_eq_true q]
            simp [q]
        · by_cases q : M x y = 0
          · rw [decide_eq_false (by simp [q])]; rfl
          · rcases sp x y lx ly q with z | z
            · rw [decide_eq_true z]; simp
            · rw [z]; simp
        · exact ⟨_, rfl, (e5.trans e6).trans e7⟩
      · rintro σ' H5 ⟨v4', rfl, e5⟩
        exact ⟨_, _, rfl, e5⟩
    · rintro σ' H3 ⟨v3, v4, rfl, e3⟩
      exact s_ret ev_c fun H4 e4 => k _ H4 ((e1.trans e3).trans e4) rfl
end
end K27
/-! Incidence.__init__, value, delta, zeta -/
namespace K27
open PySem L2 Evl
section
variable {P : Program} {w : World} {K : PySem.W.Frag} {mg : Str → Option Value} {base : Heap} {σ : L2.St} {H : Hp} {CO CI : Addr} {te : TE}
/-! comprehensions over a tuple -/
theorem em_lcT {a : Addr} {xs : List V} {tl : TE} {j : Nat} {vs : List Nat} (o : Nat → HO) (h : Ev tl σ H (.ref a)) (hx : SqT K H a xs) (hz : xs.length ≤ 40000) (hw : ∀ x, wipe ((wipe σ vs).set j (some x)) vs = wipe σ vs)
    (he : ∀ (i : Nat) (x : V) H1, Ex H H1 → xs[i]? = some x → EvO1 te ((wipe σ vs).set j (some x)) H1 (o i)) : EvM (tLc (iTup K tl) (gName j) tYes te vs) σ H xs.length o := fun H0 e Q q => h H0 e _ fun H1 e1 => ⟨a, rfl, ⟨xs, ex_t (e.trans e1) hx⟩, fun Dl hD =>
  lc_tup (xs := xs) (fun i H' => ∃ rs, Mat H1 H' Dl rs i o) ⟨[], Mat.start hD⟩ (fun i H' _ p => by
    obtain ⟨rs, m⟩ := p
    exact ex_t ((e.trans e1).trans m.ex) hx) (fun i x H' hi p => by
    obtain ⟨rs, m⟩ := p
    show wipe ((wipe σ vs).set j (some x)) vs = wipe σ vs ∧ te ((wipe σ vs).set j (some x)) H' fun y H4 => ∃ acc, H4 Dl = some (.lst acc) ∧ acc.length < sizeLine ∧ ∃ rs, Mat H1 (upd H4 Dl (.lst (acc ++ [y]))) Dl rs (i + 1) o
    refine ⟨hw _, he i x H' ((e.trans e1).trans m.ex) hi H' (Ex.refl H') _ fun p H4 hp e4 ho => ?_⟩
    obtain ⟨hD4, m'⟩ := m.turn hp e4 ho
    have := (List.getElem?_eq_some_iff.mp hi).1
    exact ⟨_, hD4, by rw [List.length_map, m.len]; exact size_lt (by omega), _, m'⟩) (fun H' p => by
    obtain ⟨rs, m⟩ := p
    exact q Dl rs H' ⟨fresh_back e1 m.nl, fun r hr => fresh_back e1 (m.nr r hr), m.nd, m.lr, e1.trans m.ex, m.hl, m.len, m.at_⟩)⟩
theorem el_lcT {a : Addr} {xs : List V} {tl : TE} {j : Nat} {vs : List Nat} (v : Nat → V) (h : Ev tl σ H (.ref a)) (hx : SqT K H a xs) (hz : xs.length ≤ 40000) (hw : ∀ x, wipe ((wipe σ vs).set j (some x)) vs = wipe σ vs)
    (he : ∀ (i : Nat) (x : V) H1, Ex H H1 → xs[i]? = some x → Ev te ((wipe σ vs).set j (some x)) H1 (v i)) : EvL (tLc (iTup K tl) (gName j) tYes te vs) σ H ((List.range xs.length).map v) := fun H0 e Q q => h H0 e _ fun H1 e1 => ⟨a, rfl, ⟨xs, ex_t (e.trans e1) hx⟩, fun Dl hD =>
  lc_tup (xs := xs) (Cw H1 (fun _ => true) v Dl) ⟨hD, Ex.new hD, upd_same⟩ (fun i H' _ p => ex_t ((e.trans e1).trans p.2.1) hx) (fun i x H' hi p => ⟨hw x, cw_turn p (by have := (List.getElem?_eq_some_iff.mp hi).1; omega) et_yes (fun _ => he i x H1 (e.trans e1) hi)⟩)
    (fun H' p => q Dl H' (fresh_back e1 p.1) (e1.trans p.2.1) (by rw [p.2.2, given_all]))⟩
/-- tuple(..) of a new list of new objects -/
theorem ep_tupM {n : Nat} {o : Nat → HO} (h : EvM te σ H n o) : EvP (tCB (rTupS K) (tCons te tNil)) σ H (fun v H => ∃ (t : Addr) (rs : List Addr), v = .ref t ∧ H t = some (.tup (rs.map V.ref)) ∧ rs.length = n ∧ ∀ (i : Nat) r, rs[i]? = some r → H r = some (o i)) := fun H1 e Q q =>
  h H1 e _ fun l rs H2 m => ⟨l, _, rfl, Or.inl ⟨sq_of m.hl, fun t ht => by
    have e3 : Ex H2 (upd H2 t (.tup (rs.map V.ref))) := Ex.new ht
    exact q _ _ (m.ex.trans e3) ⟨t, rs, rfl, upd_same, m.len, fun i r hr => e3 _ _ (m.at_ i r hr)⟩⟩⟩
/-! ### Incidence.__init__ -/
abbrev spIInit (CO CI : Addr) : Sp := SpI CI (γ := GT) (fun g ws H => ws = [.ref g.p, .ref g.l] ∧ OA CO g.n g.A g.p H ∧ ML H g.l g.n g.M ∧ Supp g.n g.A g.M) (fun g v H => ∃ q, v = .ref q ∧ IA CI g.n g.M g.p q H)
abbrev nIInit : List Str := ["self", "order", "rows", "row"]
theorem scIInit : FnScope nIInit ["self", "order", "rows"] (defScope sIInit) := ⟨rfl, rfl, rfl, by decide +kernel, rfl, by decide +kernel, by decide +kernel⟩
theorem ok_iinit {f : Addr} {fd : FuncData} (F : Fun K "__init__" "Incidence.__init__" sIInit f fd) (T : IC K mg CI) (B : Bl mg) (cTab : Cal P w K mg base 3 "is_table" ["order", "rows"] (spTable CO)) :
    FnOk P w K mg base CX0 4 f fd ["self", "order", "rows"] (spIInit CO CI) := by
  refine F.ok scIInit (fun vs H Q E h => ?_) (fun cdv A outer s H vs Q E hr h => ?_)
  · obtain ⟨g, p, dx, ws, H0, rfl, _, _, _, ⟨rfl, _⟩, _⟩ := h
    rfl
  · obtain ⟨⟨n, A, p, M, l⟩, q, dx, ws, H0, rfl, nq, e0, hq, ⟨rfl, o, m, sp⟩, k⟩ := h
    dsimp only at o m sp
    have hn := o.le
    refine ⟨_, pss_cons (ps_if (pt_not (pt_val (pc cTab hr (pa_cons (pv 1) (pa_cons (pv 2) pa_nil))))) (pss_one ps_never) pss_nil)
      (pss_cons (ps_fld (pv 0) (pv 1) rfl) (pss_one (ps_fld (pv 0) (bTup K B (pe_lc (own := [("row", 3)]) (g := gName 3) (tt := tYes) rfl scIInit.nd (wList K (pv 2))
        (blkOk_by (N := nIInit) (sc := defScope sIInit) (by decide +kernel)) (fun _ _ _ _ _ => gn 3 scIInit.nd) (fun _ _ _ _ _ => pts_nil) (fun _ _ _ _ _ => bTup K B (pv 3)))) rfl))), ?_⟩
    refine q_when (b := false) (et_not (a := true) (et_B ((ep_callA (⟨n, A, p, M, l⟩ : GT) (ea_cons (ev_var rfl) (ea_cons (ev_var rfl) ea_nil)) fun H1 e1 => ⟨rfl, (o.mono e0).mono e1, (m.mono e0).mono e1, sp⟩).ev))) (fun q => nomatch q) fun _ H1 e1 => ?_
    have hq1 := e1 _ _ hq
    refine ⟨_, rfl, _, rfl, q, CI, dx, [], rfl, hq1, T.cl, T.nO, (by show 0 < 1000; decide), ?_⟩
    have e2 : Ex H0 (upd H1 q (.ins CI dx (putF "order" (.ref p) []))) := Ex.mut (e0.trans e1) nq
    generalize hH2 : upd H1 q (.ins CI dx (putF "order" (.ref p) [])) = H2 at e2
    have hq2 : H2 q = some (.ins CI dx (putF "order" (.ref p) [])) := by rw [← hH2]; exact upd_same
    obtain ⟨rs, h1, h2, h3⟩ := m.mono e2
    have em : EvM (tLc (iList K (tVar 2)) (gName 3) tYes (tCB (rTupS K) (tCons (tVar 3) tNil)) [3]) (L2.start nIInit [.ref q, .ref p, .ref l]) H2 (rs.map V.ref).length (fun x => .tup (rowV n (M x))) :=
      em_lcL (xs := rs.map V.ref) (fun x => .tup (rowV n (M x))) (ev_var rfl) (sq_of h1) (by rw [List.length_map, h2]; omega) (fun x => rfl) fun i x H3 e3 hi => by
        obtain ⟨r, hir, rfl⟩ := get_map hi
        exact EvU.o (eu_tupL (K := K) (ev_var rfl) (sq_of (e3 _ _ (h3 i r hir))))
    refine ep_tupM (K := K) em H2 (Ex.refl H2) _ fun v H3 e3 hv => ?_
    obtain ⟨t, rs', rfl, ht, hl, hat⟩ := hv
    refine ⟨_, rfl, q, CI, dx, _, rfl, e3 _ _ hq2, T.cl, T.nR, (by show 1 < 1000; decide), ?_⟩
    have hq3 := e3 _ _ hq2
    have ntq : t ≠ q := ne_of ht hq3 (by intro z; cases z)
    refine k _ (Ex.mut (e2.trans e3) nq) ⟨q, rfl, dx, t, rs', upd_same, by rw [upd_ne ntq]; exact ht, by rw [hl, List.length_map, h2], fun x r hx => ?_⟩
    have hr := hat x r hx
    rw [upd_ne (ne_of hr hq3 (by intro z; cases z))]
    exact hr
/-- Incidence(order, rows), the rows made on the way -/
theorem ep_inc {to : TE} {E : XK} {n : Nat} {A : List Nat} {p : Addr} {M : Nat → Nat → Int} (ho : Ev to σ H (.ref p)) (o : OA CO n A p H) (sp : Supp n A M) (hm : EvP te σ H (fun v H => ∃ l, v = .ref l ∧ ML H l n M)) :
    EvP (tMake CI (spIInit CO CI) [] E (tCons to (tCons te tNil))) σ H (fun v H => ∃ q, v = .ref q ∧ IA CI n M p q H) := fun H1 e Q q =>
  ho H1 e _ fun H2 e2 => hm H2 (e.trans e2) _ fun v H3 e3 hv => by
    obtain ⟨l, rfl, ml⟩ := hv
    exact ep_make (C := CI) (Pre := fun (g : GT) ws H => ws = [.ref g.p, .ref g.l] ∧ OA CO g.n g.A g.p H ∧ ML H g.l g.n g.M ∧ Supp g.n g.A g.M) (Post := fun (g : GT) v H => ∃ q, v = .ref q ∧ IA CI g.n g.M g.p q H) (E := E) (σ := σ) (H := H3) (tr := fun _ H Q => Q [.ref p, .ref l] H)
      (Φ := fun vs _ => vs = [.ref p, .ref l]) (⟨n, A, p, M, l⟩ : GT) (fun H4 _ Q q => q _ H4 (Ex.refl H4) rfl) (fun vs H4 e4 hvs => by
        subst hvs
        exact ⟨rfl, o.mono (((e.trans e2).trans e3).trans e4), ml.mono e4, sp⟩) H3 (Ex.refl H3) Q fun w H5 e5 hw => q w H5 ((e2.trans e3).trans e5) hw
theorem ML.of {H1 H2 : Hp} {l : Addr} {rs : List Addr} {n : Nat} {M : Nat → Nat → Int} (m : Mat H1 H2 l rs n (fun x => .lst (rowV n (M x)))) : ML H2 l n M := ⟨rs, m.hl, m.len, m.at_⟩
theorem EvM.ml {n : Nat} {M : Nat → Nat → Int} (h : EvM te σ H n (fun x => .lst (rowV n (M x)))) : EvP te σ H (fun v H => ∃ l, v = .ref l ∧ ML H l n M) := fun H1 e Q q => h H1 e _ fun l rs H2 m => q _ H2 m.ex ⟨l, rfl, ML.of m⟩
/-- int(b) -/
def rInt : List V → Hp → VK → Prop := fun xs H Q => (∃ i, xs = [.int i] ∧ Q (.int i) H) ∨ ∃ k, xs = [.bl k] ∧ Q (.int (if k then 1 else 0)) H
theorem ev_intB {b : Bool} (h : Ev te σ H (.bl b)) : Ev (tCB rInt (tCons te tNil)) σ H (.int (if b then 1 else 0)) := fun H1 e Q q => h H1 e _ fun H2 e2 => Or.inr ⟨b, rfl, q H2 e2⟩
theorem rowV_given (n : Nat) (f : Nat → Int) : rowV n f = given n (fun _ => true) (fun y => V.int (f y)) := (given_all n _).symm
/-! ### value -/
structure GI where
  n : Nat
  M : Nat → Nat → Int
  p : Addr
  q : Addr
abbrev spValue (CI : Addr) : Sp := SpG (γ := GI × Nat × Nat) (fun g vs H => vs = [.ref g.1.q, nV g.2.1, nV g.2.2] ∧ IA CI g.1.n g.1.M g.1.p g.1.q H ∧ g.2.1 < g.1.n ∧ g.2.2 < g.1.n) (fun g v _ => v = .int (g.1.M g.2.1 g.2.2))
theorem scValue : FnScope ["self", "x", "y"] ["self", "x", "y"] (defScope sIValue) := ⟨rfl, rfl, rfl, by decide +kernel, rfl, by decide +kernel, by decide +kernel⟩
theorem ok_value {f : Addr} {fd : FuncData} (F : Fun K "value" "Incidence.value" sIValue f fd) (T : IC K mg CI) : FnOk P w K mg base CX0 1 f fd ["self", "x", "y"] (spValue CI) := by
  refine F.ok scValue (fun vs H Q E h => ?_) (fun cdv A outer s H vs Q E hr h => ?_)
  · obtain ⟨g, ⟨rfl, _⟩, _⟩ := h
    rfl
  · obtain ⟨⟨⟨n, M, p, q⟩, x, y⟩, ⟨rfl, m, lx, ly⟩, k⟩ := h
    refine ⟨_, pss_one (ps_ret (ixt K (ixt K (fl K (pv 0)) (pv 1)) (pv 2))), ?_⟩
    exact s_ret (ev_ia T (ev_var rfl) m (ev_var rfl) (ev_var rfl) lx ly) fun H1 e => k _ H1 e rfl
/-! ### delta, zeta -/
def dl (x y : Nat) : Int := if x = y then 1 else 0
abbrev spDelta (CO CI : Addr) : Sp := SpG (γ := GO) (fun g vs H => vs = [.ref g.2.2] ∧ OA CO g.1 g.2.1 g.2.2 H) (fun g v H => ∃ q, v = .ref q ∧ IA CI g.1 dl g.2.2 q H)
abbrev spZeta (CO CI : Addr) : Sp := SpG (γ := GO) (fun g vs H => vs = [.ref g.2.2] ∧ OA CO g.1 g.2.1 g.2.2 H) (fun g v H => ∃ q, v = .ref q ∧ IA CI g.1 (Z (rel g.2.1)) g.2.2 q H)
abbrev nZeta : List Str := ["order", "size", "x", "y"]
theorem scDelta : FnScope nZeta ["order"] (defScope sDelta) := ⟨rfl, rfl, rfl, by decide +kernel, rfl, by decide +kernel, by decide +kernel⟩
theorem scZeta : FnScope nZeta ["order"] (defScope sZeta) := ⟨rfl, rfl, rfl, by decide +kernel, rfl, by decide +kernel, by decide +kernel⟩
theorem supp_dl (n : Nat) (A : List Nat) : Supp n A dl := fun x y _ _ h => by
  unfold dl at h
  by_cases q : x = y
  · exact .inl q
  · rw [if_neg q] at h
    exact absurd rfl h
theorem supp_Z (n : Nat) (A : List Nat) : Supp n A (Z (rel A)) := fun x y _ _ h => by
  unfold Z at h
  by_cases q : x = y ∨ rel A x y = true
  · exact q
  · rw [if_neg q] at h
    exact absurd rfl h
theorem Z_bool (L : Nat → Nat → Bool) (x y : Nat) : (if (decide (x = y) || L x y) = true then (1 : Int) else 0) = Z L x y := by
  unfold Z
  by_cases q : x = y
  · rw [decide_eq_true q, Bool.true_or, if_pos rfl, if_pos (.inl q)]
  · rw [decide_eq_false q, Bool.false_or]
    by_cases z : L x y = true
    · rw [if_pos z, if_pos (.inr z)]
    · rw [if_neg z, if_neg (by simp [q, z])]
theorem ok_delta {f : Addr} {fd : FuncData} (F : Fun K "delta" "delta" sDelta f fd) (B : Bl mg) (mSize : Met P w K mg base 1 CO "size" ["self"] (spSize CO)) (mk : Mkr P w K mg base 4 CI "Incidence" ["self", "order", "rows"] (spIInit CO CI)) :
    FnOk P w K mg base CX0 6 f fd ["order"] (spDelta CO CI) := by
  refine F.ok scDelta (fun vs H Q E h => ?_) (fun cdv A outer s H vs Q E hr h => ?_)
  · obtain ⟨g, ⟨rfl, _⟩, _⟩ := h
    rfl
  · obtain ⟨⟨n, A, p⟩, ⟨rfl, o⟩, k⟩ := h
    dsimp only at o
    have hn := o.le
    refine ⟨_, pss_cons (st 1 scDelta.nd (pm0 mSize (pv 0) hr)) (pss_one (ps_ret (pmk mk hr (pa_cons (pv 0) (pa_cons (pe_lc (own := [("x", 2)]) (g := gName 2) (tt := tYes) rfl scDelta.nd (wR1 B (pv 1))
      (blkOk_by (N := nZeta) (sc := defScope sDelta) (by decide +kernel)) (fun _ _ _ _ _ => gn 2 scDelta.nd) (fun _ _ _ _ _ => pts_nil)
      (fun _ _ _ _ _ => pe_lc (own := [("y", 3)]) (g := gName 3) (tt := tYes) rfl scDelta.nd (wR1 B (pv 1)) (blkOk_by (N := nZeta) (sc := relS _ (defScope sDelta)) (by decide +kernel)) (fun _ _ _ _ _ => gn 3 scDelta.nd) (fun _ _ _ _ _ => pts_nil)
        (fun _ _ _ _ _ => bInt B (eqm (pv 2) (pv 3))))) pa_nil))))), ?_⟩
    refine q_asg (ev_size (ev_var rfl) o) fun H1 e1 => ?_
    refine s_retP (ep_inc (M := dl) (ev_var rfl) (o.mono e1) (supp_dl n A) (EvM.ml ?_)) fun v H2 e2 hv => k _ H2 (e1.trans e2) hv
    refine em_lcR1 (n := (n : Int)) (fun x => .lst (rowV n (dl x))) (ea_cons (ev_var rfl) ea_nil) (by omega) (fun x => rfl) fun x H2 e2 hx => EvL.o ?_
    rw [rowV_given]
    refine el_lcR1 (n := (n : Int)) (fun _ => true) (fun y => V.int (dl x y)) (ea_cons (ev_var rfl) ea_nil) (by omega) (fun x => rfl) (fun y H3 e3 hy => et_yes) fun y H3 e3 hy _ => ?_
    refine ev_is (ev_intB (ev_is (ev_op (ev_var rfl) (ev_var rfl) (rv_eq rfl)) (congrArg V.bl (dec_nV x y)))) ?_
    unfold dl
    by_cases q : x = y
    · rw [decide_eq_true q, if_pos q]; rfl
    · rw [decide_eq_false q, if_neg q]; rfl
theorem ok_zeta {f : Addr} {fd : FuncData} (F : Fun K "zeta" "zeta" sZeta f fd) (B : Bl mg) (mSize : Met P w K mg base 1 CO "size" ["self"] (spSize CO)) (mAt : Met P w K mg base 2 CO "at_most" ["self", "x", "y"] (spAtMost CO))
    (mk : Mkr P w K mg base 4 CI "Incidence" ["self", "order", "rows"] (spIInit CO CI)) : FnOk P w K mg base CX0 6 f fd ["order"] (spZeta CO CI) := by
  refine F.ok scZeta (fun vs H Q E h => ?_) (fun cdv A outer s H vs Q E hr h => ?_)
  · obtain ⟨g, ⟨rfl, _⟩, _⟩ := h
    rfl
  · obtain ⟨⟨n, A, p⟩, ⟨rfl, o⟩, k⟩ := h
    dsimp only at o
    have hn := o.le
    refine ⟨_, pss_cons (st 1 scZeta.nd (pm0 mSize (pv 0) hr)) (pss_one (ps_ret (pmk mk hr (pa_cons (pv 0) (pa_cons (pe_lc (own := [("x", 2)]) (g := gName 2) (tt := tYes) rfl scZeta.nd (wR1 B (pv 1))
      (blkOk_by (N := nZeta) (sc := defScope sZeta) (by decide +kernel)) (fun _ _ _ _ _ => gn 2 scZeta.nd) (fun _ _ _ _ _ => pts_nil)
      (fun _ _ _ _ _ => pe_lc (own := [("y", 3)]) (g := gName 3) (tt := tYes) rfl scZeta.nd (wR1 B (pv 1)) (blkOk_by (N := nZeta) (sc := relS _ (defScope sZeta)) (by decide +kernel)) (fun _ _ _ _ _ => gn 3 scZeta.nd) (fun _ _ _ _ _ => pts_nil)
        (fun _ _ _ _ _ => bInt B (pm mAt (pv 0) hr (pa_cons (pv 2) (pa_cons (pv 3) pa_nil)))))) pa_nil))))), ?_⟩
    refine q_asg (ev_size (ev_var rfl) o) fun H1 e1 => ?_
    refine s_retP (ep_inc (M := Z (rel A)) (ev_var rfl) (o.mono e1) (supp_Z n A) (EvM.ml ?_)) fun v H2 e2 hv => k _ H2 (e1.trans e2) hv
    refine em_lcR1 (n := (n : Int)) (fun x => .lst (rowV n (Z (rel A) x))) (ea_cons (ev_var rfl) ea_nil) (by omega) (fun x => rfl) fun x H2 e2 hx => EvL.o ?_
    rw [rowV_given]
    refine el_lcR1 (n := (n : Int)) (fun _ => true) (fun y => V.int (Z (rel A) x y)) (ea_cons (ev_var rfl) ea_nil) (by omega) (fun x => rfl) (fun y H3 e3 hy => et_yes) fun y H3 e3 hy _ => ?_
    exact ev_is (ev_intB (ev_atmost (ev_var rfl) (((o.mono e1).mono e2).mono e3) (ev_var rfl) (ev_var rfl) (by omega))) (congrArg V.int (Z_bool (rel A) x y))
end
end K27
/-! check_same, -, +, binary -, * -/
namespace K27
open PySem L2 Evl
section
variable {P : Program} {w : World} {K : PySem.W.Frag} {mg : Str → Option Value} {base : Heap} {σ : L2.St} {H : Hp} {CO CI : Addr} {te ta tb : TE}
/-! ### check_same -/
structure G2 where
  n : Nat
  A : List Nat
  p : Addr
  M : Nat → Nat → Int
  N : Nat → Nat → Int
  q : Addr
  r : Addr
abbrev spSame (CO CI : Addr) : Sp := SpG (γ := G2) (fun g vs H => vs = [.ref g.q, .ref g.r] ∧ OA CO g.n g.A g.p H ∧ IA CI g.n g.M g.p g.q H ∧ IA CI g.n g.N g.p g.r H) (fun _ v _ => v = .non)
theorem scSame : FnScope ["one", "two"] ["one", "two"] (defScope sCheckSame) := ⟨rfl, rfl, rfl, by decide +kernel, rfl, by decide +kernel, by decide +kernel⟩
theorem ev_neO {p : Addr} {n : Nat} {A : List Nat} (ha : Ev ta σ H (.ref p)) (hb : Ev tb σ H (.ref p)) (o : OA CO n A p H) : Ev (tOp (rOwnNe CO (spOEq CO)) ta tb) σ H (.bl false) :=
  ev_op ha hb fun H1 e Q q => by
    have o1 := o.mono e
    obtain ⟨dx, t, h1, h2⟩ := id o1.ob
    exact ⟨p, p, dx, dx, _, _, rfl, rfl, h1, h1, (n, A, p), ⟨rfl, o1⟩, fun v H' e' hv => by
      subst hv
      exact ⟨true, rfl, q H' e'⟩⟩
theorem ok_same {f : Addr} {fd : FuncData} (F : Fun K "check_same" "check_same" sCheckSame f fd) (T : OC K mg CO) (I : IC K mg CI) (mEq : Met P w K mg base 1 CO "__eq__" ["self", "other"] (spOEq CO)) : FnOk P w K mg base CX0 3 f fd ["one", "two"] (spSame CO CI) := by
  refine F.ok scSame (fun vs H Q E h => ?_) (fun cdv A outer s H vs Q E hr h => ?_)
  · obtain ⟨g, ⟨rfl, _⟩, _⟩ := h
    rfl
  · obtain ⟨⟨n, A, p, M, N, q, r⟩, ⟨rfl, o, m1, m2⟩, k⟩ := h
    dsimp only at o m1 m2
    refine ⟨_, pss_one (ps_if (pt_cmpR (op_ownNe mEq T.mro T.ne hr) (fl K (pv 0)) (fl K (pv 1)) (nomark _)) (pss_one ps_never) pss_nil), ?_⟩
    exact s_when (b := false) (et_test (ev_neO (ev_order I (ev_var rfl) m1) (ev_order I (ev_var rfl) m2) o)) (fun q => nomatch q) fun _ H1 e1 => k _ H1 e1 rfl
/-! ### -x -/
structure G1 where
  n : Nat
  A : List Nat
  p : Addr
  M : Nat → Nat → Int
  q : Addr
abbrev spNeg (CO CI : Addr) : Sp := SpG (γ := G1) (fun g vs H => vs = [.ref g.q] ∧ OA CO g.n g.A g.p H ∧ IA CI g.n g.M g.p g.q H ∧ Supp g.n g.A g.M) (fun g v H => ∃ r, v = .ref r ∧ IA CI g.n (fun x y => - g.M x y) g.p r H)
abbrev nNeg : List Str := ["self", "row", "value"]
theorem scNeg : FnScope nNeg ["self"] (defScope sINeg) := ⟨rfl, rfl, rfl, by decide +kernel, rfl, by decide +kernel, by decide +kernel⟩
theorem ok_neg {f : Addr} {fd : FuncData} (F : Fun K "__neg__" "Incidence.__neg__" sINeg f fd) (B : Bl mg) (I : IC K mg CI) (mk : Mkr P w K mg base 4 CI "Incidence" ["self", "order", "rows"] (spIInit CO CI)) : FnOk P w K mg base CX0 6 f fd ["self"] (spNeg CO CI) := by
  refine F.ok scNeg (fun vs H Q E h => ?_) (fun cdv A outer s H vs Q E hr h => ?_)
  · obtain ⟨g, ⟨rfl, _⟩, _⟩ := h
    rfl
  · obtain ⟨⟨n, A, p, M, q⟩, ⟨rfl, o, m, sp⟩, k⟩ := h
    dsimp only at o m sp
    have hn := o.le
    refine ⟨_, pss_one (ps_ret (pmk mk hr (pa_cons (fl K (pv 0)) (pa_cons (pe_lc (own := [("row", 1)]) (g := gName 1) (tt := tYes) rfl scNeg.nd (wTup K (fl K (pv 0)))
      (blkOk_by (N := nNeg) (sc := defScope sINeg) (by decide +kernel)) (fun _ _ _ _ _ => gn 1 scNeg.nd) (fun _ _ _ _ _ => pts_nil)
      (fun _ _ _ _ _ => pe_lc (own := [("value", 2)]) (g := gName 2) (tt := tYes) rfl scNeg.nd (wTup K (pv 1)) (blkOk_by (N := nNeg) (sc := relS _ (defScope sINeg)) (by decide +kernel)) (fun _ _ _ _ _ => gn 2 scNeg.nd) (fun _ _ _ _ _ => pts_nil)
        (fun _ _ _ _ _ => pe_un un_neg (pv 2)))) pa_nil)))), ?_⟩
    refine s_retP (ep_inc (M := fun x y => - M x y) (ev_order I (ev_var rfl) m) o (fun x y lx ly h => sp x y lx ly (fun z => h (by show - M x y = 0; rw [z]; rfl))) (EvM.ml ?_)) fun v H2 e2 hv => k _ H2 e2 hv
    obtain ⟨dx, t, rs, h0, h1, h2, h3⟩ := m
    have em : EvM (tLc (iTup K (tFld K (tVar 0) "rows")) (gName 1) tYes (tLc (iTup K (tVar 1)) (gName 2) tYes (tUn (rU fun i => .int (-i)) (tVar 2)) [2]) [1]) (L2.start nNeg [.ref q]) H (rs.map V.ref).length (fun x => .lst (rowV n (fun y => - M x y))) := by
      refine em_lcT (xs := rs.map V.ref) (fun x => .lst (rowV n (fun y => - M x y))) (ev_fld (ev_var rfl) h0 I.cl I.nR (iF_rows p t)) (st_of h1) (by rw [List.length_map, h2]; omega) (fun x => rfl) fun x v H1 e1 hx => EvL.o ?_
      obtain ⟨r, hxr, rfl⟩ := get_map hx
      have hrow := e1 _ _ (h3 x r hxr)
      have el := el_lcT (K := K) (σ := (wipe (L2.start nNeg [.ref q]) [1]).set 1 (some (.ref r))) (H := H1) (te := tUn (rU fun i => .int (-i)) (tVar 2)) (a := r) (xs := rowV n (M x)) (tl := tVar 1) (j := 2) (vs := [2]) (fun y => V.int (- M x y)) (ev_var rfl) (st_of hrow) (by rw [rowV_len]; omega) (fun x => rfl) fun y v H2 e2 hy => by
        have hy2 := (List.getElem?_eq_some_iff.mp hy).1
        rw [rowV_len] at hy2
        have ev : v = .int (M x y) := by
          have z := range_at (f := fun y => V.int (M x y)) hy2
          exact (Option.some.inj (z.symm.trans hy)).symm
        subst ev
        exact ev_un (ev_var rfl) ru_neg
      rw [rowV_len] at el
      exact el
    rw [List.length_map, h2] at em
    exact em
/-! ### x + y -/
abbrev spAdd (CO CI : Addr) : Sp := SpG (γ := G2) (fun g vs H => vs = [.ref g.q, .ref g.r] ∧ OA CO g.n g.A g.p H ∧ IA CI g.n g.M g.p g.q H ∧ IA CI g.n g.N g.p g.r H ∧ Supp g.n g.A (fun x y => g.M x y + g.N x y)) (fun g v H => ∃ r, v = .ref r ∧ IA CI g.n (fun x y => g.M x y + g.N x y) g.p r H)
abbrev nAdd : List Str := ["self", "other", "size", "x", "y"]
theorem scAdd : FnScope nAdd ["self", "other"] (defScope sIAdd) := ⟨rfl, rfl, rfl, by decide +kernel, rfl, by decide +kernel, by decide +kernel⟩
theorem ok_add {f : Addr} {fd : FuncData} (F : Fun K "__add__" "Incidence.__add__" sIAdd f fd) (B : Bl mg) (I : IC K mg CI) (cSame : Cal P w K mg base 3 "check_same" ["one", "two"] (spSame CO CI)) (mk : Mkr P w K mg base 4 CI "Incidence" ["self", "order", "rows"] (spIInit CO CI)) :
    FnOk P w K mg base CX0 6 f fd ["self", "other"] (spAdd CO CI) := by
  refine F.ok scAdd (fun vs H Q E h => ?_) (fun cdv A outer s H vs Q E hr h => ?_)
  · obtain ⟨g, ⟨rfl, _⟩, _⟩ := h
    rfl
  · obtain ⟨⟨n, A, p, M, N, q, r⟩, ⟨rfl, o, m1, m2, sp⟩, k⟩ := h
    dsimp only at o m1 m2 sp
    have hn := o.le
    refine ⟨_, pss_cons (ps_expr (pc cSame hr (pa_cons (pv 0) (pa_cons (pv 1) pa_nil)))) (pss_cons (st 2 scAdd.nd (bLen K B (fl K (pv 0))))
      (pss_one (ps_ret (pmk mk hr (pa_cons (fl K (pv 0)) (pa_cons (pe_lc (own := [("x", 3)]) (g := gName 3) (tt := tYes) rfl scAdd.nd (wR1 B (pv 2))
      (blkOk_by (N := nAdd) (sc := defScope sIAdd) (by decide +kernel)) (fun _ _ _ _ _ => gn 3 scAdd.nd) (fun _ _ _ _ _ => pts_nil)
      (fun _ _ _ _ _ => pe_lc (own := [("y", 4)]) (g := gName 4) (tt := tYes) rfl scAdd.nd (wR1 B (pv 2)) (blkOk_by (N := nAdd) (sc := relS _ (defScope sIAdd)) (by decide +kernel)) (fun _ _ _ _ _ => gn 4 scAdd.nd) (fun _ _ _ _ _ => pts_nil)
        (fun _ _ _ _ _ => pe_op op_add (ixt K (ixt K (fl K (pv 0)) (pv 3)) (pv 4)) (ixt K (ixt K (fl K (pv 1)) (pv 3)) (pv 4))))) pa_nil)))))), ?_⟩
    refine q_dropP (ep_callA (⟨n, A, p, M, N, q, r⟩ : G2) (ea_cons (ev_var rfl) (ea_cons (ev_var rfl) ea_nil)) fun H1 e1 => ⟨rfl, o.mono e1, m1.mono e1, m2.mono e1⟩) fun _ H1 e1 _ => ?_
    refine q_asg (ev_rowsLen I (ev_var rfl) (m1.mono e1)) fun H2 e2 => ?_
    have e12 := e1.trans e2
    refine s_retP (ep_inc (M := fun x y => M x y + N x y) (ev_order I (ev_var rfl) (m1.mono e12)) (o.mono e12) sp (EvM.ml ?_)) fun v H3 e3 hv => k _ H3 (e12.trans e3) hv
    refine em_lcR1 (n := (n : Int)) (fun x => .lst (rowV n (fun y => M x y + N x y))) (ea_cons (ev_var rfl) ea_nil) (by omega) (fun x => rfl) fun x H3 e3 hx => EvL.o ?_
    rw [rowV_given]
    refine el_lcR1 (n := (n : Int)) (fun _ => true) (fun y => V.int (M x y + N x y)) (ea_cons (ev_var rfl) ea_nil) (by omega) (fun x => rfl) (fun y H4 e4 hy => et_yes) fun y H4 e4 hy _ => ?_
    have e := (e12.trans e3).trans e4
    exact ev_op (ev_ia I (ev_var rfl) (m1.mono e) (ev_var rfl) (ev_var rfl) (by omega) (by omega)) (ev_ia I (ev_var rfl) (m2.mono e) (ev_var rfl) (ev_var rfl) (by omega) (by omega)) rv_I0
theorem ep_op2 {r : R2} {x : V} {φ ψ : V → Hp → Prop} (ha : Ev ta σ H x) (hb : EvP tb σ H φ) (k : ∀ y H1, Ex H H1 → φ y H1 → ∀ Q : VK, (∀ w H2, Ex H1 H2 → ψ w H2 → Q w H2) → r x y H1 Q) : EvP (tOp r ta tb) σ H ψ := fun H1 e Q q =>
  ha H1 e _ fun H2 e2 => hb H2 (e.trans e2) _ fun y H3 e3 hy => k y H3 ((e.trans e2).trans e3) hy Q fun w H4 e4 hw => q w H4 ((e2.trans e3).trans e4) hw
theorem ep_un2 {r : V → Hp → VK → Prop} {x : V} {ψ : V → Hp → Prop} (ha : Ev ta σ H x) (k : ∀ H1, Ex H H1 → ∀ Q : VK, (∀ w H2, Ex H1 H2 → ψ w H2 → Q w H2) → r x H1 Q) : EvP (tUn r ta) σ H ψ := fun H1 e Q q =>
  ha H1 e _ fun H2 e2 => k H2 (e.trans e2) Q fun w H4 e4 hw => q w H4 (e2.trans e4) hw
/-! ### x - y -/
abbrev spSub (CO CI : Addr) : Sp := SpG (γ := G2) (fun g vs H => vs = [.ref g.q, .ref g.r] ∧ OA CO g.n g.A g.p H ∧ IA CI g.n g.M g.p g.q H ∧ IA CI g.n g.N g.p g.r H ∧ Supp g.n g.A g.N ∧ Supp g.n g.A (fun x y => g.M x y + - g.N x y)) (fun g v H => ∃ r, v = .ref r ∧ IA CI g.n (fun x y => g.M x y + - g.N x y) g.p r H)
theorem scSub : FnScope ["self", "other"] ["self", "other"] (defScope sISub) := ⟨rfl, rfl, rfl, by decide +kernel, rfl, by decide +kernel, by decide +kernel⟩
theorem ok_sub {f : Addr} {fd : FuncData} (F : Fun K "__sub__" "Incidence.__sub__" sISub f fd) (I : IC K mg CI) (mAdd : Met P w K mg base 6 CI "__add__" ["self", "other"] (spAdd CO CI)) (mNeg : Met P w K mg base 6 CI "__neg__" ["self"] (spNeg CO CI)) :
    FnOk P w K mg base CX0 7 f fd ["self", "other"] (spSub CO CI) := by
  refine F.ok scSub (fun vs H Q E h => ?_) (fun cdv A outer s H vs Q E hr h => ?_)
  · obtain ⟨g, ⟨rfl, _⟩, _⟩ := h
    rfl
  · obtain ⟨⟨n, A, p, M, N, q, r⟩, ⟨rfl, o, m1, m2, sN, sp⟩, k⟩ := h
    dsimp only at o m1 m2 sN sp
    have mA : Met P w K mg base 6 CI (PySem.dunder Operator.Add.info.2) ["self", "other"] (spAdd CO CI) := mAdd
    refine ⟨_, pss_one (ps_ret (pe_op (op_own mA I.sf hr) (pv 0) (pe_un (un_own mNeg hr) (pv 1)))), ?_⟩
    have neg : EvP (tUn (rOwn1 CI (spNeg CO CI)) (tVar 1)) (L2.start ["self", "other"] [.ref q, .ref r]) H (fun v H => ∃ u, v = .ref u ∧ IA CI n (fun x y => - N x y) p u H) := ep_un2 (ev_var rfl) fun H1 e1 Q q => by
      obtain ⟨dx2, t2, rs2, h02, _⟩ := id (m2.mono e1)
      exact ⟨r, dx2, _, rfl, h02, (⟨n, A, p, N, r⟩ : G1), ⟨rfl, o.mono e1, m2.mono e1, sN⟩, fun v H3 e3 hv => q v H3 e3 hv⟩
    refine s_retP (φ := fun v H => ∃ u, v = .ref u ∧ IA CI n (fun x y => M x y + - N x y) p u H) (ep_op2 (ev_var rfl) neg fun y H1 e1 hy Q q' => ?_) fun v H1 e1 hv => k v H1 e1 hv
    obtain ⟨u, rfl, mu⟩ := hy
    obtain ⟨dx1, t1, rs1, h01, _⟩ := id (m1.mono e1)
    obtain ⟨dxu, tu, rsu, h0u, _⟩ := id mu
    exact ⟨q, u, dx1, dxu, _, _, rfl, rfl, h01, h0u, (⟨n, A, p, M, fun x y => - N x y, q, u⟩ : G2), ⟨rfl, o.mono e1, m1.mono e1, mu, sp⟩, fun v H4 e4 hv => q' v H4 e4 hv⟩
end
end K27
/-! binary *, power, sums -/
namespace K27
open PySem L2 Evl
theorem Mat.nil {H0 H1 : Hp} {l : Addr} {o : Nat → HO} (h : H0 l = none) (e : Ex H0 H1) (h1 : H1 l = some (.lst [])) : Mat H0 H1 l [] 0 o :=
  ⟨h, fun _ hr => by simp at hr, List.nodup_nil, by simp, e, h1, rfl, fun i r hr => by simp at hr⟩
theorem Mat.ext {H0 H1 H2 : Hp} {l : Addr} {rs : List Addr} {n : Nat} {o : Nat → HO} (m : Mat H0 H1 l rs n o) (e : Ex H1 H2) : Mat H0 H2 l rs n o :=
  ⟨m.nl, m.nr, m.nd, m.lr, m.ex.trans e, e _ _ m.hl, m.len, fun i r hr => e _ _ (m.at_ i r hr)⟩
theorem IA.congr {CI : Addr} {n : Nat} {M N : Nat → Nat → Int} {p q : Addr} {H : Hp} (h : ∀ x y, x < n → y < n → M x y = N x y) (m : IA CI n M p q H) : IA CI n N p q H := by
  obtain ⟨dx, t, rs, h0, h1, h2, h3⟩ := m
  refine ⟨dx, t, rs, h0, h1, h2, fun x r hx => ?_⟩
  have lx : x < n := by
    rw [← h2]
    exact (List.getElem?_eq_some_iff.mp hx).1
  have e : rowV n (N x) = rowV n (M x) := List.map_congr_left fun y hy => by rw [h x y lx (List.mem_range.mp hy)]
  rw [e]
  exact h3 x r hx
theorem rowV_succ (j : Nat) (f : Nat → Int) : rowV (j + 1) f = rowV j f ++ [.int (f j)] := by
  unfold rowV
  rw [List.range_succ, List.map_append]
  rfl
def Big (i : Int) : Prop := -(2 ^ 64) < i ∧ i < 2 ^ 64
def mm (n : Nat) (M N : Nat → Nat → Int) (x y : Nat) : Int := S n fun z => M x z * N z y
section
variable {P : Program} {w : World} {K : PySem.W.Frag} {mg : Str → Option Value} {base : Heap} {σ : L2.St} {H : Hp} {CO CI : Addr} {te ta tb : TE}
/-! ### x * y -/
abbrev spMul (CO CI : Addr) : Sp := SpG (γ := G2) (fun g vs H => vs = [.ref g.q, .ref g.r] ∧ OA CO g.n g.A g.p H ∧ IA CI g.n g.M g.p g.q H ∧ IA CI g.n g.N g.p g.r H ∧ Supp g.n g.A (mm g.n g.M g.N) ∧ ∀ z y, z < g.n → y < g.n → Big (g.N z y)) (fun g v H => ∃ r, v = .ref r ∧ IA CI g.n (mm g.n g.M g.N) g.p r H)
abbrev nMul : List Str := ["self", "other", "size", "rows", "x", "row", "y", "z"]
theorem scMul : FnScope nMul ["self", "other"] (defScope sIMul) := ⟨rfl, rfl, rfl, by decide +kernel, rfl, by decide +kernel, by decide +kernel⟩
theorem ok_mul {f : Addr} {fd : FuncData} (F : Fun K "__mul__" "Incidence.__mul__" sIMul f fd) (B : Bl mg) (I : IC K mg CI) (cSame : Cal P w K mg base 3 "check_same" ["one", "two"] (spSame CO CI)) (mk : Mkr P w K mg base 4 CI "Incidence" ["self", "order", "rows"] (spIInit CO CI)) :
    FnOk P w K mg base CX0 6 f fd ["self", "other"] (spMul CO CI) := by
  refine F.ok scMul (fun vs H Q E h => ?_) (fun cdv A outer s H vs Q E hr h => ?_)
  · obtain ⟨g, ⟨rfl, _⟩, _⟩ := h
    rfl
  · obtain ⟨⟨n, A, p, M, N, q, r⟩, ⟨rfl, o, m1, m2, sp, big⟩, k⟩ := h
    dsimp only at o m1 m2 sp big
    have hn := o.le
    refine ⟨_, pss_cons (ps_expr (pc cSame hr (pa_cons (pv 0) (pa_cons (pv 1) pa_nil)))) (pss_cons (st 2 scMul.nd (bLen K B (fl K (pv 0)))) (pss_cons (st 3 scMul.nd (pe_lst pa_nil))
      (pss_cons (ps_for PassesOwn.never rfl (wR1 B (pv 2)) (gn 4 scMul.nd)
        (pss_cons (st 5 scMul.nd (pe_lst pa_nil)) (pss_cut (ps_for PassesOwn.never rfl (wR1 B (pv 2)) (gn 6 scMul.nd)
          (pss_one (ps_expr (sApp K (pv 5) (bSum K B rfl (pe_lc (own := [("z", 7)]) (g := gName 7) (tt := tYes) rfl scMul.nd (wR1 B (pv 2)) (blkOk_by (N := nMul) (sc := defScope sIMul) (by decide +kernel)) (fun _ _ _ _ _ => gn 7 scMul.nd) (fun _ _ _ _ _ => pts_nil)
            (fun _ _ _ _ _ => pe_op op_mul (ixt K (ixt K (fl K (pv 0)) (pv 4)) (pv 7)) (ixt K (ixt K (fl K (pv 1)) (pv 7)) (pv 6)))))))))
          (pss_one (ps_expr (sApp K (pv 3) (pv 5)))))))
      (pss_one (ps_ret (pmk mk hr (pa_cons (fl K (pv 0)) (pa_cons (pv 3) pa_nil)))))))), ?_⟩
    refine q_dropP (ep_callA (⟨n, A, p, M, N, q, r⟩ : G2) (ea_cons (ev_var rfl) (ea_cons (ev_var rfl) ea_nil)) fun H1 e1 => ⟨rfl, o.mono e1, m1.mono e1, m2.mono e1⟩) fun _ H1 e1 _ => ?_
    refine q_asg (ev_rowsLen I (ev_var rfl) (m1.mono e1)) fun H2 e2 => ?_
    have e12 := e1.trans e2
    refine q_asgL (el_lst ea_nil (by decide)) fun l H3 nl e3 h3 => ?_
    refine q_forR1 (n := (n : Int)) (ea_cons (ev_var rfl) ea_nil) (by omega) (fun i σ' H' => ∃ v4 v5 v6 v7 rs, σ' = [some (.ref q), some (.ref r), some (nV n), some (.ref l), v4, v5, v6, v7] ∧ Mat H2 H' l rs i (fun x => .lst (rowV n (mm n M N x))))
      (fun H4 e4 => ⟨none, none, none, none, [], rfl, Mat.nil nl (e3.trans e4) (e4 _ _ h3)⟩) ?_ ?_
    · rintro x σ' H4 hx ⟨v4, v5, v6, v7, rs, rfl, mt⟩
      have lx : x < n := by omega
      refine q_asgL (el_lst ea_nil (by decide)) fun rr H5 nr e5 h5 => ?_
      refine q_cut' (M := fun σ' H' => ∃ v6 v7, σ' = [some (.ref q), some (.ref r), some (nV n), some (.ref l), some (nV x), some (.ref rr), v6, v7] ∧ Ex H4 H' ∧ H' rr = some (.lst (rowV n (mm n M N x)))) ?_ ?_
      · refine s_forR1 (n := (n : Int)) (ea_cons (ev_var rfl) ea_nil) (by omega) (fun j σ' H' => ∃ v6 v7, σ' = [some (.ref q), some (.ref r), some (nV n), some (.ref l), some (nV x), some (.ref rr), v6, v7] ∧ Ex H4 H' ∧ H' rr = some (.lst (rowV j (mm n M N x))))
          (fun H6 e6 => ⟨v6, v7, rfl, e5.trans e6, e6 _ _ h5⟩) ?_ ?_
        · rintro y σ' H6 hy ⟨v6', v7', rfl, e6, h6⟩
          have ly : y < n := by omega
          have ee : Ex H H6 := (e12.trans mt.ex).trans e6
          refine s_app (l := rr) (xs := rowV y (mm n M N x)) (v := .int (mm n M N x y)) h6 (ev_var rfl) (ev_sum (K := K) (ns := (List.range n).map fun z => M x z * N z y) ?_) (by rw [rowV_len]; omega) fun H7 e7 => ?_
          · have q1 := el_lcR1 (σ := [some (.ref q), some (.ref r), some (nV n), some (.ref l), some (nV x), some (.ref rr), some (nV y), v7']) (H := H6) (j := 7) (vs := [7]) (n := (n : Int)) (t := tYes) (te := tOp (rI CMul fun i j => .int (i * j)) (tOp (rIxT K) (tOp (rIxT K) (tFld K (tVar 0) "rows") (tVar 4)) (tVar 7)) (tOp (rIxT K) (tOp (rIxT K) (tFld K (tVar 1) "rows") (tVar 7)) (tVar 6))) (ta := tCons (tVar 2) tNil)
              (fun _ => true) (fun z => V.int (M x z * N z y)) (ea_cons (ev_var rfl) ea_nil) (by omega) (fun x => rfl) (fun i H1 e1 hi => et_yes) (fun z H8 e8 hz _ => ev_op (ev_ia I (ev_var rfl) (m1.mono (ee.trans e8)) (ev_var rfl) (ev_var rfl) lx (by omega)) (ev_ia I (ev_var rfl) (m2.mono (ee.trans e8)) (ev_var rfl) (ev_var rfl) (by omega) ly) (rv_I (C := CMul) (.inr (big z y (by omega) ly))))
            rw [Int.toNat_natCast, given_int, range_filter_true] at q1
            exact q1
          · refine ⟨_, _, rfl, Ex.mut (e6.trans e7) nr, ?_⟩
            rw [upd_same, rowV_succ]
        · rintro σ' H6 ⟨v6', v7', rfl, e6, h6⟩
          rw [Int.toNat_natCast] at h6
          exact ⟨_, _, rfl, e6, h6⟩
      · rintro σ' H6 ⟨v6', v7', rfl, e6, h6⟩
        refine s_app (l := l) (xs := rs.map V.ref) (v := .ref rr) (e6 _ _ mt.hl) (ev_var rfl) (ev_var rfl) (by rw [List.length_map, mt.len]; omega) fun H7 e7 => ?_
        exact ⟨_, _, _, _, rs ++ [rr], rfl, (mt.turn nr (e6.trans e7) (e7 _ _ h6)).2⟩
    · rintro σ' H4 ⟨v4, v5, v6, v7, rs, rfl, mt⟩
      rw [Int.toNat_natCast] at mt
      have ee := e12.trans mt.ex
      exact s_retP (ep_inc (M := mm n M N) (ev_order I (ev_var rfl) (m1.mono ee)) (o.mono ee) sp ((Ev.p (ev_var rfl)).imp fun v H5 e5 hv => ⟨l, hv, (ML.of mt).mono e5⟩)) fun v H5 e5 hv => k _ H5 (ee.trans e5) hv
/-! ### sums -/
structure GS where
  n : Nat
  M : Nat → Nat → Int
  p : Addr
  q : Addr
  t : Addr
  v : Nat → Int
abbrev spSums (CI : Addr) : Sp := SpG (γ := GS) (fun g vs H => vs = [.ref g.q, .ref g.t] ∧ IA CI g.n g.M g.p g.q H ∧ H g.t = some (.tup (rowV g.n g.v)) ∧ g.n ≤ 10 ∧ ∀ x, x < g.n → Big (g.v x)) (fun g v H => ∃ u, v = .ref u ∧ H u = some (.tup (rowV g.n fun y => S g.n fun x => g.v x * g.M x y)))
abbrev nSums : List Str := ["self", "values", "size", "y", "x"]
theorem scSums : FnScope nSums ["self", "values"] (defScope sISums) := ⟨rfl, rfl, rfl, by decide +kernel, rfl, by decide +kernel, by decide +kernel⟩
theorem ok_sums {f : Addr} {fd : FuncData} (F : Fun K "sums" "Incidence.sums" sISums f fd) (B : Bl mg) (I : IC K mg CI) : FnOk P w K mg base CX0 1 f fd ["self", "values"] (spSums CI) := by
  refine F.ok scSums (fun vs H Q E h => ?_) (fun cdv A outer s H vs Q E hr h => ?_)
  · obtain ⟨g, ⟨rfl, _⟩, _⟩ := h
    rfl
  · obtain ⟨⟨n, M, p, q, t, v⟩, ⟨rfl, m, ht, hn, big⟩, k⟩ := h
    dsimp only at m ht hn big
    refine ⟨_, pss_cons (st 2 scSums.nd (bLen K B (fl K (pv 0)))) (pss_one (ps_ret (bTup K B (pe_lc (own := [("y", 3)]) (g := gName 3) (tt := tYes) rfl scSums.nd (wR1 B (pv 2))
      (blkOk_by (N := nSums) (sc := defScope sISums) (by decide +kernel)) (fun _ _ _ _ _ => gn 3 scSums.nd) (fun _ _ _ _ _ => pts_nil)
      (fun _ _ _ _ _ => bSum K B rfl (pe_lc (own := [("x", 4)]) (g := gName 4) (tt := tYes) rfl scSums.nd (wR1 B (pv 2)) (blkOk_by (N := nSums) (sc := relS _ (defScope sISums)) (by decide +kernel)) (fun _ _ _ _ _ => gn 4 scSums.nd) (fun _ _ _ _ _ => pts_nil)
        (fun _ _ _ _ _ => pe_op op_mul (ixt K (pv 1) (pv 4)) (ixt K (ixt K (fl K (pv 0)) (pv 4)) (pv 3))))))))), ?_⟩
    refine q_asg (ev_rowsLen I (ev_var rfl) m) fun H1 e1 => ?_
    refine s_retU (xs := rowV n fun y => S n fun x => v x * M x y) (eu_tupN (K := K) ?_) fun u H2 nu e2 hu => k _ H2 (e1.trans e2) ⟨u, rfl, hu⟩
    rw [rowV_given]
    refine el_lcR1 (n := (n : Int)) (fun _ => true) (fun y => V.int (S n fun x => v x * M x y)) (ea_cons (ev_var rfl) ea_nil) (by omega) (fun x => rfl) (fun y H3 e3 hy => et_yes) fun y H3 e3 hy _ => ?_
    have e := e1.trans e3
    refine ev_sum (K := K) (ns := (List.range n).map fun x => v x * M x y) ?_
    have q1 := el_lcR1 (σ := (wipe [some (.ref q), some (.ref t), some (nV n), none, none] [3]).set 3 (some (nV y))) (H := H3) (j := 4) (vs := [4]) (n := (n : Int)) (t := tYes) (te := tOp (rI CMul fun i j => .int (i * j)) (tOp (rIxT K) (tVar 1) (tVar 4)) (tOp (rIxT K) (tOp (rIxT K) (tFld K (tVar 0) "rows") (tVar 4)) (tVar 3))) (ta := tCons (tVar 2) tNil)
      (fun _ => true) (fun x => V.int (v x * M x y)) (ea_cons (ev_var rfl) ea_nil) (by omega) (fun x => rfl) (fun i H1 e1 hi => et_yes) (fun x H8 e8 hx _ => ev_op (ev_op (ev_var rfl) (ev_var rfl) (rv_ixT (st_of (e8 _ _ (e _ _ ht))) (rowV_at (by omega)))) (ev_ia I (ev_var rfl) (m.mono (e.trans e8)) (ev_var rfl) (ev_var rfl) (by omega) (by omega)) (rv_I (C := CMul) (.inl (big x (by omega)))))
    rw [Int.toNat_natCast, given_int, range_filter_true] at q1
    exact q1
/-! ### power of the strict function -/
def sM (L : Nat → Nat → Bool) (x y : Nat) : Int := Z L x y + - dl x y
theorem sM_eq {n : Nat} {L : Nat → Nat → Bool} (h : PO n L) (x y : Nat) : sM L x y = if L x y = true then 1 else 0 := by
  unfold sM dl
  rw [Z_split h]
  by_cases q : x = y
  · rw [if_pos q]; omega
  · rw [if_neg q]; omega
theorem mm_P {n : Nat} {L : Nat → Nat → Bool} (h : PO n L) (k : Nat) (x y : Nat) : mm n (K27.P n L k) (sM L) x y = K27.P n L (k + 1) x y := by
  rw [P_last h]
  refine S_congr fun z _ => ?_
  rw [sM_eq h, mul_ite1]
theorem supp_P {n : Nat} {A : List Nat} (h : PO n (rel A)) : ∀ k, Supp n A (K27.P n (rel A) k)
  | 0 => fun x y _ _ q => by
    have q' : (if x = y then (1 : Int) else 0) ≠ 0 := q
    by_cases e : x = y
    · exact .inl e
    · rw [if_neg e] at q'
      exact absurd rfl q'
  | k + 1 => fun x y _ _ q => by
    by_cases l : rel A x y = true
    · exact .inr l
    · exact absurd (P_supp h k x y l) q
theorem supp_sM {n : Nat} {A : List Nat} (h : PO n (rel A)) : Supp n A (sM (rel A)) := fun x y _ _ q => by
  rw [sM_eq h] at q
  by_cases l : rel A x y = true
  · exact .inr l
  · rw [if_neg l] at q
    exact absurd rfl q
theorem big_sM {n : Nat} {L : Nat → Nat → Bool} (h : PO n L) (x y : Nat) : Big (sM L x y) := by
  rw [sM_eq h]
  unfold Big
  by_cases l : L x y = true
  · rw [if_pos l]; omega
  · rw [if_neg l]; omega
structure GW where
  n : Nat
  A : List Nat
  p : Addr
  q : Addr
  k : Nat
abbrev spPower (CO CI : Addr) : Sp := SpG (γ := GW) (fun g vs H => vs = [.ref g.q, nV g.k] ∧ OA CO g.n g.A g.p H ∧ IA CI g.n (sM (rel g.A)) g.p g.q H ∧ g.k ≤ 1000) (fun g v H => ∃ r, v = .ref r ∧ IA CI g.n (K27.P g.n (rel g.A) g.k) g.p r H)
abbrev nPower : List Str := ["self", "k", "total", "_"]
theorem scPower : FnScope nPower ["self", "k"] (defScope sIPower) := ⟨rfl, rfl, rfl, by decide +kernel, rfl, by decide +kernel, by decide +kernel⟩
theorem ok_power {f : Addr} {fd : FuncData} (F : Fun K "power" "Incidence.power" sIPower f fd) (B : Bl mg) (I : IC K mg CI) (cDelta : Cal P w K mg base 6 "delta" ["order"] (spDelta CO CI)) (mMul : Met P w K mg base 6 CI "__mul__" ["self", "other"] (spMul CO CI)) :
    FnOk P w K mg base CX0 7 f fd ["self", "k"] (spPower CO CI) := by
  refine F.ok scPower (fun vs H Q E h => ?_) (fun cdv A outer s H vs Q E hr h => ?_)
  · obtain ⟨g, ⟨rfl, _⟩, _⟩ := h
    rfl
  · obtain ⟨⟨n, A, p, q, kk⟩, ⟨rfl, o, m, hk⟩, k⟩ := h
    dsimp only at o m hk
    have mM : Met P w K mg base 6 CI (PySem.dunder Operator.Mult.info.2) ["self", "other"] (spMul CO CI) := mMul
    refine ⟨_, pss_cons (st 2 scPower.nd (pc cDelta hr (pa_cons (fl K (pv 0)) pa_nil))) (pss_cons (ps_for PassesOwn.never rfl (wR1 B (pv 1)) (gn 3 scPower.nd) (pss_one (st 2 scPower.nd (pe_op (op_own mM I.sf hr) (pv 2) (pv 0))))) (pss_one (ps_ret (pv 2)))), ?_⟩
    refine q_asgP (ep_callA (n, A, p) (ea_cons (ev_order I (ev_var rfl) m) ea_nil) fun H1 e1 => ⟨rfl, o.mono e1⟩) fun v H1 e1 hv => ?_
    obtain ⟨u, rfl, mu⟩ := hv
    have mu' : IA CI n (K27.P n (rel A) 0) p u H1 := mu
    refine q_forR1 (n := (kk : Int)) (ea_cons (ev_var rfl) ea_nil) (by omega) (fun i σ' H' => ∃ u v3, σ' = [some (.ref q), some (nV kk), some (.ref u), v3] ∧ Ex H H' ∧ IA CI n (K27.P n (rel A) i) p u H') (fun H2 e2 => ⟨u, none, rfl, e1.trans e2, mu'.mono e2⟩) ?_ ?_
    · rintro i σ' H2 hi ⟨u, v3, rfl, e2, m2⟩
      have mq := m.mono e2
      refine s_asgP (φ := fun v H => ∃ r, v = .ref r ∧ IA CI n (mm n (K27.P n (rel A) i) (sM (rel A))) p r H) (ep_op2 (ev_var rfl) (Ev.p (ev_var rfl)) fun y H3 e3 hy Q q' => ?_) fun v H3 e3 hv => ?_
      · subst hy
        obtain ⟨dx1, t1, rs1, h01, _⟩ := id (m2.mono e3)
        obtain ⟨dx2, t2, rs2, h02, _⟩ := id (mq.mono e3)
        exact ⟨u, q, dx1, dx2, _, _, rfl, rfl, h01, h02, (⟨n, A, p, K27.P n (rel A) i, sM (rel A), u, q⟩ : G2), ⟨rfl, (o.mono e2).mono e3, m2.mono e3, mq.mono e3, fun x y lx ly hne => supp_P o.po (i + 1) x y lx ly (by rw [mm_P o.po] at hne; exact hne), fun z y _ _ => big_sM o.po z y⟩, fun v H4 e4 hv => q' v H4 e4 hv⟩
      · obtain ⟨r, rfl, mr⟩ := hv
        exact ⟨r, _, rfl, e2.trans e3, mr.congr fun x y _ _ => mm_P o.po i x y⟩
    · rintro σ' H2 ⟨u, v3, rfl, e2, m2⟩
      rw [Int.toNat_natCast] at m2
      exact s_ret (ev_var rfl) fun H3 e3 => k _ H3 (e2.trans e3) ⟨u, rfl, m2.mono e3⟩
end
end K27
/-! upwards -/
namespace K27
open PySem L2 Evl
theorem orAll_bit : ∀ (ps : List Nat) (m z : Nat), (ps.foldl (fun m x => m ||| 2 ^ x) m).testBit z = (m.testBit z || decide (z ∈ ps))
  | [], m, z => by simp
  | p :: ps, m, z => by
    rw [List.foldl_cons, orAll_bit ps, Nat.testBit_or, Nat.testBit_two_pow, Bool.or_assoc]
    congr 1
    rw [Bool.eq_iff_iff]
    simp only [Bool.or_eq_true, decide_eq_true_iff, List.mem_cons]
    constructor
    · rintro (h | h)
      · exact .inl h.symm
      · exact .inr h
    · rintro (h | h)
      · exact .inl h.symm
      · exact .inr h
theorem bl_bit {n : Nat} {A : List Nat} (h : PO n (rel A)) (y z : Nat) : (bl n A y).testBit z = rel A z y := by
  unfold bl orAll
  rw [orAll_bit, Nat.zero_testBit, Bool.false_or]
  rw [Bool.eq_iff_iff, decide_eq_true_iff, List.mem_filter]
  exact ⟨fun q => q.2, fun q => ⟨List.mem_range.mpr (h.bd _ _ q).1, q⟩⟩
theorem and_two (m z : Nat) : m &&& 2 ^ z = if m.testBit z = true then 2 ^ z else 0 := by
  apply Nat.eq_of_testBit_eq
  intro i
  rw [Nat.testBit_and, Nat.testBit_two_pow]
  by_cases e : z = i
  · subst e
    cases q : m.testBit z with
    | true => rw [if_pos rfl, Nat.testBit_two_pow]; simp
    | false => rw [if_neg Bool.false_ne_true]; simp
  · rw [decide_eq_false e, Bool.and_false]
    split
    · rw [Nat.testBit_two_pow, decide_eq_false e]
    · simp
/-- m & (1 << z) != 0 -/
theorem and_bit (m z : Nat) : (!decide (V.int (Builtin.bitAnd (m : Int) (1 * 2 ^ ((z : Int)).toNat)) = V.int 0)) = m.testBit z := by
  rw [shl_nat, and_nat, dec_int, and_two]
  have hp : 0 < 2 ^ z := Nat.two_pow_pos z
  cases q : m.testBit z with
  | true =>
    rw [if_pos rfl]
    have : ¬ ((2 ^ z : Nat) : Int) = 0 := by omega
    rw [beq_eq_false_iff_ne.mpr this]
    rfl
  | false =>
    rw [if_neg Bool.false_ne_true]
    rfl
theorem inV_nat (z : Nat) (fd : List Nat) : inV (nV z) (fd.map nV) = decide (z ∈ fd) := by
  unfold inV
  induction fd with
  | nil => rfl
  | cons a r ih =>
    rw [List.map_cons, List.any_cons, ih, Bool.eq_iff_iff]
    simp only [Bool.or_eq_true, decide_eq_true_iff, List.mem_cons]
    have e : (eqV (nV a) (nV z) = true) ↔ z = a := by
      show ((a : Int) == (z : Int)) = true ↔ z = a
      simp only [beq_iff_eq]
      omega
    rw [e]
theorem all_flat (fd : List Nat) : (fd.map nV).all flatV = true := by
  rw [List.all_eq_true]
  intro v hv
  obtain ⟨m, _, rfl⟩ := List.mem_map.mp hv
  rfl
theorem list_range (R : List Nat) : R = (List.range R.length).map fun i => R.getD i 0 := by
  apply List.ext_getElem?
  intro i
  rw [List.getElem?_map]
  rcases Nat.lt_or_ge i R.length with h | h
  · rw [List.getElem?_range h, List.getElem?_eq_getElem h]
    show _ = some (R.getD i 0)
    rw [List.getD_eq_getElem?_getD, List.getElem?_eq_getElem h]
    rfl
  · rw [List.getElem?_eq_none h, List.getElem?_eq_none (by rw [List.length_range]; exact h)]
    rfl
theorem given_filter (R : List Nat) (p : Nat → Bool) : given R.length (fun i => p (R.getD i 0)) (fun i => nV (R.getD i 0)) = (R.filter p).map nV := by
  unfold given
  have e : R.filter p = ((List.range R.length).filter fun i => p (R.getD i 0)).map fun i => R.getD i 0 := by
    conv => lhs; rw [list_range R, List.filter_map]
    rfl
  rw [e, List.map_map]
  rfl
theorem ripe_iff {n : Nat} {A : List Nat} (h : PO n (rel A)) (x y : Nat) (fd : List Nat) :
    ((((List.range n).filter fun z => rel A z y).map fun z => (decide (z ∈ fd) || !(rel A x z))).all id = true) ↔ Ripe (rel A) x fd y := by
  rw [List.all_eq_true]
  constructor
  · intro q z l
    have := q _ (List.mem_map.mpr ⟨z, List.mem_filter.mpr ⟨List.mem_range.mpr (h.bd _ _ l).1, l⟩, rfl⟩)
    simp only [id, Bool.or_eq_true, decide_eq_true_iff, Bool.not_eq_true'] at this
    rcases this with t | t
    · exact .inl t
    · exact .inr (by rw [t]; exact Bool.false_ne_true)
  · intro q b hb
    obtain ⟨z, hz, rfl⟩ := List.mem_map.mp hb
    have l := (List.mem_filter.mp hz).2
    show (decide (z ∈ fd) || !(rel A x z)) = true
    rcases q z l with t | t
    · rw [decide_eq_true t]; rfl
    · have : rel A x z = false := by simpa using t
      rw [this]
      simp
section
variable {P : Program} {w : World} {K : PySem.W.Frag} {mg : Str → Option Value} {base : Heap} {σ : L2.St} {H : Hp} {CO CI : Addr} {te ta tb : TE}
theorem ptNotIn (K : PySem.W.Frag) {X : Cx} {a b : Expr} {ta tb : TE} {pos : Pos} (ha : PE X a ta) (hb : PE X b tb) (hm : behindInMarks .NotIn b = false := by rfl) (hK : X.K = K := by rfl) : PT X (.Compare a [.NotIn] [b] pos) (tTest (tOp (rIn K true) ta tb)) := by
  subst hK
  exact pt_cmpR op_notIn_seq ha hb hm
theorem ev_cat {l : Addr} {xs ys : List V} (ha : Ev ta σ H (.ref l)) (hl : H l = some (.lst xs)) (hb : EvL tb σ H ys) (hz : xs.length + ys.length ≤ 100000) : EvL (tOp rCat ta tb) σ H (xs ++ ys) := fun H1 e Q q =>
  ha H1 e _ fun H2 e2 => hb H2 (e.trans e2) _ fun p H3 np e3 h3 => ⟨l, p, xs, ys, rfl, rfl, e3 _ _ (e2 _ _ (e _ _ hl)), h3, sz_of hz, fun u nu => q u _ (fresh_back (e2.trans e3) nu) ((e2.trans e3).trans (Ex.new nu)) upd_same⟩
/-- between two turns of the while -/
def UpW (n : Nat) (A : List Nat) (x : Nat) (p tb : Addr) (H1 : Hp) (m : Nat) (σ' : L2.St) (H' : Hp) : Prop := ∃ (lf lr : Addr) (v5 v6 : Option V) (fd R : List Nat), σ' = [some (.ref p), some (nV x), some (.ref tb), some (.ref lf), some (.ref lr), v5, v6] ∧ Ex H1 H' ∧ H1 lf = none ∧ H' lf = some (.lst (fd.map nV)) ∧ H' lr = some (.lst (R.map nV)) ∧ Upw (rel A) x fd ∧
  (∀ y, y ∈ R ↔ rel A x y = true ∧ y ∉ fd) ∧ R.length ≤ n ∧ fd.length + n * R.length ≤ 1 + n * n ∧ m = R.length
structure GU where
  n : Nat
  A : List Nat
  p : Addr
  x : Nat
def spUp (CO : Addr) : Sp := fun vs H Q _ => ∃ g : GU, (vs = [.ref g.p, nV g.x] ∧ OA CO g.n g.A g.p H ∧ g.x < g.n) ∧ ∀ (l : Addr) (us : List Nat) (H' : Hp), Ex H H' → H l = none → H' l = some (.lst (us.map nV)) → Upw (rel g.A) g.x us → (∀ y, rel g.A g.x y = true → y ∈ us) → us.length ≤ 1000 → Q (.ref l) H'
abbrev nUp : List Str := ["order", "x", "below", "found", "rest", "y", "z"]
theorem scUp : FnScope nUp ["order", "x"] (defScope sUpwards) := ⟨rfl, rfl, rfl, by decide +kernel, rfl, by decide +kernel, by decide +kernel⟩
theorem ok_up {f : Addr} {fd : FuncData} (F : Fun K "upwards" "upwards" sUpwards f fd) (B : Bl mg) (mSize : Met P w K mg base 1 CO "size" ["self"] (spSize CO)) (mLess : Met P w K mg base 2 CO "less" ["self", "x", "y"] (spLess CO)) (mBelow : Met P w K mg base 2 CO "below" ["self"] (spBelow CO)) :
    FnOk P w K mg base CX0 3 f fd ["order", "x"] (spUp CO) := by
  refine F.ok scUp (fun vs H Q E h => ?_) (fun cdv A outer s H vs Q E hr h => ?_)
  · obtain ⟨g, ⟨rfl, _⟩, _⟩ := h
    rfl
  · obtain ⟨⟨n, A, p, x⟩, ⟨rfl, o, lx⟩, k⟩ := h
    dsimp only at o lx
    have hn := o.le
    have po := o.po
    refine ⟨_, pss_cons (st 2 scUp.nd (pm0 mBelow (pv 0) hr)) (pss_cons (st 3 scUp.nd (pe_lst (pa_cons (pv 1) pa_nil)))
      (pss_cons (ps_setLc (i := 4) (own := [("y", 5)]) (g := gName 5) rfl scUp.nd rfl rfl (sw_true rfl rfl rfl (by decide +kernel)) (wR1 B (pm0 mSize (pv 0) hr)) (blkOk_by (N := nUp) (sc := defScope sUpwards) (by decide +kernel)) (fun _ _ _ _ _ => gn 5 scUp.nd)
        (fun _ _ _ _ _ => pts_one (pt_val (pm mLess (pv 0) hr (pa_cons (pv 1) (pa_cons (pv 5) pa_nil))))) (fun _ _ _ _ _ => pv 5))
      (pss_cons (ps_while PassesOwn.never (pt_cmpR op_gt (bLen K B (pv 4)) pe_int (nomark _))
        (pss_cut (ps_for PassesOwn.never rfl (wList K (bList K B (pv 4))) (gn 5 scUp.nd)
          (pss_one (ps_if (pt_val (bAll K B rfl (pe_lc (own := [("z", 6)]) (g := gName 6) rfl scUp.nd (wR1 B (pm0 mSize (pv 0) hr)) (blkOk_by (N := nUp) (sc := defScope sUpwards) (by decide +kernel)) (fun _ _ _ _ _ => gn 6 scUp.nd)
              (fun _ _ _ _ _ => pts_one (pt_cmpR op_ne (pe_op op_and (ixt K (pv 2) (pv 5)) (pe_op op_shl pe_int (pv 6))) pe_int (nomark _)))
              (fun _ _ _ _ _ => pe_or (cIn K (pv 6) (pv 3)) (pe_one (pe_not (pm mLess (pv 0) hr (pa_cons (pv 1) (pa_cons (pv 6) pa_nil)))))))))
            (pss_one (st 3 scUp.nd (pe_op op_cat (pv 3) (pe_lst (pa_cons (pv 5) pa_nil))))) pss_nil)))
        (pss_one (ps_setLc (i := 4) (own := [("y", 5)]) (g := gName 5) rfl scUp.nd rfl rfl (sw_true rfl rfl rfl (by decide +kernel)) (wList K (pv 4)) (blkOk_by (N := nUp) (sc := defScope sUpwards) (by decide +kernel)) (fun _ _ _ _ _ => gn 5 scUp.nd)
          (fun _ _ _ _ _ => pts_one (ptNotIn K (pv 5) (pv 3))) (fun _ _ _ _ _ => pv 5)))))
      (pss_one (ps_ret (pv 3)))))), ?_⟩
    -- below = order.below()
    obtain ⟨dxO, tO, hO1, hO2⟩ := id o.ob
    refine q_asgP (ep_methA (n, A, p) (ev_var rfl) hO1 (oF_no n tO (by decide +kernel) (by decide +kernel)) ea_nil fun H1 e1 => ⟨rfl, o.mono e1⟩) fun v H1 e1 hv => ?_
    obtain ⟨tb, rfl, htb⟩ := hv
    -- found = [x]
    refine q_asgL (el_lst (ea_cons (ev_var rfl) ea_nil) (by show 1 ≤ 100000; decide)) fun lf H2 nf e2 hf => ?_
    have e12 := e1.trans e2
    -- rest = ..
    have o2 := o.mono e12
    have rst : EvL (tLc (iRng1 (tCons (tMeth CO "size" (spSize CO) [] E0 (tVar 0) tNil) tNil)) (gName 5) (tB (tMeth CO "less" (spLess CO) [] E0 (tVar 0) (tCons (tVar 1) (tCons (tVar 5) tNil)))) (tVar 5) [5]) [some (.ref p), some (nV x), some (.ref tb), some (.ref lf), none, none, none] H2 (((List.range n).filter fun y => rel A x y).map nV) :=
      el_lcR1 (n := (n : Int)) (fun y => rel A x y) (fun y => nV y) (ea_cons (ev_size (ev_var rfl) o2) ea_nil) (by omega) (fun x => rfl) (fun y H3 e3 hy => et_B (ev_less (ev_var rfl) (o2.mono e3) (ev_var rfl) (ev_var rfl) lx)) (fun y H3 e3 hy _ => ev_var rfl)
    refine q_asgL rst fun lr H3 nr e3 hr3 => ?_
    have lenR : ((List.range n).filter fun y => rel A x y).length ≤ n := by
      have h := List.length_filter_le (fun y => rel A x y) (List.range n)
      rw [List.length_range] at h
      exact h
    -- while
    refine q_while (UpW n A x p tb H1) _ ⟨lf, lr, none, none, [x], _, rfl, e2.trans e3, nf, e3 _ _ hf, hr3, Upw.start po x, fun y => ?_, lenR, ?_, rfl⟩ ?_
    · rw [List.mem_filter, List.mem_range, List.mem_singleton]
      constructor
      · rintro ⟨_, h⟩
        refine ⟨h, fun e => ?_⟩
        rw [e, po.irr] at h
        cases h
      · rintro ⟨h, _⟩
        exact ⟨(po.bd _ _ h).2, h⟩
    · show 1 + n * ((List.range n).filter fun y => rel A x y).length ≤ 1 + n * n
      have := Nat.mul_le_mul_left n lenR
      omega
    · rintro m σ' H' ⟨lf, lr, v5, v6, fd, R, rfl, e', nlf, hlf, hlr, up, hR, hRn, hlen, rfl⟩
      refine ⟨decide (0 < R.length), et_test (ev_is (ev_op (ev_len (ev_var rfl) (sq_of hlr)) ev_c rv_I0) ?_), fun hb H4 e4 => ?_, fun hb H4 e4 => ?_⟩
      · refine congrArg V.bl ?_
        rw [List.length_map, Bool.eq_iff_iff, decide_eq_true_iff, decide_eq_true_iff]
        omega
      · -- the body
        have hR0 : R ≠ [] := fun q => by
          rw [q] at hb
          exact absurd hb (by decide)
        refine ⟨fun σ2 H2 => ∃ m', m' < R.length ∧ UpW n A x p tb H1 m' σ2 H2, fun σ2 H2 h => h, ?_⟩
        have e14 := e'.trans e4
        have hnn : n * n ≤ 100 := by
          have := Nat.mul_le_mul hn hn
          omega
        refine q_cut' (M := fun σ2 H2 => ∃ (lf : Addr) (v5 v6 : Option V) (fd' : List Nat), σ2 = [some (.ref p), some (nV x), some (.ref tb), some (.ref lf), some (.ref lr), v5, v6] ∧ Ex H4 H2 ∧ H1 lf = none ∧ H2 lf = some (.lst (fd'.map nV)) ∧ Pass (rel A) x fd R R.length fd') ?_ ?_
        · refine s_forNL (xs := R.map nV) (el_list (ev_var rfl) (sq_of (e4 _ _ hlr))) (fun c i σ2 H2 => ∃ (lf : Addr) (v5 v6 : Option V) (fd' : List Nat), σ2 = [some (.ref p), some (nV x), some (.ref tb), some (.ref lf), some (.ref lr), v5, v6] ∧ Ex H4 H2 ∧ H2 c = some (.lst (R.map nV)) ∧ H1 lf = none ∧ H2 lf = some (.lst (fd'.map nV)) ∧ Pass (rel A) x fd R i fd')
            (fun c H5 nc e5 hc => ⟨lf, v5, v6, fd, rfl, e5, hc, nlf, e5 _ _ (e4 _ _ hlf), Pass.start up⟩) (fun c i σ2 H2 _ ⟨_, _, _, _, _, _, h, _⟩ => sq_of h) ?_ ?_
          · rintro c i yv σ2 H5 hi ⟨lf', v5', v6', fd', rfl, e5, hc, nlf', hlf', ps⟩
            obtain ⟨y, hy, rfl⟩ := get_map hi
            have ly := (hR y).mp (List.mem_of_getElem? hy)
            have lyn := (po.bd _ _ ly.1).2
            have e45 := e14.trans e5
            have o5 := (o.mono e1).mono e45
            have htb5 := e45 _ _ htb
            have test : Ev (tCB (rAll K) (tCons (tLc (iRng1 (tCons (tMeth CO "size" (spSize CO) [] E0 (tVar 0) tNil) tNil)) (gName 6) (tTest (tOp rNe (tOp (rI0 fun i j => .int (Builtin.bitAnd i j)) (tOp (rIxT K) (tVar 2) (tVar 5)) (tOp (rI CPow fun i j => .int (i * 2 ^ j.toNat)) (tC (.int 1)) (tVar 6))) (tC (.int 0))))
                (tOrV (tOp (rIn K false) (tVar 6) (tVar 3)) (tNotV (tMeth CO "less" (spLess CO) [] E0 (tVar 0) (tCons (tVar 1) (tCons (tVar 6) tNil))))) [6]) tNil)) [some (.ref p), some (nV x), some (.ref tb), some (.ref lf'), some (.ref lr), some (nV y), v6'] H5
                (.bl ((((List.range n).filter fun z => rel A z y).map fun z => (decide (z ∈ fd') || !(rel A x z))).all id)) := by
              refine ev_all ?_
              have q1 := el_lcR1 (σ := [some (.ref p), some (nV x), some (.ref tb), some (.ref lf'), some (.ref lr), some (nV y), v6']) (H := H5) (j := 6) (vs := [6]) (n := (n : Int)) (ta := tCons (tMeth CO "size" (spSize CO) [] E0 (tVar 0) tNil) tNil)
                (t := tTest (tOp rNe (tOp (rI0 fun i j => .int (Builtin.bitAnd i j)) (tOp (rIxT K) (tVar 2) (tVar 5)) (tOp (rI CPow fun i j => .int (i * 2 ^ j.toNat)) (tC (.int 1)) (tVar 6))) (tC (.int 0))))
                (te := tOrV (tOp (rIn K false) (tVar 6) (tVar 3)) (tNotV (tMeth CO "less" (spLess CO) [] E0 (tVar 0) (tCons (tVar 1) (tCons (tVar 6) tNil)))))
                (fun z => rel A z y) (fun z => V.bl (decide (z ∈ fd') || !(rel A x z))) (ea_cons (ev_size (ev_var rfl) o5) ea_nil) (by omega) (fun x => rfl)
                (fun z H6 e6 hz => et_test (ev_is (ev_op (ev_op (ev_op (ev_var rfl) (ev_var rfl) (rv_ixT (st_of (e6 _ _ htb5)) (atI_nat (range_at (f := fun y => nV (bl n A y)) lyn)))) (ev_op ev_c (ev_var rfl) (rv_I (C := CPow) ⟨Int.natCast_nonneg z, by omega, by decide⟩)) rv_I0) ev_c (rv_ne rfl)) (congrArg V.bl (by rw [and_bit, bl_bit po]))))
                (fun z H6 e6 hz _ => ev_orV (ev_is (ev_op (ev_var rfl) (ev_var rfl) (rv_isL (sq_of (e6 _ _ hlf')) rfl (all_flat fd'))) (congrArg V.bl (inV_nat z fd'))) (fun _ => ev_notV (ev_less (ev_var rfl) (o5.mono e6) (ev_var rfl) (ev_var rfl) lx)))
              rw [Int.toNat_natCast, given_bl] at q1
              exact q1
            refine s_when (et_B test) (fun hb H6 e6 => ?_) (fun hb H6 e6 => ?_)
            · have rp := (ripe_iff po x y fd').mp hb
              have hl' := ps.len
              have hir : i < R.length := (List.getElem?_eq_some_iff.mp hy).1
              have hfl : fd.length ≤ 1 + n * n := by omega
              refine s_asgL (xs := fd'.map nV ++ [nV y]) (ev_cat (ev_var rfl) (e6 _ _ hlf') (el_lst (ea_cons (ev_var rfl) ea_nil) (by show 1 ≤ 100000; decide)) (by rw [List.length_map]; show fd'.length + 1 ≤ 100000; omega)) fun u H7 nu e7 hu => ?_
              refine ⟨u, _, _, fd' ++ [y], rfl, (e5.trans e6).trans e7, e7 _ _ (e6 _ _ hc), fresh_back (e45.trans e6) nu, ?_, ps.turnT ly.1 hy rp⟩
              rw [hu, List.map_append]
              rfl
            · have rp : ¬ Ripe (rel A) x fd' y := fun q => by
                rw [(ripe_iff po x y fd').mpr q] at hb
                cases hb
              exact ⟨lf', _, _, fd', rfl, e5.trans e6, e6 _ _ hc, nlf', e6 _ _ hlf', ps.turnF hy rp⟩
          · rintro c σ2 H5 ⟨lf', v5', v6', fd', rfl, e5, hc, nlf', hlf', ps⟩
            rw [List.length_map] at ps
            exact ⟨lf', _, _, fd', rfl, e5, nlf', hlf', ps⟩
        · rintro σ2 H5 ⟨lf', v5', v6', fd', rfl, e5, nlf', hlf', ps⟩
          have fin := ps.fin po hR hR0
          have hlr5 := e5 _ _ (e4 _ _ hlr)
          have rst : EvL (tLc (iList K (tVar 4)) (gName 5) (tTest (tOp (rIn K true) (tVar 5) (tVar 3))) (tVar 5) [5]) [some (.ref p), some (nV x), some (.ref tb), some (.ref lf'), some (.ref lr), v5', v6'] H5 ((R.filter fun y => decide (y ∉ fd')).map nV) := by
            rw [← given_filter]
            have q1 := el_lcL (K := K) (σ := [some (.ref p), some (nV x), some (.ref tb), some (.ref lf'), some (.ref lr), v5', v6']) (H := H5) (a := lr) (xs := R.map nV) (tl := tVar 4) (j := 5) (vs := [5]) (t := tTest (tOp (rIn K true) (tVar 5) (tVar 3))) (te := tVar 5)
              (fun i => decide (R.getD i 0 ∉ fd')) (fun i => nV (R.getD i 0)) (ev_var rfl) (sq_of hlr5) (by rw [List.length_map]; omega) (fun x => rfl)
              (fun i xv H6 e6 hi => by
                obtain ⟨y, hy, rfl⟩ := get_map hi
                have ey : R.getD i 0 = y := by rw [List.getD_eq_getElem?_getD, hy]; rfl
                rw [ey]
                refine et_test (ev_is (ev_op (ev_var rfl) (ev_var rfl) (rv_niL (sq_of (e6 _ _ hlf')) rfl (all_flat fd'))) (congrArg V.bl ?_))
                rw [inV_nat]
                simp)
              (fun i xv H6 e6 hi _ => by
                obtain ⟨y, hy, rfl⟩ := get_map hi
                have ey : R.getD i 0 = y := by rw [List.getD_eq_getElem?_getD, hy]; rfl
                rw [ey]
                exact ev_var rfl)
            rw [List.length_map] at q1
            exact q1
          refine s_asgL rst fun lr' H6 nr' e6 hr6 => ?_
          refine ⟨_, fin.2, lf', lr', v5', v6', fd', _, rfl, (e14.trans e5).trans e6, nlf', e6 _ _ hlf', hr6, ps.up, fin.1, by omega, ?_, rfl⟩
          have hl' := ps.len
          have hlt := fin.2
          have h1 : n * ((R.filter fun y => decide (y ∉ fd')).length + 1) ≤ n * R.length := Nat.mul_le_mul_left n hlt
          rw [Nat.mul_succ] at h1
          omega
      · -- behind
        have hR0 : R = [] := by
          have : ¬ 0 < R.length := of_decide_eq_false hb
          exact List.eq_nil_of_length_eq_zero (by omega)
        have hnn : n * n ≤ 100 := by
          have := Nat.mul_le_mul hn hn
          omega
        refine s_ret (ev_var rfl) fun H5 e5 => k lf fd H5 (e1.trans ((e'.trans e4).trans e5)) (fresh_back e1 nlf) (e5 _ _ (e4 _ _ hlf)) up (fun y hy => ?_) (by show fd.length ≤ 1000; omega)
        by_cases q : y ∈ fd
        · exact q
        · have := (hR y).mpr ⟨hy, q⟩
          rw [hR0] at this
          simp at this
end
end K27
/-! inverse of zeta, moebius, chains_between -/
namespace K27
open PySem L2 Evl
/-- the object at rs[i] written -/
theorem Mat.set {H0 H' H2 : Hp} {l r : Addr} {rs : List Addr} {n i : Nat} {o : Nat → HO} {o' : HO} (m : Mat H0 H' l rs n o) (hr : rs[i]? = some r) (e : Ex H' H2) : Mat H0 (upd H2 r o') l rs n (fun k => if k = i then o' else o k) := by
  have hm := List.mem_of_getElem? hr
  have lr : l ≠ r := fun q => m.lr (q ▸ hm)
  refine ⟨m.nl, m.nr, m.nd, m.lr, Ex.mut (m.ex.trans e) (m.nr r hm), ?_, m.len, fun k r' hk => ?_⟩
  · rw [upd_ne lr]
    exact e _ _ m.hl
  · by_cases q : k = i
    · subst q
      rw [hr] at hk
      cases hk
      rw [upd_same]
      exact congrArg some (if_pos rfl).symm
    · have nrr : r' ≠ r := fun z => by
        rw [z] at hk
        obtain ⟨h1, e1⟩ := List.getElem?_eq_some_iff.mp hk
        obtain ⟨h2, e2⟩ := List.getElem?_eq_some_iff.mp hr
        exact q ((List.getElem_inj m.nd).mp (e1.trans e2.symm))
      rw [upd_ne nrr]
      show H2 r' = some (if k = i then o' else o k)
      rw [if_neg q]
      exact e _ _ (m.at_ k r' hk)
theorem Mat.congr {H0 H1 : Hp} {l : Addr} {rs : List Addr} {n : Nat} {o o' : Nat → HO} (m : Mat H0 H1 l rs n o) (h : ∀ i, i < n → o i = o' i) : Mat H0 H1 l rs n o' :=
  ⟨m.nl, m.nr, m.nd, m.lr, m.ex, m.hl, m.len, fun i r hr => by
    have hi : i < n := by rw [← m.len]; exact (List.getElem?_eq_some_iff.mp hr).1
    rw [← h i hi]
    exact m.at_ i r hr⟩
theorem rowV_congr {n : Nat} {f g : Nat → Int} (h : ∀ y, y < n → f y = g y) : rowV n f = rowV n g := List.map_congr_left fun y hy => by rw [h y (List.mem_range.mp hy)]
theorem rowV_set {n : Nat} {f : Nat → Int} {y : Nat} {v : Int} : (rowV n f).set y (.int v) = rowV n (fun k => if k = y then v else f k) := by
  apply List.ext_getElem?
  intro i
  by_cases hi : i < n
  · rw [show (rowV n fun k => if k = y then v else f k)[i]? = some (.int (if i = y then v else f i)) from range_at (f := fun k => V.int (if k = y then v else f k)) hi]
    by_cases e : i = y
    · subst e
      rw [List.getElem?_set_self (by rw [rowV_len]; exact hi), if_pos rfl]
    · rw [List.getElem?_set_ne (fun q => e q.symm), if_neg e]
      exact range_at (f := fun k => V.int (f k)) hi
  · rw [List.getElem?_eq_none (by rw [List.length_set, rowV_len]; omega), List.getElem?_eq_none (by rw [rowV_len]; omega)]
/-- the rows while the row x is filled: dn are the points done -/
def Fx (n : Nat) (L : Nat → Nat → Bool) (x : Nat) (dn : List Nat) (i k : Nat) : Int := if i < x then mu n L i k else if i = x then (if k ∈ dn then mu n L x k else 0) else 0
theorem Fx_push {n : Nat} {L : Nat → Nat → Bool} {x y i : Nat} {dn : List Nat} : (fun k => if i = x then (if k = y then mu n L x y else Fx n L x dn x k) else Fx n L x dn i k) = Fx n L x (dn ++ [y]) i := by
  funext k
  by_cases e : i = x
  · rw [if_pos e]
    unfold Fx
    rw [if_neg (Nat.lt_irrefl x), if_pos rfl, e, if_neg (Nat.lt_irrefl x), if_pos rfl]
    by_cases q : k = y
    · subst q
      rw [if_pos rfl, if_pos (List.mem_append_right _ (List.mem_singleton.mpr rfl))]
    · rw [if_neg q]
      by_cases z : k ∈ dn
      · rw [if_pos z, if_pos (List.mem_append_left _ z)]
      · rw [if_neg z, if_neg]
        intro c
        rcases List.mem_append.mp c with c | c
        · exact z c
        · exact q (List.mem_singleton.mp c)
  · rw [if_neg e]
    unfold Fx
    rw [if_neg e, if_neg e]
theorem Fx_next {n : Nat} {L : Nat → Nat → Bool} (h : PO n L) {x : Nat} {us : List Nat} (up : Upw L x us) (all : ∀ y, L x y = true → y ∈ us) (i : Nat) : Fx n L x us i = Fx n L (x + 1) [] i := by
  funext k
  unfold Fx
  by_cases e : i = x
  · rw [e, if_neg (Nat.lt_irrefl x), if_pos rfl, if_pos (Nat.lt_succ_self x)]
    by_cases z : k ∈ us
    · rw [if_pos z]
    · rw [if_neg z]
      have h1 : ¬ x = k := fun q => z (q ▸ up.hx)
      have h2 : ¬ L x k = true := fun q => z (all k q)
      exact (mu_out h h1 h2).symm
  · by_cases q : i < x
    · rw [if_pos q, if_pos (Nat.lt_succ_of_lt q)]
    · rw [if_neg q, if_neg e, if_neg (show ¬ i < x + 1 by omega)]
      by_cases z : i = x + 1
      · rw [if_pos z, if_neg (by simp)]
      · rw [if_neg z]
theorem Fx_start {n : Nat} {L : Nat → Nat → Bool} (i : Nat) : (fun _ : Nat => (0 : Int)) = Fx n L 0 [] i := by
  funext k
  unfold Fx
  rw [if_neg (Nat.not_lt_zero i)]
  by_cases z : i = 0
  · rw [if_pos z, if_neg (by simp)]
  · rw [if_neg z]
theorem Fx_end {n : Nat} {L : Nat → Nat → Bool} {i : Nat} (hi : i < n) : Fx n L n [] i = mu n L i := by
  funext k
  unfold Fx
  rw [if_pos hi]
theorem supp_mu {n : Nat} {A : List Nat} (h : PO n (rel A)) : Supp n A (mu n (rel A)) := fun x y _ _ q => by
  by_cases e : x = y
  · exact .inl e
  · by_cases l : rel A x y = true
    · exact .inr l
    · exact absurd (mu_out h e l) q
theorem big_Z (L : Nat → Nat → Bool) (x y : Nat) : Big (Z L x y) := by
  unfold Z Big
  by_cases l : x = y ∨ L x y = true
  · rw [if_pos l]; omega
  · rw [if_neg l]; omega
theorem Z_diag (L : Nat → Nat → Bool) (x : Nat) : Z L x x = 1 := if_pos (.inl rfl)
section
variable {P : Program} {w : World} {K : PySem.W.Frag} {mg : Str → Option Value} {base : Heap} {σ : L2.St} {H : Hp} {CO CI : Addr} {te ta tb : TE}
theorem q_asgM {i n : Nat} {o : Nat → HO} {D : Ends} {tz : TS} (h : EvM te σ H n o) (k : ∀ l rs H1, Mat H H1 l rs n o → tz D (σ.set i (some (.ref l))) H1) : tSeq (tAsg te (gName i)) tz D σ H := h H (Ex.refl H) _ k
theorem cNotInT {X : Cx} (K : PySem.W.Frag) {a b : Expr} {ta tb : TE} {pos : Pos} (ha : PE X a ta) (hb : PE X b tb) (hm : behindInMarks .NotIn b = false := by rfl) (hK : X.K = K := by rfl) : PT X (.Compare a [.NotIn] [b] pos) (tTest (tOp (rIn K true) ta tb)) := ptNotIn K ha hb hm hK
theorem u_for {j n x : Nat} {A : List Nat} {p : Addr} {te tx : TE} {tu : TS} {D : Ends} {E : XK} (ho : Ev te σ H (.ref p)) (hx : Ev tx σ H (nV x)) (o : OA CO n A p H) (lx : x < n)
    (k : ∀ (c : Addr) (us : List Nat) (H' : Hp), Ex H H' → H c = none → H' c = some (.lst (us.map nV)) → Upw (rel A) x us → (∀ y, rel A x y = true → y ∈ us) → us.length ≤ 1000 → tFor (iList K (tC (.ref c))) (gName j) tu D σ H') :
    tFor (iList K (tCall (spUp CO) [] E (tCons te (tCons tx tNil)))) (gName j) tu D σ H :=
  ho H (Ex.refl H) _ fun H1 e1 => hx H1 e1 _ fun H2 e2 => ⟨(⟨n, A, p, x⟩ : GU), ⟨rfl, o.mono (e1.trans e2), lx⟩, fun c us H' e nc hc up all hus => k c us H' ((e1.trans e2).trans e) (fresh_back (e1.trans e2) nc) hc up all hus⟩
abbrev spInverse (CO CI : Addr) : Sp := SpG (γ := GU) (fun g vs H => ∃ q, vs = [.ref q] ∧ OA CO g.n g.A g.p H ∧ IA CI g.n (Z (rel g.A)) g.p q H) (fun g v H => ∃ r, v = .ref r ∧ IA CI g.n (mu g.n (rel g.A)) g.p r H)
abbrev nInv : List Str := ["self", "size", "x", "rows", "y", "total", "_", "z"]
theorem scInv : FnScope nInv ["self"] (defScope sIInverse) := ⟨rfl, rfl, rfl, by decide +kernel, rfl, by decide +kernel, by decide +kernel⟩
theorem ok_inverse {f : Addr} {fd : FuncData} (F : Fun K "inverse" "Incidence.inverse" sIInverse f fd) (B : Bl mg) (I : IC K mg CI) (cUp : Cal P w K mg base 3 "upwards" ["order", "x"] (spUp CO)) (mk : Mkr P w K mg base 4 CI "Incidence" ["self", "order", "rows"] (spIInit CO CI)) :
    FnOk P w K mg base CX0 6 f fd ["self"] (spInverse CO CI) := by
  refine F.ok scInv (fun vs H Q E h => ?_) (fun cdv A outer s H vs Q E hr h => ?_)
  · obtain ⟨g, ⟨q, rfl, _⟩, _⟩ := h
    rfl
  · obtain ⟨⟨n, A, p, _⟩, ⟨q, rfl, o, m⟩, k⟩ := h
    dsimp only at o m k
    have hn := o.le
    have po := o.po
    refine ⟨_, pss_cons (st 1 scInv.nd (bLen K B (fl K (pv 0))))
      (pss_cut (ps_for PassesOwn.never rfl (wR1 B (pv 1)) (gn 2 scInv.nd)
        (pss_one (ps_if (cNotInT K (ixt K (ixt K (fl K (pv 0)) (pv 2)) (pv 2)) (pe_tup (pa_cons pe_int (pa_cons (pe_un un_neg pe_int) pa_nil)))) (pss_one ps_never) pss_nil)))
      (pss_cons (st 3 scInv.nd (pe_lc (own := [("_", 6)]) (g := gName 6) (tt := tYes) rfl scInv.nd (wR1 B (pv 1)) (blkOk_by (N := nInv) (sc := defScope sIInverse) (by decide +kernel)) (fun _ _ _ _ _ => gn 6 scInv.nd) (fun _ _ _ _ _ => pts_nil)
        (fun _ _ _ _ _ => pe_lc (own := [("_", 6)]) (g := gName 6) (tt := tYes) rfl scInv.nd (wR1 B (pv 1)) (blkOk_by (N := nInv) (sc := relS _ (defScope sIInverse)) (by decide +kernel)) (fun _ _ _ _ _ => gn 6 scInv.nd) (fun _ _ _ _ _ => pts_nil) (fun _ _ _ _ _ => pe_int))))
      (pss_cons (ps_for PassesOwn.never rfl (wR1 B (pv 1)) (gn 2 scInv.nd)
        (pss_one (ps_for PassesOwn.never rfl (wList K (pc cUp hr (pa_cons (fl K (pv 0)) (pa_cons (pv 2) pa_nil)))) (gn 4 scInv.nd)
          (pss_one (ps_if (pt_cmpR op_eq (pv 2) (pv 4) (nomark _))
            (pss_one (ps_asg (ixt K (ixt K (fl K (pv 0)) (pv 2)) (pv 2)) (pg_sub (ixl K (pv 3) (pv 2)) (pv 2) set_list)))
            (pss_cons (st 5 scInv.nd (bSum K B rfl (pe_lc (own := [("z", 7)]) (g := gName 7) rfl scInv.nd (wR1 B (pv 1)) (blkOk_by (N := nInv) (sc := defScope sIInverse) (by decide +kernel)) (fun _ _ _ _ _ => gn 7 scInv.nd) (fun _ _ _ _ _ => pts_one (pt_cmpR op_ne (pv 7) (pv 4) (nomark _)))
                (fun _ _ _ _ _ => pe_op op_mul (ixl K (ixl K (pv 3) (pv 2)) (pv 7)) (ixt K (ixt K (fl K (pv 0)) (pv 7)) (pv 4))))))
              (pss_one (ps_asg (pe_op op_mul (pe_un un_neg (pv 5)) (ixt K (ixt K (fl K (pv 0)) (pv 4)) (pv 4))) (pg_sub (ixl K (pv 3) (pv 2)) (pv 4) set_list)))))))))
      (pss_one (ps_ret (pmk mk hr (pa_cons (fl K (pv 0)) (pa_cons (pv 3) pa_nil)))))))), ?_⟩
    refine q_asg (ev_rowsLen I (ev_var rfl) m) fun H1 e1 => ?_
    -- the diagonal
    refine q_cut' (M := fun σ' H' => ∃ v2, σ' = [some (.ref q), some (nV n), v2, none, none, none, none, none] ∧ Ex H H') ?_ ?_
    · refine s_forR1 (n := (n : Int)) (ea_cons (ev_var rfl) ea_nil) (by omega) (fun i σ' H' => ∃ v2, σ' = [some (.ref q), some (nV n), v2, none, none, none, none, none] ∧ Ex H H') (fun H2 e2 => ⟨none, rfl, e1.trans e2⟩) ?_ ?_
      · rintro x σ' H2 hx ⟨v2, rfl, e2⟩
        have lx : x < n := by omega
        refine s_when (b := false) (et_test (ev_is (ev_niU (xs := [.int 1, .int (-1)]) (ev_is (ev_ia I (ev_var rfl) (m.mono e2) (ev_var rfl) (ev_var rfl) lx lx) (congrArg V.int (Z_diag _ x))) (eu_tup (ea_cons ev_c (ea_cons (ev_un ev_c ru_neg) ea_nil)) (by decide)) rfl rfl) rfl)) (fun q => nomatch q) fun _ H3 e3 => ?_
        exact ⟨_, rfl, e2.trans e3⟩
      · rintro σ' H2 ⟨v2, rfl, e2⟩
        exact ⟨_, rfl, e2⟩
    rintro σ' H2 ⟨v2, rfl, e2⟩
    -- rows
    have zeros : EvM (tLc (iRng1 (tCons (tVar 1) tNil)) (gName 6) tYes (tLc (iRng1 (tCons (tVar 1) tNil)) (gName 6) tYes (tC (.int 0)) [6]) [6]) [some (.ref q), some (nV n), v2, none, none, none, none, none] H2 n (fun i => .lst (rowV n (Fx n (rel A) 0 [] i))) := by
      refine em_lcR1 (n := (n : Int)) (fun i => .lst (rowV n (Fx n (rel A) 0 [] i))) (ea_cons (ev_var rfl) ea_nil) (by omega) (fun x => rfl) fun i H3 e3 hi => EvL.o ?_
      rw [← Fx_start, rowV_given]
      exact el_lcR1 (n := (n : Int)) (fun _ => true) (fun y => V.int 0) (ea_cons (ev_var rfl) ea_nil) (by omega) (fun x => rfl) (fun y H4 e4 hy => et_yes) fun y H4 e4 hy _ => ev_c
    refine q_asgM zeros fun l rs H3 mt => ?_
    refine q_forR1 (n := (n : Int)) (ea_cons (ev_var rfl) ea_nil) (by omega) (fun x σ' H' => ∃ v2 v4 v5, σ' = [some (.ref q), some (nV n), v2, some (.ref l), v4, v5, none, none] ∧ Mat H2 H' l rs n (fun i => .lst (rowV n (Fx n (rel A) x [] i))))
      (fun H4 e4 => ⟨_, _, _, rfl, mt.ext e4⟩) ?_ ?_
    · rintro x σ' H4 hx ⟨v2, v4, v5, rfl, mt⟩
      have lx : x < n := by omega
      have e4 := e2.trans mt.ex
      have hl : x < rs.length := by rw [mt.len]; exact lx
      have hrx : rs[x]? = some rs[x] := List.getElem?_eq_getElem hl
      generalize rs[x] = rx at hrx
      have nrx : H2 rx = none := mt.nr rx (List.mem_of_getElem? hrx)
      -- for y in upwards(self.order, x)
      refine u_for (ev_order I (ev_var rfl) (m.mono e4)) (ev_var rfl) (o.mono e4) lx fun c us H6 e6 nc hc up all hus => ?_
      have mt6 := mt.ext e6
      have nrc : c ≠ rx := fun z => by
        have h5 := mt.at_ x rx hrx
        rw [z, h5] at nc
        cases nc
      refine s_forLn (a := c) (xs := us.map nV) ev_c (sq_of hc) (fun j σ' H' => ∃ v4 v5, σ' = [some (.ref q), some (nV n), some (nV x), some (.ref l), v4, v5, none, none] ∧ H' c = some (.lst (us.map nV)) ∧ Mat H2 H' l rs n (fun i => .lst (rowV n (Fx n (rel A) x (us.take j) i))))
        (fun H7 e7 => ⟨_, _, rfl, e7 _ _ hc, by rw [List.take_zero]; exact mt6.ext e7⟩) (fun j σ' H' _ ⟨_, _, _, h, _⟩ => sq_of h) ?_ ?_
      · rintro j yv σ' H7 hj ⟨v4, v5, rfl, hc7, mt7⟩
        obtain ⟨y, hy, rfl⟩ := get_map hj
        have e7 := e2.trans mt7.ex
        have m7 := m.mono e7
        have ly : y < n := by
          rcases up.mem y (List.mem_of_getElem? hy) with z | z
          · rw [z]; exact lx
          · exact (po.bd _ _ z).2
        -- what the turn leaves
        have fin : ∀ {σ2 : L2.St} {H8 : Hp} {v4 v5 : Option V}, σ2 = [some (.ref q), some (nV n), some (nV x), some (.ref l), v4, v5, none, none] → Ex H7 H8 → ∃ v4 v5, σ2 = [some (.ref q), some (nV n), some (nV x), some (.ref l), v4, v5, none, none] ∧
            (upd H8 rx (.lst ((rowV n (Fx n (rel A) x (us.take j) x)).set y (.int (mu n (rel A) x y))))) c = some (.lst (us.map nV)) ∧ Mat H2 (upd H8 rx (.lst ((rowV n (Fx n (rel A) x (us.take j) x)).set y (.int (mu n (rel A) x y))))) l rs n (fun i => .lst (rowV n (Fx n (rel A) x (us.take (j + 1)) i))) := fun {σ2 H8 v4 v5} es e8 => by
          refine ⟨v4, v5, es, by rw [upd_ne nrc]; exact e8 _ _ hc7, ?_⟩
          refine (mt7.set hrx e8).congr fun i hi => ?_
          rw [List.take_add_one, hy]
          show _ = HO.lst (rowV n (Fx n (rel A) x (us.take j ++ [y]) i))
          rw [← Fx_push]
          by_cases z : i = x
          · rw [if_pos z, rowV_set]
            refine congrArg HO.lst (rowV_congr fun k _ => ?_)
            rw [if_pos z]
          · rw [if_neg z]
            refine congrArg HO.lst (rowV_congr fun k _ => ?_)
            rw [if_neg z]
        have hrow := mt7.at_ x rx hrx
        have hrsx : atI (rs.map V.ref) (x : Int) = some (.ref rx) := atI_nat (by rw [List.getElem?_map, hrx]; rfl)
        refine s_if (b := decide (x = y)) (et_test (ev_is (ev_op (ev_var rfl) (ev_var rfl) (rv_eq rfl)) (congrArg V.bl (dec_nV x y)))) (fun hb H8 e8 => ?_) (fun hb H8 e8 => ?_)
        · have exy : x = y := of_decide_eq_true hb
          have row8 := e8 _ _ hrow
          refine s_setL (l := rx) (xs := rowV n (Fx n (rel A) x (us.take j) x)) (j := y) (v := .int (mu n (rel A) x y)) row8 (ev_is (ev_ia I (ev_var rfl) (m7.mono e8) (ev_var rfl) (ev_var rfl) lx lx) (congrArg V.int ?_)) (ev_op (ev_var rfl) (ev_var rfl) (rv_ixL (sq_of (e8 _ _ mt7.hl)) hrsx)) ?_ (by rw [rowV_len]; exact ly) fun H9 e9 => ?_
          · rw [Z_diag, ← exy, mu_diag po]
          · rw [← exy]; exact ev_var rfl
          · exact fin rfl (e8.trans e9)
        · have nxy : ¬ x = y := of_decide_eq_false hb
          have mt8 := mt7.ext e8
          have m8 := m7.mono e8
          -- total
          have tot : Ev (tCB (rSum K) (tCons (tLc (iRng1 (tCons (tVar 1) tNil)) (gName 7) (tTest (tOp rNe (tVar 7) (tVar 4))) (tOp (rI CMul fun i j => .int (i * j)) (tOp (rIxL K) (tOp (rIxL K) (tVar 3) (tVar 2)) (tVar 7)) (tOp (rIxT K) (tOp (rIxT K) (tFld K (tVar 0) "rows") (tVar 7)) (tVar 4))) [7]) tNil)) [some (.ref q), some (nV n), some (nV x), some (.ref l), some (nV y), v5, none, none] H8 (.int (- mu n (rel A) x y)) := by
            refine ev_is (ev_sum (ns := ((List.range n).filter fun z => !decide (z = y)).map fun z => Fx n (rel A) x (us.take j) x z * Z (rel A) z y) ?_) (congrArg V.int ?_)
            · have q1 := el_lcR1 (σ := [some (.ref q), some (nV n), some (nV x), some (.ref l), some (nV y), v5, none, none]) (H := H8) (j := 7) (vs := [7]) (n := (n : Int)) (ta := tCons (tVar 1) tNil) (t := tTest (tOp rNe (tVar 7) (tVar 4)))
                (te := tOp (rI CMul fun i j => .int (i * j)) (tOp (rIxL K) (tOp (rIxL K) (tVar 3) (tVar 2)) (tVar 7)) (tOp (rIxT K) (tOp (rIxT K) (tFld K (tVar 0) "rows") (tVar 7)) (tVar 4)))
                (fun z => !decide (z = y)) (fun z => V.int (Fx n (rel A) x (us.take j) x z * Z (rel A) z y)) (ea_cons (ev_var rfl) ea_nil) (by omega) (fun x => rfl) (fun z H9 e9 hz => et_test (ev_is (ev_op (ev_var rfl) (ev_var rfl) (rv_ne rfl)) (congrArg V.bl (by rw [dec_nV]))))
                (fun z H9 e9 hz _ => ev_op (ev_op (ev_op (ev_var rfl) (ev_var rfl) (rv_ixL (sq_of (e9 _ _ mt8.hl)) hrsx)) (ev_var rfl) (rv_ixL (sq_of (e9 _ _ (e8 _ _ hrow))) (rowV_at (by omega)))) (ev_ia I (ev_var rfl) (m8.mono e9) (ev_var rfl) (ev_var rfl) (by omega) ly) (rv_I (C := CMul) (.inr (big_Z _ z y))))
              rw [Int.toNat_natCast, given_int] at q1
              exact q1
            · rw [S_filt]
              rw [← mu_step po ly nxy (r := Fx n (rel A) x (us.take j) x) ?_]
              · refine S_congr fun z _ => ?_
                by_cases c : z = y
                · rw [decide_eq_true c, if_neg (by decide), if_neg (by simp [c])]
                · rw [decide_eq_false c, if_pos (by decide), if_pos c]
              · intro z hz lz
                unfold Fx
                rw [if_neg (Nat.lt_irrefl x), if_pos rfl]
                by_cases c : z ∈ us.take j
                · rw [if_pos c]
                · rw [if_neg c]
                  have h1 : ¬ (z = x ∨ rel A x z = true) := fun w => c (up.beh j y hy z lz w)
                  exact (mu_out po (fun w => h1 (.inl w.symm)) (fun w => h1 (.inr w))).symm
          refine q_asg tot fun H9 e9 => ?_
          refine s_setL (l := rx) (xs := rowV n (Fx n (rel A) x (us.take j) x)) (j := y) (v := .int (mu n (rel A) x y)) (e9 _ _ (e8 _ _ hrow)) (ev_is (ev_op (ev_un (ev_var rfl) ru_neg) (ev_ia I (ev_var rfl) (m8.mono e9) (ev_var rfl) (ev_var rfl) ly ly) (rv_I (C := CMul) (.inr (big_Z _ y y)))) (congrArg V.int ?_)) (ev_op (ev_var rfl) (ev_var rfl) (rv_ixL (sq_of (e9 _ _ mt8.hl)) hrsx)) (ev_var rfl) (by rw [rowV_len]; exact ly) fun H10 e10 => ?_
          · rw [Z_diag]; omega
          · exact fin rfl ((e8.trans e9).trans e10)
      · rintro σ' H7 ⟨v4, v5, rfl, hc7, mt7⟩
        refine ⟨_, _, _, rfl, mt7.congr fun i _ => ?_⟩
        rw [List.length_map, List.take_length, Fx_next po up all]
    · rintro σ' H4 ⟨v2, v4, v5, rfl, mt⟩
      rw [Int.toNat_natCast] at mt
      have e4 := e2.trans mt.ex
      have ml : ML H4 l n (mu n (rel A)) := ML.of (mt.congr fun i hi => by rw [Fx_end hi])
      exact s_retP (ep_inc (M := mu n (rel A)) (ev_order I (ev_var rfl) (m.mono e4)) (o.mono e4) (supp_mu po) ((Ev.p (ev_var rfl)).imp fun v H5 e5 hv => ⟨l, hv, ml.mono e5⟩)) fun v H5 e5 hv => k v H5 (e4.trans e5) hv
end
end K27
/-! moebius, chains_between; the law's numbers -/
namespace K27
open PySem L2 Evl
section
variable {P : Program} {w : World} {K : PySem.W.Frag} {mg : Str → Option Value} {base : Heap} {σ : L2.St} {H : Hp} {CO CI : Addr} {te ta tb : TE}
/-- a method of a thing told by phi; the ghost may hang on the thing -/
theorem ep_methX {γ : Type} {Pre : γ → List V → Hp → Prop} {Post : γ → V → Hp → Prop} {φ ψ : V → Hp → Prop} {E : XK} {C : Addr} {m : Str} {vs : List V} {tr : TA} (mo : Mo φ) (ho : EvP ta σ H φ) (hH : ∀ v H1, φ v H1 → ∃ a dx fs, v = .ref a ∧ H1 a = some (.ins C dx fs) ∧ fs.lookup m = none)
    (h : EvA tr σ H vs) (k : ∀ v H1, Ex H H1 → φ v H1 → ∃ g, Pre g (v :: vs) H1 ∧ ∀ w H2, Post g w H2 → ψ w H2) : EvP (tMeth C m (SpG Pre Post) [] E ta tr) σ H ψ := fun H1 e Q q =>
  ho H1 e _ fun x H2 e2 hx => by
    obtain ⟨a, dx, fs, rfl, hx2, hl⟩ := hH x H2 hx
    refine ⟨a, dx, fs, rfl, hx2, hl, h H2 (e.trans e2) _ fun H3 e3 => ?_⟩
    obtain ⟨g, hg, hw⟩ := k _ H3 ((e.trans e2).trans e3) (mo _ _ _ e3 hx)
    exact ⟨g, by rw [List.append_nil]; exact hg, fun v H4 e4 hp => q v H4 ((e2.trans e3).trans e4) (hw v H4 hp)⟩
theorem ep_opPP {r : R2} {φ ψ χ : V → Hp → Prop} (mo : Mo φ) (ha : EvP ta σ H φ) (hb : EvP tb σ H χ) (k : ∀ x y H1, Ex H H1 → φ x H1 → χ y H1 → ∀ Q : VK, (∀ w H2, Ex H1 H2 → ψ w H2 → Q w H2) → r x y H1 Q) : EvP (tOp r ta tb) σ H ψ := fun H1 e Q q =>
  ha H1 e _ fun x H2 e2 hx => hb H2 (e.trans e2) _ fun y H3 e3 hy => k x y H3 ((e.trans e2).trans e3) (mo _ _ _ e3 hx) hy Q fun w H4 e4 hw => q w H4 ((e2.trans e3).trans e4) hw
theorem mo_ia {n : Nat} {M : Nat → Nat → Int} {p : Addr} : Mo (fun v H => ∃ q, v = .ref q ∧ IA CI n M p q H) := fun v H H' e ⟨q, hv, m⟩ => ⟨q, hv, m.mono e⟩
theorem ia_ins {n : Nat} {M : Nat → Nat → Int} {p : Addr} {m : Str} (h1 : ¬ m = "rows") (h2 : ¬ m = "order") (v : V) (H : Hp) (h : ∃ q, v = .ref q ∧ IA CI n M p q H) : ∃ a dx fs, v = .ref a ∧ H a = some (.ins CI dx fs) ∧ fs.lookup m = none := by
  obtain ⟨q, rfl, dx, t, rs, h0, _⟩ := h
  exact ⟨q, dx, _, rfl, h0, iF_no p t h1 h2⟩
/-! ### moebius -/
abbrev spMoebius (CO CI : Addr) : Sp := SpG (γ := GO) (fun g vs H => vs = [.ref g.2.2] ∧ OA CO g.1 g.2.1 g.2.2 H) (fun g v H => ∃ q, v = .ref q ∧ IA CI g.1 (mu g.1 (rel g.2.1)) g.2.2 q H)
theorem scMoebius : FnScope ["order"] ["order"] (defScope sMoebius) := ⟨rfl, rfl, rfl, by decide +kernel, rfl, by decide +kernel, by decide +kernel⟩
theorem ev_zeta {p : Addr} {n : Nat} {A : List Nat} {E : XK} (h : Ev te σ H (.ref p)) (o : OA CO n A p H) : EvP (tCall (spZeta CO CI) [] E (tCons te tNil)) σ H (fun v H => ∃ q, v = .ref q ∧ IA CI n (Z (rel A)) p q H) :=
  ep_callA (n, A, p) (ea_cons h ea_nil) fun H1 e1 => ⟨rfl, o.mono e1⟩
theorem ok_moebius {f : Addr} {fd : FuncData} (F : Fun K "moebius" "moebius" sMoebius f fd) (cZeta : Cal P w K mg base 6 "zeta" ["order"] (spZeta CO CI)) (mInv : Met P w K mg base 6 CI "inverse" ["self"] (spInverse CO CI)) : FnOk P w K mg base CX0 7 f fd ["order"] (spMoebius CO CI) := by
  refine F.ok scMoebius (fun vs H Q E h => ?_) (fun cdv A outer s H vs Q E hr h => ?_)
  · obtain ⟨g, ⟨rfl, _⟩, _⟩ := h
    rfl
  · obtain ⟨⟨n, A, p⟩, ⟨rfl, o⟩, k⟩ := h
    dsimp only at o
    refine ⟨_, pss_one (ps_ret (pm0 mInv (pc cZeta hr (pa_cons (pv 0) pa_nil)) hr)), ?_⟩
    refine s_retP (ep_methX (ψ := fun v H => ∃ q, v = .ref q ∧ IA CI n (mu n (rel A)) p q H) mo_ia (ev_zeta (ev_var rfl) o) (ia_ins (by decide +kernel) (by decide +kernel)) ea_nil fun v H1 e1 hv => ?_) fun v H1 e1 hv => k v H1 e1 hv
    obtain ⟨q, rfl, m⟩ := hv
    exact ⟨(⟨n, A, p, 0⟩ : GU), ⟨q, rfl, o.mono e1, m⟩, fun w H2 hw => hw⟩
/-! ### chains_between -/
structure GB where
  n : Nat
  A : List Nat
  p : Addr
  x : Nat
  y : Nat
  k : Nat
abbrev spBetween (CO : Addr) : Sp := SpG (γ := GB) (fun g vs H => vs = [.ref g.p, nV g.x, nV g.y, nV (g.k + 1)] ∧ OA CO g.n g.A g.p H ∧ g.x < g.n ∧ g.y < g.n ∧ g.k ≤ 1000) (fun g v _ => v = .int (K27.P g.n (rel g.A) g.k g.x g.y))
abbrev nBetween : List Str := ["order", "x", "y", "many", "strict"]
theorem scBetween : FnScope nBetween ["order", "x", "y", "many"] (defScope sChainsB) := ⟨rfl, rfl, rfl, by decide +kernel, rfl, by decide +kernel, by decide +kernel⟩
theorem ok_between {f : Addr} {fd : FuncData} (F : Fun K "chains_between" "chains_between" sChainsB f fd) (I : IC K mg CI) (cZeta : Cal P w K mg base 6 "zeta" ["order"] (spZeta CO CI)) (cDelta : Cal P w K mg base 6 "delta" ["order"] (spDelta CO CI))
    (mSub : Met P w K mg base 7 CI "__sub__" ["self", "other"] (spSub CO CI)) (mPow : Met P w K mg base 7 CI "power" ["self", "k"] (spPower CO CI)) (mVal : Met P w K mg base 1 CI "value" ["self", "x", "y"] (spValue CI)) :
    FnOk P w K mg base CX0 8 f fd ["order", "x", "y", "many"] (spBetween CO) := by
  refine F.ok scBetween (fun vs H Q E h => ?_) (fun cdv A outer s H vs Q E hr h => ?_)
  · obtain ⟨g, ⟨rfl, _⟩, _⟩ := h
    rfl
  · obtain ⟨⟨n, A, p, x, y, kk⟩, ⟨rfl, o, lx, ly, hk⟩, k⟩ := h
    dsimp only at o lx ly hk k
    have mS : Met P w K mg base 7 CI (PySem.dunder Operator.Sub.info.2) ["self", "other"] (spSub CO CI) := mSub
    refine ⟨_, pss_cons (st 4 scBetween.nd (pe_op (op_own mS I.sf hr) (pc cZeta hr (pa_cons (pv 0) pa_nil)) (pc cDelta hr (pa_cons (pv 0) pa_nil)))) (pss_one (ps_ret (pm mVal (pm mPow (pv 4) hr (pa_cons (pe_op op_sub (pv 3) pe_int) pa_nil)) hr (pa_cons (pv 1) (pa_cons (pv 2) pa_nil))))), ?_⟩
    have del : EvP (tCall (spDelta CO CI) [] E0 (tCons (tVar 0) tNil)) (L2.start nBetween [.ref p, nV x, nV y, nV (kk + 1)]) H (fun v H => ∃ q, v = .ref q ∧ IA CI n dl p q H) := ep_callA (n, A, p) (ea_cons (ev_var rfl) ea_nil) fun H1 e1 => ⟨rfl, o.mono e1⟩
    refine q_asgP (φ := fun v H => ∃ q, v = .ref q ∧ IA CI n (sM (rel A)) p q H) (ep_opPP mo_ia (ev_zeta (ev_var rfl) o) del fun u v H1 e1 hu hv Q q' => ?_) fun v H1 e1 hv => ?_
    · obtain ⟨q1, rfl, m1⟩ := hu
      obtain ⟨q2, rfl, m2⟩ := hv
      obtain ⟨dx1, t1, rs1, h01, _⟩ := id m1
      obtain ⟨dx2, t2, rs2, h02, _⟩ := id m2
      exact ⟨q1, q2, dx1, dx2, _, _, rfl, rfl, h01, h02, (⟨n, A, p, Z (rel A), dl, q1, q2⟩ : G2), ⟨rfl, o.mono e1, m1, m2, supp_dl n A, supp_sM o.po⟩, fun v H4 e4 hv => q' v H4 e4 hv⟩
    · obtain ⟨q, rfl, m⟩ := hv
      obtain ⟨dx, t, rs, h0, _⟩ := id m
      have pow : EvP (tMeth CI "power" (spPower CO CI) [] E0 (tVar 4) (tCons (tOp (rI0 fun i j => .int (i - j)) (tVar 3) (tC (.int 1))) tNil)) [some (.ref p), some (nV x), some (nV y), some (nV (kk + 1)), some (.ref q)] H1 (fun v H => ∃ r, v = .ref r ∧ IA CI n (K27.P n (rel A) kk) p r H) :=
        ep_methA (⟨n, A, p, q, kk⟩ : GW) (ev_var rfl) h0 (iF_no p t (by decide +kernel) (by decide +kernel)) (ea_cons (ev_is (w := nV kk) (ev_op (ev_var rfl) ev_c rv_I0) (congrArg V.int (by omega))) ea_nil) fun H2 e2 => ⟨rfl, (o.mono e1).mono e2, m.mono e2, hk⟩
      refine s_retP (ep_methX (ψ := fun v _ => v = .int (K27.P n (rel A) kk x y)) mo_ia pow (ia_ins (by decide +kernel) (by decide +kernel)) (ea_cons (ev_var rfl) (ea_cons (ev_var rfl) ea_nil)) fun v H2 e2 hv => ?_) fun v H2 e2 hv => k v H2 (e1.trans e2) hv
      obtain ⟨r, rfl, mr⟩ := hv
      exact ⟨((⟨n, _, p, r⟩ : GI), x, y), ⟨rfl, mr, lx, ly⟩, fun w H3 hw => hw⟩
/-! ### _law_next -/
/-- all but l is as it was -/
def Off (l : Addr) (H H' : Hp) : Prop := ∀ b o, b ≠ l → H b = some o → H' b = some o
theorem Off.refl (l : Addr) (H : Hp) : Off l H H := fun _ _ _ h => h
theorem Off.of {l : Addr} {H H' : Hp} (e : Ex H H') : Off l H H' := fun b o _ h => e b o h
theorem Off.trans {l : Addr} {H H1 H2 : Hp} (a : Off l H H1) (b : Off l H1 H2) : Off l H H2 := fun c o n h => b c o n (a c o n h)
theorem Off.ex {l : Addr} {H H1 H2 : Hp} (a : Off l H H1) (b : Ex H1 H2) : Off l H H2 := fun c o n h => b c o (a c o n h)
theorem Off.mut {l p : Addr} {H H' : Hp} {o : HO} (a : Off l H H') (h : H p = none) : Off l H (upd H' p o) := fun b u n e => by
  rw [upd_ne (ne_of_none e h)]
  exact a b u n e
/-- what was new stays new ahead, l aside -/
theorem Off.back {l p : Addr} {H H' : Hp} (a : Off l H H') (h : H' p = none) (hl : H' l ≠ none) : H p = none := by
  cases q : H p with
  | none => rfl
  | some o =>
    by_cases z : p = l
    · rw [z] at h
      exact absurd h hl
    · rw [a p o z q] at h
      cases h
abbrev lV (ns : List Int) : HO := .lst (ns.map V.int)
def spNext : Sp := fun vs H Q _ => ∃ (l : Addr) (ns : List Int) (m : Int), vs = [.ref l, .int m] ∧ H l = some (lV ns) ∧ 0 < m ∧ ∀ (r : Int) (ns' : List Int) (H' : Hp), 0 ≤ r → r < m → ns'.length ≤ ns.length → H' l = some (lV ns') → Off l H H' → (∀ p, H' p = none → H p = none) → Q (.int r) H'
theorem scNext : FnScope ["_law_numbers_here", "_law_many"] ["_law_numbers_here", "_law_many"] (defScope sLNext) := ⟨rfl, rfl, rfl, by decide +kernel, rfl, by decide +kernel, by decide +kernel⟩
theorem map_erase (ns : List Int) (i : Nat) : (ns.map V.int).eraseIdx i = (ns.eraseIdx i).map V.int := by
  induction ns generalizing i with
  | nil => rfl
  | cons a r ih =>
    cases i with
    | zero => rfl
    | succ i => rw [List.map_cons, List.eraseIdx_cons_succ, ih, List.eraseIdx_cons_succ, List.map_cons]
theorem ok_next {f : Addr} {fd : FuncData} (F : Fun K "_law_next" "_law_next" sLNext f fd) (B : Bl mg) : FnOk P w K mg base CX0 1 f fd ["_law_numbers_here", "_law_many"] spNext := by
  refine F.ok scNext (fun vs H Q E h => ?_) (fun cdv A outer s H vs Q E hr h => ?_)
  · obtain ⟨l, ns, m, rfl, _⟩ := h
    rfl
  · obtain ⟨l, ns, m, rfl, hl, hm, k⟩ := h
    refine ⟨_, pss_cons (ps_if (pt_cmpR op_eq (bLen K B (pv 0)) pe_int (nomark _)) (pss_one (ps_ret pe_int)) pss_nil)
      (pss_one (ps_ret (pe_op op_mod (pe_bm PySem.F.plainAttrs_list PySem.F.slot_list_pop PySem.F.type_list_pop mt_popAt (pv 0) (pa_cons pe_int pa_nil)) (pv 1)))), ?_⟩
    refine q_when (b := decide (ns.length = 0)) (et_test (ev_is (ev_op (ev_len (ev_var rfl) (sq_of hl)) ev_c (rv_eq rfl)) (congrArg V.bl ?_))) (fun hb H1 e1 => ?_) (fun hb H1 e1 => ?_)
    · rw [List.length_map, dec_int, Bool.eq_iff_iff, beq_iff_eq, decide_eq_true_iff]
      omega
    · refine s_ret ev_c fun H2 e2 => k 0 ns H2 (Int.le_refl 0) hm (Nat.le_refl _) (e2 _ _ (e1 _ _ hl)) (Off.of (e1.trans e2)) fun p hp => fresh_back (e1.trans e2) hp
    · have hne : ¬ ns.length = 0 := of_decide_eq_false hb
      obtain ⟨x, r, rfl⟩ : ∃ x r, ns = x :: r := by
        cases ns with
        | nil => exact absurd rfl hne
        | cons x r => exact ⟨x, r, rfl⟩
      have h1 := e1 _ _ hl
      refine ⟨_, rfl, .inl ⟨rfl, _, SqL.of h1⟩, l, _, 0, 0, .int x, rfl, rfl, h1, by decide, by decide, (by unfold seqIndex?; rw [List.length_map]; simp), rfl, _, rfl, x, m, rfl, rfl, hm, ?_⟩
      refine k (x % m) r _ (Int.emod_nonneg _ (by omega)) (Int.emod_lt_of_pos _ hm) (Nat.le_succ _) upd_same (fun b o n h => ?_) fun p hp => ?_
      · rw [upd_ne n]
        exact e1 _ _ h
      · have npl : p ≠ l := fun z => by
          rw [z, upd_same] at hp
          cases hp
        rw [upd_ne npl] at hp
        exact fresh_back e1 hp
/-! ### _law_numbers -/
def spNumbers (K : PySem.W.Frag) : Sp := fun vs H Q _ => ∃ (a : Addr) (xs : List Int), vs = [.ref a] ∧ SqL K H a (xs.map V.int) ∧ xs.length ≤ 63 ∧ ∀ (l : Addr) (ns : List Int) (H' : Hp), Ex H H' → H l = none → H' l = some (lV ns) → ns.length ≤ 3780 → Q (.ref l) H'
abbrev nNumbers : List Str := ["_law_script", "_law_found", "_law_k", "_law_cell", "_law_turn", "_law_i", "_law_mixed"]
theorem scNumbers : FnScope nNumbers ["_law_script"] (defScope sLNumbers) := ⟨rfl, rfl, rfl, by decide +kernel, rfl, by decide +kernel, by decide +kernel⟩
def rAbs : List V → Hp → VK → Prop := fun xs H Q => ∃ i, xs = [.int i] ∧ Q (.int (if i < 0 then -i else i)) H
def rMin2 : List V → Hp → VK → Prop := fun xs H Q => ∃ i j, xs = [.int i, .int j] ∧ Q (.int (if j < i then j else i)) H
theorem ev_abs {i : Int} (h : Ev te σ H (.int i)) : Ev (tCB rAbs (tCons te tNil)) σ H (.int (if i < 0 then -i else i)) := fun H1 e Q q => h H1 e _ fun H2 e2 => ⟨i, rfl, q H2 e2⟩
theorem ev_min2 {i j : Int} (h : Ev ta σ H (.int i)) (h' : Ev tb σ H (.int j)) : Ev (tCB rMin2 (tCons ta (tCons tb tNil))) σ H (.int (if j < i then j else i)) := fun H1 e Q q => h H1 e _ fun H2 e2 => h' H2 (e.trans e2) _ fun H3 e3 => ⟨i, j, rfl, q H3 (e2.trans e3)⟩
theorem lV_push (ns : List Int) (i : Int) : (HO.lst (ns.map V.int ++ [.int i])) = lV (ns ++ [i]) := by
  show HO.lst _ = HO.lst ((ns ++ [i]).map V.int)
  rw [List.map_append]
  rfl
theorem ok_numbers {f : Addr} {fd : FuncData} (F : Fun K "_law_numbers" "_law_numbers" sLNumbers f fd) (B : Bl mg) : FnOk P w K mg base CX0 1 f fd ["_law_script"] (spNumbers K) := by
  refine F.ok scNumbers (fun vs H Q E h => ?_) (fun cdv A outer s H vs Q E hr h => ?_)
  · obtain ⟨a, xs, rfl, _⟩ := h
    rfl
  · obtain ⟨a, xs, rfl, hS, h63, k⟩ := h
    refine ⟨_, pss_cons (st 1 scNumbers.nd (pe_lst pa_nil)) (pss_cons (ps_for PassesOwn.never rfl (wR1 B (pe_callB (call_min2 rfl) (by rfl) B.min (by decide +kernel) (pa_cons (bLen K B (pv 0)) (pa_cons pe_int pa_nil)))) (gn 2 scNumbers.nd)
      (pss_cons (st 3 scNumbers.nd (pe_callB call_abs (by rfl) B.abs (by decide +kernel) (pa_cons (ixl K (pv 0) (pv 2)) pa_nil)))
      (pss_one (ps_if (pt_cmpR op_ge (pv 3) (pe_op op_pow pe_int pe_int) (nomark _))
        (pss_one (ps_for PassesOwn.never rfl (wR1 B pe_int) (gn 4 scNumbers.nd) (pss_one (ps_if (pt_cmpR op_gt (pv 3) pe_int (nomark _))
          (pss_cons (ps_expr (sApp K (pv 1) (pe_op op_mod (pv 3) pe_int))) (pss_one (st 3 scNumbers.nd (pe_op op_fdiv (pv 3) pe_int)))) pss_nil))))
        (pss_one (ps_for PassesOwn.never rfl (wR1 B pe_int) (gn 5 scNumbers.nd)
          (pss_cons (st 3 scNumbers.nd (pe_op op_mod (pe_op op_add (pe_op op_add (pe_op op_mul (pv 3) pe_int) (pe_op op_mul pe_int (pe_op op_add (pv 5) (pv 2)))) pe_int) pe_int))
          (pss_cons (st 6 scNumbers.nd (pe_op op_mod (pe_op op_add (pe_op op_mul (pv 3) pe_int) (pe_op op_fdiv (pv 3) pe_int)) pe_int))
          (pss_one (ps_expr (sApp K (pv 1) (pe_op op_mod (pv 6) pe_int)))))))))))) (pss_one (ps_ret (pv 1)))), ?_⟩
    refine q_asgL (el_lst ea_nil (by decide)) fun l H1 nl e1 h1 => ?_
    refine q_forR1 (n := (xs.length : Int)) (ea_cons (ev_is (ev_min2 (ev_len (ev_var rfl) (ex_l e1 hS)) ev_c) (congrArg V.int (by rw [List.length_map, if_neg (by omega)]))) ea_nil) (by omega)
      (fun i σ' H' => ∃ v2 v3 v4 v5 v6 ns, σ' = [some (.ref a), some (.ref l), v2, v3, v4, v5, v6] ∧ Ex H H' ∧ H' l = some (lV ns) ∧ ns.length ≤ 60 * i) (fun H2 e2 => ⟨none, none, none, none, none, [], rfl, e1.trans e2, e2 _ _ h1, Nat.le_refl _⟩) ?_ ?_
    · rintro i σ' H2 hi ⟨v2, v3, v4, v5, v6, ns, rfl, e2, h2, hn⟩
      have hix : i < xs.length := by omega
      have hat : atI (xs.map V.int) (i : Int) = some (.int xs[i]) := atI_nat (by rw [List.getElem?_map, List.getElem?_eq_getElem hix]; rfl)
      refine q_asg (ev_abs (ev_op (ev_var rfl) (ev_var rfl) (rv_ixL (ex_l e2 hS) hat))) fun H3 e3 => ?_
      generalize (if xs[i] < 0 then -xs[i] else xs[i]) = c
      refine s_if (b := decide ((10 : Int) ^ 18 ≤ c)) (et_test (ev_is (ev_op (ev_var rfl) (ev_op ev_c ev_c (rv_I (C := CPow) ⟨by decide, by decide, by decide⟩)) rv_I0) rfl)) (fun hb H4 e4 => ?_) (fun hb H4 e4 => ?_)
      · refine s_forR1 (n := 60) (ea_cons ev_c ea_nil) (by omega) (fun j σ' H' => ∃ c v4 ns', σ' = [some (.ref a), some (.ref l), some (nV i), some (.int c), v4, v5, v6] ∧ Ex H H' ∧ H' l = some (lV ns') ∧ ns'.length ≤ ns.length + j)
          (fun H5 e5 => ⟨c, v4, ns, rfl, ((e2.trans e3).trans e4).trans e5, e5 _ _ (e4 _ _ (e3 _ _ h2)), Nat.le_refl _⟩) ?_ ?_
        · rintro j σ' H5 hj ⟨c, v4, ns', rfl, e5, h5, hn'⟩
          refine s_when (b := decide (0 < c)) (et_test (ev_is (ev_op (ev_var rfl) ev_c rv_I0) rfl)) (fun hb H6 e6 => ?_) (fun hb H6 e6 => ?_)
          · refine q_app (l := l) (xs := ns'.map V.int) (v := .int (c % 1009)) (e6 _ _ h5) (ev_var rfl) (ev_op (ev_var rfl) ev_c (rv_I (by decide : (0 : Int) < 1009))) (by rw [List.length_map]; omega) fun H7 e7 => ?_
            refine s_asg (v := .int (c / 1009)) (ev_op (ev_var rfl) ev_c (rv_I (C := CDiv) ⟨by decide, by decide⟩)) fun H8 e8 => ?_
            refine ⟨c / 1009, _, ns' ++ [c % 1009], rfl, (Ex.mut ((e5.trans e6).trans e7) nl).trans e8, e8 _ _ (by rw [upd_same, lV_push]), by rw [List.length_append]; show ns'.length + 1 ≤ _; omega⟩
          · exact ⟨c, _, ns', rfl, e5.trans e6, e6 _ _ h5, by omega⟩
        · rintro σ' H5 ⟨c, v4, ns', rfl, e5, h5, hn'⟩
          have e60 : (60 : Int).toNat = 60 := rfl
          rw [e60] at hn'
          exact ⟨_, _, _, _, _, ns', rfl, e5, h5, by omega⟩
      · refine s_forR1 (n := 5) (ea_cons ev_c ea_nil) (by omega) (fun j σ' H' => ∃ c v5 v6 ns', σ' = [some (.ref a), some (.ref l), some (nV i), some (.int c), v4, v5, v6] ∧ Ex H H' ∧ H' l = some (lV ns') ∧ ns'.length ≤ ns.length + j)
          (fun H5 e5 => ⟨c, v5, v6, ns, rfl, ((e2.trans e3).trans e4).trans e5, e5 _ _ (e4 _ _ (e3 _ _ h2)), Nat.le_refl _⟩) ?_ ?_
        · rintro j σ' H5 hj ⟨c, v5, v6, ns', rfl, e5, h5, hn'⟩
          refine q_asg (v := .int ((c * 48271 + 69621 * ((j : Int) + (i : Int)) + 11) % 2147483647)) (ev_op (ev_op (ev_op (ev_op (ev_var rfl) ev_c (rv_I (C := CMul) (.inr ⟨by decide, by decide⟩))) (ev_op ev_c (ev_op (ev_var rfl) (ev_var rfl) rv_I0) (rv_I (C := CMul) (.inl ⟨by decide, by decide⟩))) rv_I0) ev_c rv_I0) ev_c (rv_I (by decide : (0 : Int) < 2147483647))) fun H6 e6 => ?_
          generalize (c * 48271 + 69621 * ((j : Int) + (i : Int)) + 11) % 2147483647 = c'
          refine q_asg (v := .int ((c' * 16807 + c' / 65536) % 2147483629)) (ev_op (ev_op (ev_op (ev_var rfl) ev_c (rv_I (C := CMul) (.inr ⟨by decide, by decide⟩))) (ev_op (ev_var rfl) ev_c (rv_I (C := CDiv) ⟨by decide, by decide⟩)) rv_I0) ev_c (rv_I (by decide : (0 : Int) < 2147483629))) fun H7 e7 => ?_
          generalize (c' * 16807 + c' / 65536) % 2147483629 = mx
          refine s_app (l := l) (xs := ns'.map V.int) (v := .int (mx % 1009)) (e7 _ _ (e6 _ _ h5)) (ev_var rfl) (ev_op (ev_var rfl) ev_c (rv_I (by decide : (0 : Int) < 1009))) (by rw [List.length_map]; omega) fun H8 e8 => ?_
          exact ⟨c', _, _, ns' ++ [mx % 1009], rfl, Ex.mut (((e5.trans e6).trans e7).trans e8) nl, by rw [upd_same, lV_push], by rw [List.length_append]; show ns'.length + 1 ≤ _; omega⟩
        · rintro σ' H5 ⟨c, v5, v6, ns', rfl, e5, h5, hn'⟩
          have e5' : (5 : Int).toNat = 5 := rfl
          rw [e5'] at hn'
          exact ⟨_, _, _, _, _, ns', rfl, e5, h5, by omega⟩
    · rintro σ' H2 ⟨v2, v3, v4, v5, v6, ns, rfl, e2, h2, hn⟩
      rw [Int.toNat_natCast] at hn
      exact s_ret (ev_var rfl) fun H3 e3 => k l ns H3 (e2.trans e3) nl (e3 _ _ h2) (by omega)
end
end K27
/-! the law's order -/
namespace K27
open PySem L2 Evl
theorem PrR.off {H H' : Hp} {l : Addr} {rs : List Addr} {ps : List (Nat × Nat)} {xs : List V} (h : PrR H rs ps) (hl : H l = some (.lst xs)) (o : Off l H H') : PrR H' rs ps := ⟨h.1, fun i r p a b => by
  have z := h.2 i r p a b
  exact o r _ (ne_of z hl (by intro q; cases q)) z⟩
theorem map_eraseN (xs : List Nat) (i : Nat) : (xs.map nV).eraseIdx i = (xs.eraseIdx i).map nV := by
  induction xs generalizing i with
  | nil => rfl
  | cons a r ih =>
    cases i with
    | zero => rfl
    | succ i => rw [List.map_cons, List.eraseIdx_cons_succ, ih, List.eraseIdx_cons_succ, List.map_cons]
theorem seq_nat {i n : Nat} (h : i < n) : seqIndex? (i : Int) n = some i := (ixN_seq (ixN_nat h)).1
section
variable {P : Program} {w : World} {K : PySem.W.Frag} {mg : Str → Option Value} {base : Heap} {σ : L2.St} {H : Hp} {CO CI : Addr} {te ta tb : TE}
theorem r_next {l : Addr} {ns : List Int} {m : Int} {E : XK} {Q : VK} (ha : Ev ta σ H (.ref l)) (hb : Ev tb σ H (.int m)) (hl : H l = some (lV ns)) (hm : 0 < m)
    (k : ∀ (r : Nat) ns' H', (r : Int) < m → H' l = some (lV ns') → Off l H H' → (∀ p, H' p = none → H p = none) → Q (nV r) H') : tCall spNext [] E (tCons ta (tCons tb tNil)) σ H Q :=
  ha H (Ex.refl H) _ fun H1 e1 => hb H1 e1 _ fun H2 e2 => ⟨l, ns, m, rfl, e2 _ _ (e1 _ _ hl), hm, fun r ns' H' a b c d o f => by
    have z := k r.toNat ns' H' (by omega) d (fun x u n h => o x u n ((e1.trans e2) _ _ h)) (fun p hp => fresh_back (e1.trans e2) (f p hp))
    have er : nV r.toNat = V.int r := congrArg V.int (by omega)
    rw [er] at z
    exact z⟩
def spLOrder (CO : Addr) : Sp := fun vs H Q _ => ∃ (l : Addr) (ns : List Int), vs = [.ref l, .int 6] ∧ H l = some (lV ns) ∧ ∀ p n A ns' H', Off l H H' → H' l = some (lV ns') → OA CO n A p H' → n ≤ 6 → Q (.ref p) H'
abbrev nLOrder : List Str := ["_law_numbers_here", "_law_most", "_law_n", "_law_images", "_law_rest", "_law_turn", "_law_thick", "_law_pairs", "_law_i", "_law_j", "_law_k"]
theorem scLOrder : FnScope nLOrder ["_law_numbers_here", "_law_most"] (defScope sLOrder) := ⟨rfl, rfl, rfl, by decide +kernel, rfl, by decide +kernel, by decide +kernel⟩
theorem at_nV {xs : List Nat} {i x : Nat} (h : xs[i]? = some x) : atI (xs.map nV) (i : Int) = some (nV x) := atI_nat (by rw [List.getElem?_map, h]; rfl)
theorem lt_at {xs : List Nat} {i : Nat} (h : i < xs.length) : ∃ x, xs[i]? = some x := ⟨xs[i], List.getElem?_eq_getElem h⟩
theorem nV_range (n : Nat) : given n (fun _ => true) (fun i => nV i) = (List.range n).map nV := given_all n _
theorem ok_lorder {f : Addr} {fd : FuncData} (F : Fun K "_law_order" "_law_order" sLOrder f fd) (B : Bl mg) (cNext : Cal P w K mg base 1 "_law_next" ["_law_numbers_here", "_law_many"] spNext) (kOrd : Mkr P w K mg base 3 CO "Order" ["self", "n", "pairs"] (spOInit CO)) :
    FnOk P w K mg base CX0 5 f fd ["_law_numbers_here", "_law_most"] (spLOrder CO) := by
  refine F.ok scLOrder (fun vs H Q E h => ?_) (fun cdv A outer s H vs Q E hr h => ?_)
  · obtain ⟨l, ns, rfl, _⟩ := h
    rfl
  · obtain ⟨l, ns, rfl, hl, k⟩ := h
    refine ⟨_, pss_cons (st 2 scLOrder.nd (pc cNext hr (pa_cons (pv 0) (pa_cons (pe_op op_add (pv 1) pe_int) pa_nil))))
      (pss_cons (st 3 scLOrder.nd (pe_lst pa_nil))
      (pss_cons (ps_setLc (i := 4) (own := [("_law_k", 10)]) (g := gName 10) (tt := tYes) rfl scLOrder.nd rfl rfl (sw_true rfl rfl rfl (by decide +kernel)) (wR1 B (pv 2))
        (blkOk_by (N := nLOrder) (sc := defScope sLOrder) (by decide +kernel)) (fun _ _ _ _ _ => gn 10 scLOrder.nd) (fun _ _ _ _ _ => pts_nil) (fun _ _ _ _ _ => pv 10))
      (pss_cons (ps_for PassesOwn.never rfl (wR1 B (pv 2)) (gn 5 scLOrder.nd)
        (pss_one (ps_expr (sApp K (pv 3) (pe_bm PySem.F.plainAttrs_list PySem.F.slot_list_pop PySem.F.type_list_pop mt_popAt (pv 4) (pa_cons (pc cNext hr (pa_cons (pv 0) (pa_cons (bLen K B (pv 4)) pa_nil))) pa_nil))))))
      (pss_cons (st 6 scLOrder.nd (pe_op op_add pe_int (pc cNext hr (pa_cons (pv 0) (pa_cons pe_int pa_nil)))))
      (pss_cons (st 7 scLOrder.nd (pe_lst pa_nil))
      (pss_cons (ps_for PassesOwn.never rfl (wR1 B (pv 2)) (gn 8 scLOrder.nd)
        (pss_one (ps_for PassesOwn.never rfl (wR1 B (pv 8)) (gn 9 scLOrder.nd)
          (pss_one (ps_if (pt_cmpR op_eq (pc cNext hr (pa_cons (pv 0) (pa_cons (pv 6) pa_nil))) pe_int (nomark _))
            (pss_one (ps_expr (sApp K (pv 7) (pe_tup (pa_cons (ixl K (pv 3) (pv 9)) (pa_cons (ixl K (pv 3) (pv 8)) pa_nil)))))) pss_nil)))))
      (pss_one (ps_ret (pmk kOrd hr (pa_cons (pv 2) (pa_cons (pv 7) pa_nil))))))))))), ?_⟩
    refine r_next (l := l) (ns := ns) (m := 6 + 1) (ev_var rfl) (ev_op (ev_var rfl) ev_c rv_I0) hl (by decide) fun n ns1 H1 hn hl1 o1 f1 => ?_
    have hn6 : n ≤ 6 := by omega
    show tSeq (tAsg (tLst tNil) (gName 3)) _ _ ([some (.ref l), some (.int 6), some (nV n), none, none, none, none, none, none, none, none] : L2.St) H1
    refine q_asgL (el_lst ea_nil (by decide)) fun im H2 nim e2 h2 => ?_
    refine q_asgL (el_lcR1 (n := (n : Int)) (fun _ => true) (fun i => nV i) (ea_cons (ev_var rfl) ea_nil) (by omega) (fun x => rfl) (fun i H3 e3 hi => et_yes) (fun i H3 e3 hi _ => ev_var rfl)) fun re H3 nre e3 h3 => ?_
    rw [Int.toNat_natCast, nV_range] at h3
    have nim0 : H im = none := f1 _ nim
    have nre0 : H re = none := f1 _ (fresh_back e2 nre)
    have iml : im ≠ l := fun z => by rw [z, hl1] at nim; cases nim
    have rel_ : re ≠ l := fun z => by rw [z, e2 _ _ hl1] at nre; cases nre
    have imre : im ≠ re := fun z => by rw [← z, h2] at nre; cases nre
    refine q_forR1 (n := (n : Int)) (ea_cons (ev_var rfl) ea_nil) (by omega) (fun i σ' H' => ∃ v5 ns' imL reL, σ' = [some (.ref l), some (.int 6), some (nV n), some (.ref im), some (.ref re), v5, none, none, none, none, none] ∧ Off l H H' ∧ H' l = some (lV ns') ∧
      H' im = some (.lst (imL.map nV)) ∧ H' re = some (.lst (reL.map nV)) ∧ imL.length = i ∧ reL.length + i = n ∧ Row n imL reL)
      (fun H4 e4 => ⟨none, ns1, [], List.range n, rfl, ((o1.ex e2).ex e3).ex e4, e4 _ _ (e3 _ _ (e2 _ _ hl1)), e4 _ _ (e3 _ _ h2), e4 _ _ h3, rfl, by rw [List.length_range]; rfl, Row.start n⟩) ?_ ?_
    · rintro i σ' H4 hi ⟨v5, ns', imL, reL, rfl, o4, hl4, hi4, hr4, c1, c2, rw4⟩
      have li : i < n := by omega
      refine ⟨_, rfl, .inl ⟨rfl, _, SqL.of hi4⟩, _, rfl, .inl ⟨rfl, _, SqL.of hr4⟩, ?_⟩
      refine r_next (l := l) (ns := ns') (m := (reL.length : Int)) (ev_var rfl) (ev_is (ev_len (ev_var rfl) (sq_of hr4)) (congrArg V.int (by rw [List.length_map]))) hl4 (by omega) fun r ns2 H5 hr hl5 o5 f5 => ?_
      have hr' : r < reL.length := by omega
      obtain ⟨v, hv⟩ := lt_at hr'
      have hre5 := o5 _ _ rel_ hr4
      have him5 := o5 _ _ iml hi4
      refine ⟨re, reL.map nV, (r : Int), r, nV v, rfl, rfl, hre5, by omega, by omega, seq_nat (by rw [List.length_map]; exact hr'), by rw [List.getElem?_map, hv]; rfl, im, imL.map nV, nV v, rfl, rfl, ?_, by rw [List.length_map]; exact sz_lt (by omega), ?_⟩
      · rw [upd_ne imre]
        exact him5
      · have er : (reL.map nV).eraseIdx r = (reL.eraseIdx r).map nV := map_eraseN reL r
        refine ⟨_, ns2, imL ++ [v], reL.eraseIdx r, rfl, ((o4.trans o5).mut nre0).mut nim0, ?_, ?_, ?_, ?_, ?_, rw4.turn hv⟩
        · rw [upd_ne iml.symm, upd_ne rel_.symm]
          exact hl5
        · rw [upd_same, List.map_append]
          rfl
        · rw [upd_ne imre.symm, upd_same, er]
        · rw [List.length_append, c1]
          rfl
        · rw [List.length_eraseIdx_of_lt hr']
          omega
    · rintro σ' H4 ⟨v5, ns', imL, reL, rfl, o4, hl4, hi4, _, c1, _, rw4⟩
      rw [Int.toNat_natCast] at c1
      have rim := rw4.im
      refine r_next (l := l) (ns := ns') (m := 3) (ev_var rfl) ev_c hl4 (by decide) fun t ns2 H5 ht hl5 o5 f5 => ⟨2, (t : Int), rfl, rfl, ?_⟩
      have him5 := o5 _ _ iml hi4
      show tSeq (tAsg (tLst tNil) (gName 7)) _ _ ([some (.ref l), some (.int 6), some (nV n), some (.ref im), some (.ref re), v5, some (.int (2 + (t : Int))), none, none, none, none] : L2.St) H5
      refine q_asgL (el_lst ea_nil (by decide)) fun pr H6 npr e6 h6 => ?_
      have prl : pr ≠ l := fun z => by rw [z, hl5] at npr; cases npr
      have pri : pr ≠ im := fun z => by rw [z, him5] at npr; cases npr
      have npr0 : H pr = none := (o4.trans o5).back npr (by rw [hl5]; intro z; cases z)
      refine q_forR1 (n := (n : Int)) (ea_cons (ev_var rfl) ea_nil) (by omega) (fun i σ' H' => ∃ v8 v9 ns' rs ps, σ' = [some (.ref l), some (.int 6), some (nV n), some (.ref im), some (.ref re), v5, some (.int (2 + (t : Int))), some (.ref pr), v8, v9, none] ∧ Off l H H' ∧ H' l = some (lV ns') ∧
        H' im = some (.lst (imL.map nV)) ∧ H' pr = some (.lst (rs.map V.ref)) ∧ PrR H' rs ps ∧ rs.length ≤ 6 * i ∧ ∀ p, p ∈ ps → Bef imL p.1 p.2)
        (fun H7 e7 => ⟨none, none, ns2, [], [], rfl, ((o4.trans o5).ex e6).ex e7, e7 _ _ (e6 _ _ hl5), e7 _ _ (e6 _ _ him5), e7 _ _ h6, PrR.nil, Nat.le_refl _, fun p hp => by simp at hp⟩) ?_ ?_
      · rintro i σ' H7 hi ⟨v8, v9, ns3, rs, ps, rfl, o7, hl7, hi7, hp7, pr7, c7, b7⟩
        refine s_forR1 (n := (i : Int)) (ea_cons (ev_var rfl) ea_nil) (by omega) (fun j σ' H' => ∃ v9 ns' rs ps, σ' = [some (.ref l), some (.int 6), some (nV n), some (.ref im), some (.ref re), v5, some (.int (2 + (t : Int))), some (.ref pr), some (nV i), v9, none] ∧ Off l H H' ∧ H' l = some (lV ns') ∧
          H' im = some (.lst (imL.map nV)) ∧ H' pr = some (.lst (rs.map V.ref)) ∧ PrR H' rs ps ∧ rs.length ≤ 6 * i + j ∧ ∀ p, p ∈ ps → Bef imL p.1 p.2)
          (fun H8 e8 => ⟨v9, ns3, rs, ps, rfl, o7.ex e8, e8 _ _ hl7, e8 _ _ hi7, e8 _ _ hp7, pr7.mono e8, c7, b7⟩) ?_ ?_
        · rintro j σ' H8 hj ⟨v9', ns4, rs, ps, rfl, o8, hl8, hi8, hp8, pr8, c8, b8⟩
          refine r_next (l := l) (ns := ns4) (m := 2 + (t : Int)) (ev_var rfl) (ev_var rfl) hl8 (by omega) fun r ns5 H9 hr hl9 o9 f9 => ⟨rfl, _, rfl, ?_⟩
          have hi9 := o9 _ _ iml hi8
          have hp9 := o9 _ _ prl hp8
          have pr9 := pr8.off hl8 o9
          by_cases hb : decide (nV r = V.int 0) = true
          · refine (iff_of_eq (if_pos hb)).mpr ?_
            obtain ⟨x, hx⟩ := lt_at (xs := imL) (i := j) (by omega)
            obtain ⟨y, hy⟩ := lt_at (xs := imL) (i := i) (by omega)
            refine s_appU (l := pr) (xs := rs.map V.ref) (ys := [nV x, nV y]) hp9 (ev_var rfl) (eu_tup (ea_cons (ev_op (ev_var rfl) (ev_var rfl) (rv_ixL (sq_of hi9) (at_nV hx))) (ea_cons (ev_op (ev_var rfl) (ev_var rfl) (rv_ixL (sq_of hi9) (at_nV hy))) ea_nil)) (by show 2 ≤ 100000; decide))
              (by rw [List.length_map]; omega) fun p H10 np e10 h10 => ?_
            have hp10 := e10 _ _ hp9
            refine ⟨_, ns5, rs ++ [p], ps ++ [(x, y)], rfl, (((o8.trans o9).ex e10)).mut npr0, ?_, ?_, ?_, ?_, ?_, ?_⟩
            · rw [upd_ne prl.symm]
              exact e10 _ _ hl9
            · rw [upd_ne pri.symm]
              exact e10 _ _ hi9
            · rw [upd_same, List.map_append]
              rfl
            · exact ((pr9.mono e10).upd hp10).push (by
                rw [upd_ne (ne_of h10 hp10 (by intro q; cases q))]
                exact h10)
            · rw [List.length_append]
              show rs.length + 1 ≤ _
              omega
            · intro q hq
              rcases List.mem_append.mp hq with hq | hq
              · exact b8 q hq
              · rw [List.mem_singleton.mp hq]
                exact ⟨j, i, by omega, hx, hy⟩
          · refine (iff_of_eq (if_neg hb)).mpr ?_
            exact ⟨_, ns5, rs, ps, rfl, o8.trans o9, hl9, hi9, hp9, pr9, by omega, b8⟩
        · rintro σ' H8 ⟨v9', ns4, rs, ps, rfl, o8, hl8, hi8, hp8, pr8, c8, b8⟩
          rw [Int.toNat_natCast] at c8
          exact ⟨_, _, ns4, rs, ps, rfl, o8, hl8, hi8, hp8, pr8, by omega, b8⟩
      · rintro σ' H7 ⟨v8, v9, ns3, rs, ps, rfl, o7, hl7, hi7, hp7, pr7, c7, b7⟩
        rw [Int.toNat_natCast] at c7
        refine s_retP (ep_make (C := CO) (Pre := fun (g : GC) ws H => ws = [nV g.n, .ref g.a] ∧ H g.a = some (.lst (g.rs.map V.ref)) ∧ PrR H g.rs g.ps ∧ Drawn g.n g.im g.ps ∧ g.rs.length ≤ 1000) (Post := fun (g : GC) v H => ∃ p A, v = .ref p ∧ OA CO g.n A p H)
          (⟨n, pr, rs, ps, imL⟩ : GC) (ea_q (ea_cons (ev_var rfl) (ea_cons (ev_var rfl) ea_nil))) fun vs H8 e8 hv => ?_) fun v H8 e8 hv => ?_
        · subst hv
          exact ⟨rfl, e8 _ _ hp7, pr7.mono e8, ⟨by show n ≤ 10; omega, rim.1, rim.2, b7⟩, by show rs.length ≤ 1000; omega⟩
        · obtain ⟨p, A, rfl, oa⟩ := hv
          exact k p n A ns3 H8 (o7.ex e8) (e8 _ _ hl7) oa hn6
end
end K27
/-! the law's table -/
namespace K27
open PySem L2 Evl
def rowB (n : Nat) (f : Nat → Bool) : List V := (List.range n).map fun y => V.bl (f y)
theorem rowB_len (n : Nat) (f : Nat → Bool) : (rowB n f).length = n := by unfold rowB; rw [List.length_map, List.length_range]
theorem rowB_at {n : Nat} {f : Nat → Bool} {y : Nat} (h : y < n) : atI (rowB n f) (y : Int) = some (.bl (f y)) := atI_nat (range_at (f := fun y => V.bl (f y)) h)
theorem rowB_congr {n : Nat} {f g : Nat → Bool} (h : ∀ y, y < n → f y = g y) : rowB n f = rowB n g := List.map_congr_left fun y hy => by rw [h y (List.mem_range.mp hy)]
theorem rowB_set {n : Nat} {f : Nat → Bool} {y : Nat} {v : Bool} : (rowB n f).set y (.bl v) = rowB n (fun k => if k = y then v else f k) := by
  apply List.ext_getElem?
  intro i
  by_cases hi : i < n
  · rw [show (rowB n fun k => if k = y then v else f k)[i]? = some (.bl (if i = y then v else f i)) from range_at (f := fun k => V.bl (if k = y then v else f k)) hi]
    by_cases e : i = y
    · subst e
      rw [List.getElem?_set_self (by rw [rowB_len]; exact hi), if_pos rfl]
    · rw [List.getElem?_set_ne (fun q => e q.symm), if_neg e]
      exact range_at (f := fun k => V.bl (f k)) hi
  · rw [List.getElem?_eq_none (by rw [List.length_set, rowB_len]; omega), List.getElem?_eq_none (by rw [rowB_len]; omega)]
theorem mem_take1 {α : Type} {xs : List α} {k : Nat} {p q : α} (h : xs[k]? = some p) : q ∈ xs.take (k + 1) ↔ q = p ∨ q ∈ xs.take k := by
  rw [List.take_add_one, h]
  rw [List.mem_append]
  constructor
  · rintro (z | z)
    · exact .inr z
    · exact .inl (List.mem_singleton.mp z)
  · rintro (z | z)
    · exact .inr (List.mem_singleton.mpr z)
    · exact .inl z
section
variable {P : Program} {w : World} {K : PySem.W.Frag} {mg : Str → Option Value} {base : Heap} {σ : L2.St} {H : Hp} {CO CI : Addr} {te ta tb : TE}
def tabO (n : Nat) (A : List Nat) (x : Nat) : HO := .lst (rowB n (rel A x))
def spLTable (CO : Addr) : Sp := fun vs H Q _ => ∃ (n : Nat) (A : List Nat) (p : Addr), vs = [.ref p] ∧ OA CO n A p H ∧ ∀ l rs H', Mat H H' l rs n (tabO n A) → Q (.ref l) H'
abbrev nLTable : List Str := ["_law_order_here", "_law_n", "_law_x", "_law_y", "_law_table_here"]
theorem scLTable : FnScope nLTable ["_law_order_here"] (defScope sLTable) := ⟨rfl, rfl, rfl, by decide +kernel, rfl, by decide +kernel, by decide +kernel⟩
theorem ok_ltable {f : Addr} {fd : FuncData} (F : Fun K "_law_table" "_law_table" sLTable f fd) (B : Bl mg) (mSize : Met P w K mg base 1 CO "size" ["self"] (spSize CO)) (mPairs : Met P w K mg base 2 CO "pairs" ["self"] (spPairs CO)) :
    FnOk P w K mg base CX0 3 f fd ["_law_order_here"] (spLTable CO) := by
  refine F.ok scLTable (fun vs H Q E h => ?_) (fun cdv A outer s H vs Q E hr h => ?_)
  · obtain ⟨n, A, p, rfl, _⟩ := h
    rfl
  · obtain ⟨n, A, p, rfl, o, k⟩ := h
    have hn := o.le
    refine ⟨_, pss_cons (st 1 scLTable.nd (pm0 mSize (pv 0) hr))
      (pss_cons (ps_setLc (i := 4) (own := [("_law_x", 2)]) (g := gName 2) (tt := tYes) rfl scLTable.nd rfl rfl (sw_true rfl rfl rfl (by decide +kernel)) (wR1 B (pv 1))
        (blkOk_by (N := nLTable) (sc := defScope sLTable) (by decide +kernel)) (fun _ _ _ _ _ => gn 2 scLTable.nd) (fun _ _ _ _ _ => pts_nil)
        (fun _ _ _ _ _ => pe_lc (own := [("_law_y", 3)]) (g := gName 3) (tt := tYes) rfl scLTable.nd (wR1 B (pv 1))
          (blkOk_by (N := nLTable) (sc := relS _ (defScope sLTable)) (by decide +kernel)) (fun _ _ _ _ _ => gn 3 scLTable.nd) (fun _ _ _ _ _ => pts_nil) (fun _ _ _ _ _ => pe_bl)))
      (pss_cons (ps_for PassesOwn.never rfl (wTup K (pm0 mPairs (pv 0) hr)) (gPair K rfl (pgs_cons (gn 2 scLTable.nd) (pgs_cons (gn 3 scLTable.nd) pgs_nil)))
        (pss_one (ps_asg pe_bl (pg_sub (ixl K (pv 4) (pv 2)) (pv 3) set_list))))
      (pss_one (ps_ret (pv 4))))), ?_⟩
    refine q_asg (ev_size (ev_var rfl) o) fun H1 e1 => ?_
    have em : EvM (tLc (iRng1 (tCons (tVar 1) tNil)) (gName 2) tYes (tLc (iRng1 (tCons (tVar 1) tNil)) (gName 3) tYes (tC (.bl false)) [3]) [2]) ([some (.ref p), some (nV n), none, none, none] : L2.St) H1 (n : Int).toNat (fun _ => .lst (given (n : Int).toNat (fun _ => true) (fun _ => .bl false))) :=
      em_lcR1 (n := (n : Int)) (fun _ => .lst (given (n : Int).toNat (fun _ => true) (fun _ => .bl false))) (ea_cons (ev_var rfl) ea_nil) (by omega) (fun x => rfl) fun i H2 e2 hi =>
        EvL.o (el_lcR1 (n := (n : Int)) (fun _ => true) (fun _ => .bl false) (ea_cons (ev_var rfl) ea_nil) (by omega) (fun x => rfl) (fun j H3 e3 hj => et_yes) fun j H3 e3 hj _ => ev_c)
    rw [Int.toNat_natCast] at em
    refine q_asgM em fun l rs H2 mt => ?_
    have o2 := o.mono (e1.trans mt.ex)
    obtain ⟨dx, tt, h1, h2⟩ := id o2.ob
    refine (ep_methA (C := CO) (n, A, p) (ev_var rfl) h1 (oF_no n tt (by decide +kernel) (by decide +kernel)) ea_nil fun H3 e3 => ⟨rfl, o2.mono e3⟩ : EvP _ _ H2 _) H2 (Ex.refl H2) _ fun v H3 e3 hv => ?_
    obtain ⟨t, rp, rfl, ht, hpr⟩ := hv
    dsimp only at hpr
    have hmt : Mat H1 H3 l rs n (fun i => .lst (rowB n fun y => decide ((i, y) ∈ (prs n A n).take 0))) := by
      refine (mt.ext e3).congr fun i hi => ?_
      rw [given_all]
      rfl
    refine ⟨t, rfl, ⟨_, st_of ht⟩, for_tup (xs := rp.map V.ref) (fun j σ' H' => ∃ v2 v3, σ' = [some (.ref p), some (nV n), v2, v3, some (.ref l)] ∧ H' t = some (.tup (rp.map V.ref)) ∧ PrR H' rp (prs n A n) ∧
      Mat H1 H' l rs n (fun i => .lst (rowB n fun y => decide ((i, y) ∈ (prs n A n).take j)))) ⟨none, none, rfl, ht, hpr, hmt⟩ (fun j σ' H' _ ⟨_, _, _, h, _⟩ => st_of h) ?_ ?_⟩
    · rintro j z σ' H4 hj ⟨v2, v3, rfl, ht4, hp4, m4⟩
      obtain ⟨r, hir, rfl⟩ := get_map hj
      obtain ⟨⟨x, y⟩, hps, hrt⟩ := hp4.at_ hir
      have b := o.po.bd _ _ ((prs_mem o.po (x, y)).mp (List.mem_of_getElem? hps))
      dsimp only at b
      have hx : x < rs.length := by rw [m4.len]; exact b.1
      have hrow := m4.at_ x _ (List.getElem?_eq_getElem hx)
      refine ⟨r, [nV x, nV y], rfl, st_of hrt, rfl, nV x, [nV y], rfl, nV y, [], rfl, rfl, ?_⟩
      refine s_setL (l := rs[x]) (xs := rowB n fun y => decide ((x, y) ∈ (prs n A n).take j)) (j := y) (v := .bl true) hrow ev_c (ev_op (ev_var rfl) (ev_var rfl) (rv_ixL (sq_of m4.hl) (ref_at hx))) (ev_var rfl) (by rw [rowB_len]; exact b.2) fun H5 e5 => ?_
      have hrow5 := e5 _ _ hrow
      refine ⟨_, _, rfl, ?_, (hp4.mono e5).upd hrow5, ?_⟩
      · rw [upd_ne (ne_of (e5 _ _ ht4) hrow5 (by intro q; cases q))]
        exact e5 _ _ ht4
      · refine (m4.set (List.getElem?_eq_getElem hx) e5).congr fun i hi => ?_
        by_cases q : i = x
        · subst q
          refine (if_pos rfl).trans (congrArg HO.lst ?_)
          rw [rowB_set]
          refine rowB_congr fun u _ => ?_
          by_cases e : u = y
          · rw [if_pos e, e]
            exact (decide_eq_true ((mem_take1 hps).mpr (.inl rfl))).symm
          · rw [if_neg e, Bool.eq_iff_iff, decide_eq_true_iff, decide_eq_true_iff, mem_take1 hps]
            exact ⟨.inr, fun z => z.resolve_left fun w => e (congrArg Prod.snd w)⟩
        · refine (if_neg q).trans (congrArg HO.lst (rowB_congr fun u _ => ?_))
          rw [Bool.eq_iff_iff, decide_eq_true_iff, decide_eq_true_iff, mem_take1 hps]
          exact ⟨.inr, fun z => z.resolve_left fun w => q (congrArg Prod.fst w)⟩
    · rintro σ' H4 ⟨v2, v3, rfl, ht4, hp4, m4⟩
      have hlen : (rp.map V.ref).length = (prs n A n).length := by rw [List.length_map, hp4.1]
      rw [hlen, List.take_length] at m4
      refine s_ret (ev_var rfl) fun H5 e5 => k l rs H5 ?_
      refine (⟨fresh_back e1 m4.nl, fun r hr => fresh_back e1 (m4.nr r hr), m4.nd, m4.lr, e1.trans m4.ex, m4.hl, m4.len, m4.at_⟩ : Mat H H4 l rs n _).ext e5 |>.congr fun i hi => ?_
      refine congrArg HO.lst (rowB_congr fun y _ => ?_)
      rw [Bool.eq_iff_iff, decide_eq_true_iff]
      exact prs_mem o.po (i, y)
end
end K27
/-! the law's chains -/
namespace K27
open PySem L2 Evl
/-- the table of an order, as lists -/
def TB (H : Hp) (l : Addr) (n : Nat) (A : List Nat) : Prop := ∃ rs : List Addr, H l = some (.lst (rs.map V.ref)) ∧ rs.length = n ∧ ∀ (x : Nat) r, rs[x]? = some r → H r = some (tabO n A x)
theorem TB.mono {H H' : Hp} {l : Addr} {n : Nat} {A : List Nat} (h : TB H l n A) (e : Ex H H') : TB H' l n A := by
  obtain ⟨rs, h1, h2, h3⟩ := h
  exact ⟨rs, e _ _ h1, h2, fun x r hx => e _ _ (h3 x r hx)⟩
theorem TB.of {H0 H : Hp} {l : Addr} {rs : List Addr} {n : Nat} {A : List Nat} (m : Mat H0 H l rs n (tabO n A)) : TB H l n A := ⟨rs, m.hl, m.len, m.at_⟩
/-- what the walk has added up behind i points -/
def acc (n : Nat) (L : Nat → Nat → Bool) (x y i : Nat) : Nat → Int
  | 0 => 0
  | k + 1 => S i fun z => if go L x y z = true then cv n L z y k else 0
theorem acc_start (n : Nat) (L : Nat → Nat → Bool) (x y : Nat) : ∀ k, acc n L x y 0 k = 0
  | 0 => rfl
  | k + 1 => rfl
theorem acc_no {n : Nat} {L : Nat → Nat → Bool} {x y z : Nat} (h : go L x y z = false) : ∀ k, acc n L x y (z + 1) k = acc n L x y z k
  | 0 => rfl
  | k + 1 => by
    show S (z + 1) _ = S z _
    rw [S_succ, if_neg (by rw [h]; exact Bool.false_ne_true), Int.add_zero]
theorem acc_yes {n : Nat} {L : Nat → Nat → Bool} {x y z : Nat} (h : go L x y z = true) (k : Nat) : acc n L x y (z + 1) (k + 1) = acc n L x y z (k + 1) + cv n L z y k := by
  show S (z + 1) _ = S z _ + _
  rw [S_succ, if_pos h]
theorem acc_end {n : Nat} {L : Nat → Nat → Bool} (h : PO n L) {x y : Nat} (e : x ≠ y) : ∀ k, acc n L x y n k = cv n L x y k
  | 0 => rfl
  | k + 1 => cv_step h e k
section
variable {P : Program} {w : World} {K : PySem.W.Frag} {mg : Str → Option Value} {base : Heap} {σ : L2.St} {H : Hp} {CO CI : Addr} {te ta tb : TE}
theorem ev_tab {tl tx ty : TE} {l : Addr} {n x y : Nat} {A : List Nat} (h : Ev tl σ H (.ref l)) (m : TB H l n A) (hx : Ev tx σ H (nV x)) (hy : Ev ty σ H (nV y)) (lx : x < n) (ly : y < n) : Ev (tOp (rIxL K) (tOp (rIxL K) tl tx) ty) σ H (.bl (rel A x y)) := by
  obtain ⟨rs, h1, h2, h3⟩ := m
  have hl : x < rs.length := by rw [h2]; exact lx
  exact ev_op (ev_op h hx (rv_ixL (sq_of h1) (ref_at hl))) hy (rv_ixL (sq_of (h3 x _ (List.getElem?_eq_getElem hl))) (rowB_at ly))
theorem ev_tabLen {tl : TE} {l : Addr} {n : Nat} {A : List Nat} (h : Ev tl σ H (.ref l)) (m : TB H l n A) : Ev (tCB (rLenS K) (tCons tl tNil)) σ H (nV n) := by
  obtain ⟨rs, h1, h2, h3⟩ := m
  exact ev_is (ev_len h (sq_of h1)) (congrArg V.int (by rw [List.length_map, h2]))
structure GH where
  n : Nat
  A : List Nat
  l : Addr
  x : Nat
  y : Nat
def spLChains (d : Nat) : Sp := fun vs H Q _ => ∃ g : GH, vs = [.ref g.l, nV g.x, nV g.y] ∧ TB H g.l g.n g.A ∧ PO g.n (rel g.A) ∧ g.n ≤ 10 ∧ g.x < g.n ∧ g.y < g.n ∧ up g.n (rel g.A) g.x < d ∧
  ∀ r H', H r = none → Ex H H' → H' r = some (.lst (rowV (g.n + 2) (cv g.n (rel g.A) g.x g.y))) → Q (.ref r) H'
theorem el_chains {d n x y : Nat} {A : List Nat} {l : Addr} {E : XK} {tr : TA} (h : EvA tr σ H [.ref l, nV x, nV y]) (m : TB H l n A) (po : PO n (rel A)) (hn : n ≤ 10) (lx : x < n) (ly : y < n) (hd : up n (rel A) x < d) :
    EvL (tCall (spLChains d) [] E tr) σ H (rowV (n + 2) (cv n (rel A) x y)) := fun H1 e Q q =>
  h H1 e _ fun H2 e2 => ⟨⟨n, A, l, x, y⟩, rfl, m.mono (e.trans e2), po, hn, lx, ly, hd, fun r H3 nr e3 h3 => q r H3 (fresh_back e2 nr) (e2.trans e3) h3⟩
abbrev nLChains : List Str := ["_law_table_here", "_law_x", "_law_y", "_law_counts", "_law_z", "_law_deeper", "_law_k"]
abbrev pLChains : List Str := ["_law_table_here", "_law_x", "_law_y"]
theorem scLChains : FnScope nLChains pLChains (defScope sLChains) := ⟨rfl, rfl, rfl, by decide +kernel, rfl, by decide +kernel, by decide +kernel⟩
theorem ok_lchains {d : Nat} {f : Addr} {fd : FuncData} (F : Fun K "_law_chains" "_law_chains" sLChains f fd) (B : Bl mg) (c : Cal P w K mg base d "_law_chains" pLChains (spLChains d)) : FnOk P w K mg base CX0 (d + 1) f fd pLChains (spLChains (d + 1)) := by
  refine F.ok scLChains (fun vs H Q E h => ?_) (fun cdv A outer s H vs Q E hr h => ?_)
  · obtain ⟨g, rfl, _⟩ := h
    rfl
  · obtain ⟨⟨n, A, l, x, y⟩, rfl, m, po, hn, lx, ly, hd, k⟩ := h
    dsimp only at m po hn lx ly hd k
    refine ⟨_, pss_cons (ps_setLc (i := 3) (own := [("_law_k", 6)]) (g := gName 6) (tt := tYes) rfl scLChains.nd rfl rfl (sw_true rfl rfl rfl (by decide +kernel)) (wR1 B (pe_op op_add (bLen K B (pv 0)) pe_int))
        (blkOk_by (N := nLChains) (sc := defScope sLChains) (by decide +kernel)) (fun _ _ _ _ _ => gn 6 scLChains.nd) (fun _ _ _ _ _ => pts_nil) (fun _ _ _ _ _ => pe_int))
      (pss_cons (ps_if (pt_cmpR op_eq (pv 1) (pv 2) (nomark _)) (pss_cons (ps_asg pe_int (pg_sub (pv 3) pe_int set_list)) (pss_one (ps_ret (pv 3)))) pss_nil)
      (pss_cons (ps_for PassesOwn.never rfl (wR1 B (bLen K B (pv 0))) (gn 4 scLChains.nd)
        (pss_one (ps_if (PW.pt (pw_and (pt_val (ixl K (ixl K (pv 0) (pv 1)) (pv 4))) (pw_and1 (PW.pt (pw_or (pt_cmpR op_eq (pv 4) (pv 2) (nomark _)) (pw_or1 (pt_val (ixl K (ixl K (pv 0) (pv 4)) (pv 2)))))))))
          (pss_cons (st 5 scLChains.nd (pc c hr (pa_cons (pv 0) (pa_cons (pv 4) (pa_cons (pv 2) pa_nil))) (Nat.le_refl d)))
          (pss_one (ps_for PassesOwn.never rfl (pi_range2 (by rfl) B.range (pa_cons pe_int (pa_cons (bLen K B (pv 3)) pa_nil))) (gn 6 scLChains.nd)
            (pss_one (ps_asg (pe_op op_add (ixl K (pv 3) (pv 6)) (ixl K (pv 5) (pe_op op_sub (pv 6) pe_int))) (pg_sub (pv 3) (pv 6) set_list)))))) pss_nil)))
      (pss_one (ps_ret (pv 3))))), ?_⟩
    refine q_asgL (el_lcR1 (n := ((n + 2 : Nat) : Int)) (fun _ => true) (fun i => .int 0) (ea_cons (ev_is (ev_op (ev_tabLen (ev_var rfl) m) ev_c rv_I0) (congrArg V.int (by omega))) ea_nil) (by omega) (fun x => rfl) (fun i H3 e3 hi => et_yes) (fun i H3 e3 hi _ => ev_c)) fun co H1 nco e1 h1 => ?_
    rw [Int.toNat_natCast, given_all] at h1
    have h1 : H1 co = some (.lst (rowV (n + 2) fun _ => 0)) := h1
    refine q_when (b := decide (x = y)) (et_test (ev_is (ev_op (ev_var rfl) (ev_var rfl) (rv_eq rfl)) (congrArg V.bl (dec_nV x y)))) (fun hb H2 e2 => ?_) (fun hb H2 e2 => ?_)
    · have exy : x = y := of_decide_eq_true hb
      subst exy
      refine q_setL (l := co) (xs := rowV (n + 2) fun _ => 0) (j := 1) (v := .int 1) (e2 _ _ h1) ev_c (ev_var rfl) ev_c (by rw [rowV_len]; omega) fun H3 e3 => ?_
      refine s_ret (ev_var rfl) fun H4 e4 => k co H4 nco ((Ex.mut ((e1.trans e2).trans e3) nco).trans e4) (e4 _ _ ?_)
      rw [upd_same, rowV_set]
      exact congrArg (fun r => some (HO.lst r)) (rowV_congr fun j _ => (cv_same po x j).symm)
    · have nxy : x ≠ y := of_decide_eq_false hb
      have m2 := m.mono (e1.trans e2)
      refine q_forR1 (n := (n : Int)) (ea_cons (ev_tabLen (ev_var rfl) m2) ea_nil) (by omega) (fun i σ' H' => ∃ v4 v5 v6, σ' = [some (.ref l), some (nV x), some (nV y), some (.ref co), v4, v5, v6] ∧ Ex H H' ∧ H' co = some (.lst (rowV (n + 2) (acc n (rel A) x y i))))
        (fun H3 e3 => ⟨none, none, none, rfl, (e1.trans e2).trans e3, ?_⟩) ?_ ?_
      · rw [show rowV (n + 2) (acc n (rel A) x y 0) = rowV (n + 2) (fun _ => 0) from rowV_congr fun j _ => acc_start n (rel A) x y j]
        exact e3 _ _ (e2 _ _ h1)
      · rintro z σ' H3 hz ⟨v4, v5, v6, rfl, e3, h3⟩
        have lz : z < n := by omega
        have m3 := m.mono e3
        have tgo : EvT (tAnd (tB (tOp (rIxL K) (tOp (rIxL K) (tVar 0) (tVar 1)) (tVar 4))) (tOr (tTest (tOp rEq (tVar 4) (tVar 2))) (tB (tOp (rIxL K) (tOp (rIxL K) (tVar 0) (tVar 4)) (tVar 2))))) ([some (.ref l), some (nV x), some (nV y), some (.ref co), some (nV z), v5, v6] : L2.St) H3 (go (rel A) x y z) :=
          et_is (et_and (a := rel A x z) (et_B (ev_tab (ev_var rfl) m3 (ev_var rfl) (ev_var rfl) lx lz)) fun _ => et_or (a := decide (z = y)) (et_test (ev_is (ev_op (ev_var rfl) (ev_var rfl) (rv_eq rfl)) (congrArg V.bl (dec_nV z y)))) fun _ => et_B (ev_tab (ev_var rfl) m3 (ev_var rfl) (ev_var rfl) lz ly)) (by unfold go; rfl)
        refine s_when (b := go (rel A) x y z) tgo (fun hg H4 e4 => ?_) (fun hg H4 e4 => ?_)
        · have lxz : rel A x z = true := by
            unfold go at hg
            rw [Bool.and_eq_true] at hg
            exact hg.1
          have hup := po.up_lt lxz
          refine q_asgL (el_chains (n := n) (x := z) (y := y) (A := A) (l := l) (ea_cons (ev_var rfl) (ea_cons (ev_var rfl) (ea_cons (ev_var rfl) ea_nil))) (m3.mono e4) po hn lz ly (by omega)) fun dp H5 ndp e5 h5 => ?_
          have h5c := e5 _ _ (e4 _ _ h3)
          have dpc : dp ≠ co := fun q => by rw [q, e4 _ _ h3] at ndp; cases ndp
          refine s_forR2 (lo := 1) (n := ((n + 2 : Nat) : Int)) (ea_cons ev_c (ea_cons (ev_is (ev_len (ev_var rfl) (sq_of h5c)) (congrArg V.int (by rw [rowV_len]))) ea_nil)) (by omega)
            (fun i σ' H' => ∃ v6, σ' = [some (.ref l), some (nV x), some (nV y), some (.ref co), some (nV z), some (.ref dp), v6] ∧ Ex H H' ∧ H' dp = some (.lst (rowV (n + 2) (cv n (rel A) z y))) ∧ H' co = some (.lst (rowV (n + 2) (fun k => if k ≤ i then acc n (rel A) x y (z + 1) k else acc n (rel A) x y z k))))
            (fun H6 e6 => ⟨_, rfl, ((e3.trans e4).trans e5).trans e6, e6 _ _ h5, ?_⟩) ?_ ?_
          · rw [show rowV (n + 2) (fun k => if k ≤ 0 then acc n (rel A) x y (z + 1) k else acc n (rel A) x y z k) = rowV (n + 2) (acc n (rel A) x y z) from rowV_congr fun j _ => by
              by_cases q : j ≤ 0
              · rw [if_pos q, Nat.le_zero.mp q]
                rfl
              · rw [if_neg q]]
            exact e6 _ _ h5c
          · rintro i σ' H6 hi ⟨v6', rfl, e6, hd6, hc6⟩
            have hi2 : i + 1 < n + 2 := by omega
            refine s_setL (l := co) (xs := rowV (n + 2) (fun k => if k ≤ i then acc n (rel A) x y (z + 1) k else acc n (rel A) x y z k)) (j := i + 1) (v := .int (acc n (rel A) x y (z + 1) (i + 1))) hc6
              (ev_is (ev_op (ev_op (ev_var rfl) (ev_is (w := nV (i + 1)) (ev_var rfl) (congrArg V.int (by omega))) (rv_ixL (sq_of hc6) (rowV_at hi2))) (ev_op (ev_var rfl) (ev_is (w := nV i) (ev_op (ev_var rfl) ev_c rv_I0) (congrArg V.int (by omega))) (rv_ixL (sq_of hd6) (rowV_at (by omega)))) rv_I0) (congrArg V.int ?_))
              (ev_var rfl) (ev_is (w := nV (i + 1)) (ev_var rfl) (congrArg V.int (by omega))) (by rw [rowV_len]; exact hi2) fun H7 e7 => ?_
            · rw [if_neg (Nat.not_succ_le_self i)]
              exact (acc_yes hg i).symm
            · refine ⟨_, rfl, Ex.mut (e6.trans e7) nco, ?_, ?_⟩
              · rw [upd_ne dpc]
                exact e7 _ _ hd6
              · rw [upd_same, rowV_set]
                refine congrArg (fun r => some (HO.lst r)) (rowV_congr fun j _ => ?_)
                by_cases q : j = i + 1
                · rw [if_pos q, if_pos (by omega), q]
                · rw [if_neg q]
                  by_cases q2 : j ≤ i
                  · rw [if_pos q2, if_pos (by omega)]
                  · rw [if_neg q2, if_neg (by omega)]
          · rintro σ' H6 ⟨v6', rfl, e6, hd6, hc6⟩
            refine ⟨_, _, _, rfl, e6, ?_⟩
            rw [hc6]
            refine congrArg (fun r => some (HO.lst r)) (rowV_congr fun j hj => if_pos ?_)
            omega
        · refine ⟨_, _, _, rfl, e3.trans e4, ?_⟩
          rw [show rowV (n + 2) (acc n (rel A) x y (z + 1)) = rowV (n + 2) (acc n (rel A) x y z) from rowV_congr fun j _ => acc_no hg j]
          exact e4 _ _ h3
      · rintro σ' H3 ⟨v4, v5, v6, rfl, e3, h3⟩
        rw [Int.toNat_natCast, show rowV (n + 2) (acc n (rel A) x y n) = rowV (n + 2) (cv n (rel A) x y) from rowV_congr fun j _ => acc_end po nxy j] at h3
        exact s_ret (ev_var rfl) fun H4 e4 => k co H4 nco (e3.trans e4) (e4 _ _ h3)
theorem chains_all {f : Addr} {fd : FuncData} (F : Fun K "_law_chains" "_law_chains" sLChains f fd) (B : Bl mg) (b : Binds K fd pLChains []) (hm : mg "_law_chains" = some (.ref f)) : ∀ d : Nat, Cal P w K mg base d "_law_chains" pLChains (spLChains d)
  | 0 => by
    have no : ∀ vs H Q E, ¬ spLChains 0 vs H Q E := fun vs H Q E h => by
      obtain ⟨g, _, _, _, _, _, _, hd, _⟩ := h
      exact Nat.not_lt_zero _ hd
    exact ⟨f, fd, hm, F.kp, b, ⟨fun vs H Q E h => absurd h (no vs H Q E), fun A outer s H args us vs Q E _ _ _ _ h => absurd h (no vs H Q E)⟩⟩
  | d + 1 => ⟨f, fd, hm, F.kp, b, ok_lchains F B (chains_all F B b hm d)⟩
end
end K27
/-! what the law needs besides: things kept while the numbers are popped, the values, the sums -/
namespace K27
open PySem L2 Evl
/-! ### popping leaves the rest -/
theorem OA.off {CO : Addr} {n : Nat} {A : List Nat} {p l : Addr} {H H' : Hp} {xs : List V} (o : OA CO n A p H) (hl : H l = some (.lst xs)) (f : Off l H H') : OA CO n A p H' :=
  ⟨let ⟨dx, t, h1, h2⟩ := o.ob; ⟨dx, t, f _ _ (ne_of h1 hl (by intro q; cases q)) h1, f _ _ (ne_of h2 hl (by intro q; cases q)) h2⟩, o.len, o.le, o.po⟩
theorem IA.off {CI : Addr} {n : Nat} {M : Nat → Nat → Int} {p q l : Addr} {H H' : Hp} {xs : List V} (m : IA CI n M p q H) (hl : H l = some (.lst xs)) (f : Off l H H') : IA CI n M p q H' := by
  obtain ⟨dx, t, rs, h0, h1, h2, h3⟩ := m
  exact ⟨dx, t, rs, f _ _ (ne_of h0 hl (by intro q; cases q)) h0, f _ _ (ne_of h1 hl (by intro q; cases q)) h1, h2, fun x r hx => f _ _ (ne_of (h3 x r hx) hl (by intro q; cases q)) (h3 x r hx)⟩
theorem TB.off {n : Nat} {A : List Nat} {l t : Addr} {rs : List Addr} {H0 H H' : Hp} {o : HO} (m : Mat H0 H t rs n (tabO n A)) (hl : H0 l = some o) (f : Off l H H') : TB H' t n A := by
  have n1 : t ≠ l := fun q => by
    have := m.nl
    rw [q, hl] at this
    cases this
  refine ⟨rs, f _ _ n1 m.hl, m.len, fun x r hx => f _ _ (fun q => ?_) (m.at_ x r hx)⟩
  have := m.nr r (List.mem_of_getElem? hx)
  rw [q, hl] at this
  cases this
/-! ### the values -/
theorem rowV_getD (vals : List Int) : rowV vals.length (fun x => vals.getD x 0) = vals.map V.int := by
  apply List.ext_getElem?
  intro i
  rcases Nat.lt_or_ge i vals.length with h | h
  · rw [show (rowV vals.length fun x => vals.getD x 0)[i]? = some (.int (vals.getD i 0)) from range_at (f := fun x => V.int (vals.getD x 0)) h, List.getElem?_map, List.getElem?_eq_getElem h, List.getD_eq_getElem?_getD, List.getElem?_eq_getElem h]
    rfl
  · rw [List.getElem?_eq_none (by rw [rowV_len]; exact h), List.getElem?_eq_none (by rw [List.length_map]; exact h)]
/-- sums over what lies at or below y -/
def low (n : Nat) (L : Nat → Nat → Bool) (v : Nat → Int) (y : Nat) : Int := S n fun w => if w = y ∨ L w y = true then v w else 0
theorem low_filter (n : Nat) (L : Nat → Nat → Bool) (v : Nat → Int) (y : Nat) : (((List.range n).filter fun x => decide (x = y) || L x y).map v).sum = low n L v y := by
  rw [S_filt]
  refine S_congr fun x _ => ?_
  by_cases h : x = y ∨ L x y = true
  · rw [if_pos h, if_pos (by rw [Bool.or_eq_true, decide_eq_true_iff]; exact h)]
  · rw [if_neg h, if_neg (by rw [Bool.or_eq_true, decide_eq_true_iff]; exact h)]
theorem low_Z (n : Nat) (L : Nat → Nat → Bool) (v : Nat → Int) (y : Nat) : (S n fun x => v x * Z L x y) = low n L v y := S_congr fun x _ => by
  unfold Z
  rw [mul_ite1]
theorem low_abs {n : Nat} {L : Nat → Nat → Bool} {v : Nat → Int} (hn : n ≤ 10) (h : ∀ x, x < n → -4 ≤ v x ∧ v x ≤ 4) (y : Nat) : Big (low n L v y) := by
  have q := S_abs (n := n) (f := fun w => if w = y ∨ L w y = true then v w else 0) (b := 4) fun i hi => by
    have := h i hi
    show -4 ≤ (if i = y ∨ L i y = true then v i else 0) ∧ (if i = y ∨ L i y = true then v i else 0) ≤ 4
    split
    · exact this
    · omega
  unfold Big
  unfold low
  omega
theorem low_back {n : Nat} {L : Nat → Nat → Bool} (h : PO n L) (v : Nat → Int) {y : Nat} (hy : y < n) : (S n fun x => low n L v x * mu n L x y) = v y := back h v hy
section
variable {P : Program} {w : World} {K : PySem.W.Frag} {mg : Str → Option Value} {base : Heap} {σ : L2.St} {H : Hp} {CO CI : Addr} {te ta tb : TE}
theorem r_vals {l : Addr} {ns : List Int} {n j : Nat} {vs : List Nat} {Q : VK} (hn : n ≤ 1000) (h : Ev ta σ H (nV n)) (hw : ∀ x, wipe ((wipe σ vs).set j (some x)) vs = wipe σ vs) (hb : ∀ (i : Nat) H1, Ev tb ((wipe σ vs).set j (some (nV i))) H1 (.ref l)) (hl : H l = some (lV ns))
    (k : ∀ (t : Addr) (vals ns' : List Int) (H' : Hp), H t = none → Off l H H' → H' l = some (lV ns') → vals.length = n → (∀ v, v ∈ vals → -4 ≤ v ∧ v ≤ 4) → H' t = some (.lst (vals.map V.int)) → Q (.ref t) H') :
    tLc (iRng1 (tCons ta tNil)) (gName j) tYes (tOp (rI0 fun i j => .int (i - j)) (tCall spNext [] E0 (tCons tb (tCons (tC (.int 9)) tNil))) (tC (.int 4))) vs σ H Q :=
  h H (Ex.refl H) _ fun H1 e1 => ⟨(n : Int), rfl, by omega, by omega, fun Dl hD => by
    have hDl : Dl ≠ l := fun q => by
      rw [q, e1 _ _ hl] at hD
      cases hD
    exact lc_range (lo := 0) (n := (n : Int).toNat) (fun i H' => ∃ (vals : List Int) (ns' : List Int), Off l H H' ∧ H' l = some (lV ns') ∧ vals.length = i ∧ (∀ v, v ∈ vals → -4 ≤ v ∧ v ≤ 4) ∧ H' Dl = some (.lst (vals.map V.int)))
      ⟨[], ns, Off.mut (Off.of e1) (fresh_back e1 hD), by rw [upd_ne hDl.symm]; exact e1 _ _ hl, rfl, fun v hv => by simp at hv, upd_same⟩ (fun i H' hi p => by
        have e0 : (0 : Int) + (i : Int) = (i : Int) := Int.zero_add _
        obtain ⟨vals, ns', o, hl', hlen, hv, hD'⟩ := p
        show wipe ((wipe σ vs).set j (some (.int ((0 : Int) + (i : Int))))) vs = wipe σ vs ∧ tCall spNext [] E0 (tCons tb (tCons (tC (.int 9)) tNil)) ((wipe σ vs).set j (some (.int ((0 : Int) + (i : Int))))) H' fun x H3 => rI0 (fun i j => .int (i - j)) x (.int 4) H3 fun y H4 => ∃ acc, H4 Dl = some (.lst acc) ∧ acc.length < sizeLine ∧ ∃ (vals : List Int) (ns' : List Int), Off l H (upd H4 Dl (.lst (acc ++ [y]))) ∧ (upd H4 Dl (.lst (acc ++ [y]))) l = some (lV ns') ∧ vals.length = i + 1 ∧ (∀ v, v ∈ vals → -4 ≤ v ∧ v ≤ 4) ∧ (upd H4 Dl (.lst (acc ++ [y]))) Dl = some (.lst (vals.map V.int))
        rw [e0]
        refine ⟨hw _, r_next (m := 9) (hb i H') ev_c hl' (by decide) fun r ns2 H3 hr hl3 o3 f3 => ⟨(r : Int), 4, rfl, rfl, vals.map V.int, o3 _ _ hDl hD', by rw [List.length_map]; exact size_lt (by omega), vals ++ [(r : Int) - 4], ns2, Off.mut (o.trans o3) (fresh_back e1 hD), ?_, ?_, ?_, ?_⟩⟩
        · rw [upd_ne hDl.symm]
          exact hl3
        · rw [List.length_append, hlen]
          rfl
        · intro v hv'
          rcases List.mem_append.mp hv' with z | z
          · exact hv v z
          · rw [List.mem_singleton.mp z]
            omega
        · rw [upd_same, List.map_append]
          rfl) (fun H' p => by
        obtain ⟨vals, ns', o, hl', hlen, hv, hD'⟩ := p
        exact k Dl vals ns' H' (fresh_back e1 hD) o hl' (by rw [hlen, Int.toNat_natCast]) hv hD')⟩
/-- a method of an instance, its arguments told by Phi -/
theorem ep_methV {γ : Type} {Pre : γ → List V → Hp → Prop} {Post : γ → V → Hp → Prop} {ψ : V → Hp → Prop} {Φ : List V → Hp → Prop} {E : XK} {C a : Addr} {m : Str} {dx : Addr} {fs : List (Str × V)} {tr : TA} (ho : Ev ta σ H (.ref a)) (hH : H a = some (.ins C dx fs)) (hl : fs.lookup m = none)
    (h : EvQ tr σ H Φ) (k : ∀ vs H1, Ex H H1 → Φ vs H1 → ∃ g, Pre g (.ref a :: vs) H1 ∧ ∀ w H2, Post g w H2 → ψ w H2) : EvP (tMeth C m (SpG Pre Post) [] E ta tr) σ H ψ := fun H1 e Q q =>
  ho H1 e _ fun H2 e2 => ⟨a, dx, fs, rfl, e2 _ _ (e _ _ hH), hl, h H2 (e.trans e2) _ fun vs H3 e3 hv => by
    obtain ⟨g, hg, hw⟩ := k vs H3 ((e.trans e2).trans e3) hv
    exact ⟨g, by rw [List.append_nil]; exact hg, fun v H4 e4 hp => q v H4 ((e2.trans e3).trans e4) (hw v H4 hp)⟩⟩
theorem eu_p {xs : List V} (h : EvU te σ H xs) : EvP te σ H (fun v H => ∃ p, v = .ref p ∧ H p = some (.tup xs)) := fun H1 e Q q => h H1 e _ fun p H2 _ e2 h2 => q _ H2 e2 ⟨p, rfl, h2⟩
theorem mo_tup {xs : List V} : Mo (fun v H => ∃ p, v = .ref p ∧ H p = some (.tup xs)) := fun v H H' e ⟨p, q, h⟩ => ⟨p, q, e _ _ h⟩
/-- two tuples of the same ints told apart, told alike -/
theorem ev_neTT {n : Nat} {f : Nat → Int} (ha : EvP ta σ H (fun v H => ∃ p, v = .ref p ∧ H p = some (.tup (rowV n f)))) (hb : EvP tb σ H (fun v H => ∃ p, v = .ref p ∧ H p = some (.tup (rowV n f)))) : Ev (tOp (rNeD K) ta tb) σ H (.bl false) :=
  (ep_opPP (ψ := fun v _ => v = .bl false) mo_tup ha hb fun x y H1 e hx hy Q q => by
    obtain ⟨p, rfl, hp⟩ := hx
    obtain ⟨p', rfl, hp'⟩ := hy
    rw [rowV_int] at hp hp'
    exact rv_neT (st_of hp) (st_of hp') H1 (Ex.refl H1) Q fun H2 e2 => q _ H2 e2 rfl).ev
theorem ev_eqTT {n : Nat} {f : Nat → Int} (ha : EvP ta σ H (fun v H => ∃ p, v = .ref p ∧ H p = some (.tup (rowV n f)))) (hb : EvP tb σ H (fun v H => ∃ p, v = .ref p ∧ H p = some (.tup (rowV n f)))) : Ev (tOp (rEqD K) ta tb) σ H (.bl true) :=
  (ep_opPP (ψ := fun v _ => v = .bl true) mo_tup ha hb fun x y H1 e hx hy Q q => by
    obtain ⟨p, rfl, hp⟩ := hx
    obtain ⟨p', rfl, hp'⟩ := hy
    rw [rowV_int] at hp hp'
    exact rv_eqT (st_of hp) (st_of hp') H1 (Ex.refl H1) Q fun H2 e2 => q _ H2 e2 rfl).ev
end
end K27
/-! the law -/
namespace K27
open PySem L2 Evl
section
variable {P : Program} {w : World} {K : PySem.W.Frag} {mg : Str → Option Value} {base : Heap} {σ : L2.St} {H : Hp} {CO CI : Addr} {te ta tb : TE}
def spLaw (K : PySem.W.Frag) : Sp := fun vs H Q _ => ∃ (a : Addr) (ns : List Int), vs = [.ref a] ∧ SqL K H a (ns.map V.int) ∧ ns.length ≤ 63 ∧ ∀ H', Q (.bl true) H'
abbrev nLaw : List Str := ["_law_script", "_law_numbers_here", "_law_order_here", "_law_n", "_law_table_here", "_law_mu", "_law_x", "_law_y", "_law_due", "_law_counts", "_law_k", "_law_values", "_law_below"]
theorem scLaw : FnScope nLaw ["_law_script"] (defScope sLaw) := ⟨rfl, rfl, rfl, by decide +kernel, rfl, by decide +kernel, by decide +kernel⟩
theorem q_vals {l : Addr} {ns : List Int} {n j i : Nat} {vs : List Nat} {D : Ends} {tz : TS} (hn : n ≤ 1000) (h : Ev ta σ H (nV n)) (hw : ∀ x, wipe ((wipe σ vs).set j (some x)) vs = wipe σ vs) (hb : ∀ (i : Nat) H1, Ev tb ((wipe σ vs).set j (some (nV i))) H1 (.ref l)) (hl : H l = some (lV ns))
    (k : ∀ (t : Addr) (vals : List Int) (H1 H2 : Hp), Off l H H1 → Ex H1 H2 → vals.length = n → (∀ v, v ∈ vals → -4 ≤ v ∧ v ≤ 4) → H2 t = some (.tup (vals.map V.int)) → tz D (σ.set i (some (.ref t))) H2) :
    tSeq (tAsg (tCB (rTupS K) (tCons (tLc (iRng1 (tCons ta tNil)) (gName j) tYes (tOp (rI0 fun i j => .int (i - j)) (tCall spNext [] E0 (tCons tb (tCons (tC (.int 9)) tNil))) (tC (.int 4))) vs) tNil)) (gName i)) tz D σ H :=
  r_vals (Q := fun v H1 => tNil σ H1 fun us H2 => rTupS K (v :: us) H2 fun x H3 => gName i x σ H3 (tz D)) hn h hw hb hl fun vl vals ns' H7 nvl f7 hl7 hlen hv hvl => ⟨vl, _, rfl, .inl ⟨sq_of hvl, fun vt nvt => k vt vals H7 _ f7 (Ex.new nvt) hlen hv upd_same⟩⟩
theorem sg_val (j : Nat) : (1 : Int) - 2 * (((1 : Int) + (j : Int) - 1) % 2) = sg j := by
  unfold sg
  have : (1 : Int) + (j : Int) - 1 = (j : Int) := by omega
  rw [this]
theorem ok_law {f : Addr} {fd : FuncData} (F : Fun K "law" "law" sLaw f fd) (B : Bl mg) (I : IC K mg CI) (cNum : Cal P w K mg base 1 "_law_numbers" ["_law_script"] (spNumbers K)) (cOrd : Cal P w K mg base 5 "_law_order" ["_law_numbers_here", "_law_most"] (spLOrder CO))
    (mSize : Met P w K mg base 1 CO "size" ["self"] (spSize CO)) (cTab : Cal P w K mg base 3 "_law_table" ["_law_order_here"] (spLTable CO)) (cMoe : Cal P w K mg base 7 "moebius" ["order"] (spMoebius CO CI)) (cCh : Cal P w K mg base 7 "_law_chains" pLChains (spLChains 7))
    (cBet : Cal P w K mg base 8 "chains_between" ["order", "x", "y", "many"] (spBetween CO)) (mVal : Met P w K mg base 1 CI "value" ["self", "x", "y"] (spValue CI)) (cNext : Cal P w K mg base 1 "_law_next" ["_law_numbers_here", "_law_many"] spNext)
    (cZeta : Cal P w K mg base 6 "zeta" ["order"] (spZeta CO CI)) (mSums : Met P w K mg base 1 CI "sums" ["self", "values"] (spSums CI)) : FnOk P w K mg base CX0 9 f fd ["_law_script"] (spLaw K) := by
  refine F.ok scLaw (fun vs H Q E h => ?_) (fun cdv A outer s H vs Q E hr h => ?_)
  · obtain ⟨a, ns, rfl, _⟩ := h
    rfl
  · obtain ⟨a, xs, rfl, hS, h63, k⟩ := h
    have hu := hr.units
    refine ⟨_, pss_cons (st 1 scLaw.nd (pc cNum hr (pa_cons (pv 0) pa_nil)))
      (pss_cons (st 2 scLaw.nd (pc cOrd hr (pa_cons (pv 1) (pa_cons pe_int pa_nil))))
      (pss_cons (st 3 scLaw.nd (pm0 mSize (pv 2) hr))
      (pss_cons (st 4 scLaw.nd (pc cTab hr (pa_cons (pv 2) pa_nil)))
      (pss_cons (st 5 scLaw.nd (pc cMoe hr (pa_cons (pv 2) pa_nil)))
      (pss_cut (ps_for PassesOwn.never rfl (wR1 B (pv 3)) (gn 6 scLaw.nd)
        (pss_one (ps_for PassesOwn.never rfl (wR1 B (pv 3)) (gn 7 scLaw.nd)
          (pss_cons (st 8 scLaw.nd pe_int)
          (pss_cut (ps_if (PW.pt (pw_or (pt_cmpR op_eq (pv 6) (pv 7) (nomark _)) (pw_or1 (pt_val (ixl K (ixl K (pv 4) (pv 6)) (pv 7))))))
            (pss_cons (st 9 scLaw.nd (pc cCh hr (pa_cons (pv 4) (pa_cons (pv 6) (pa_cons (pv 7) pa_nil)))))
            (pss_one (ps_for PassesOwn.never rfl (pi_range2 (by rfl) B.range (pa_cons pe_int (pa_cons (bLen K B (pv 9)) pa_nil))) (gn 10 scLaw.nd)
              (pss_cons (st 8 scLaw.nd (pe_op op_add (pv 8) (pe_op op_mul (ixl K (pv 9) (pv 10)) (pe_op op_sub pe_int (pe_op op_mul pe_int (pe_op op_mod (pe_op op_sub (pv 10) pe_int) pe_int))))))
              (pss_one (ps_if (PW.pt (pw_and (pt_cmpR op_lt (pv 10) pe_int (nomark _)) (pw_and1 (pt_cmpR op_ne (pc cBet hr (pa_cons (pv 2) (pa_cons (pv 6) (pa_cons (pv 7) (pa_cons (pv 10) pa_nil))))) (ixl K (pv 9) (pv 10)) (nomark _)))))
                (pss_one (ps_ret pe_bl)) pss_nil)))))) pss_nil)
          (pss_one (ps_if (pt_cmpR op_ne (pm mVal (pv 5) hr (pa_cons (pv 6) (pa_cons (pv 7) pa_nil))) (pv 8) (nomark _)) (pss_one (ps_ret pe_bl)) pss_nil)))))))
      (pss_cons (st 11 scLaw.nd (bTup K B (pe_lc (own := [("_law_x", 6)]) (g := gName 6) (tt := tYes) rfl scLaw.nd (wR1 B (pv 3)) (blkOk_by (N := nLaw) (sc := defScope sLaw) (by decide +kernel)) (fun _ _ _ _ _ => gn 6 scLaw.nd) (fun _ _ _ _ _ => pts_nil)
          (fun _ _ _ _ _ => pe_op op_sub (pc cNext hr (pa_cons (pv 1) (pa_cons pe_int pa_nil))) pe_int))))
      (pss_cons (ps_setLc (i := 12) (own := [("_law_y", 7)]) (g := gName 7) (tt := tYes) rfl scLaw.nd rfl rfl (sw_true rfl rfl rfl (by decide +kernel)) (wR1 B (pv 3)) (blkOk_by (N := nLaw) (sc := defScope sLaw) (by decide +kernel)) (fun _ _ _ _ _ => gn 7 scLaw.nd) (fun _ _ _ _ _ => pts_nil)
          (fun _ _ _ _ _ => bSum K B rfl (pe_lc (own := [("_law_x", 6)]) (g := gName 6) rfl scLaw.nd (wR1 B (pv 3)) (blkOk_by (N := nLaw) (sc := relS _ (defScope sLaw)) (by decide +kernel)) (fun _ _ _ _ _ => gn 6 scLaw.nd)
            (fun _ _ _ _ _ => pts_one (PW.pt (pw_or (pt_cmpR op_eq (pv 6) (pv 7) (nomark _)) (pw_or1 (pt_val (ixl K (ixl K (pv 4) (pv 6)) (pv 7))))))) (fun _ _ _ _ _ => ixt K (pv 11) (pv 6)))))
      (pss_cons (ps_if (pt_cmpR (op_neD hu) (pm mSums (pc cZeta hr (pa_cons (pv 2) pa_nil)) hr (pa_cons (pv 11) pa_nil)) (bTup K B (pv 12)) (nomark _)) (pss_one (ps_ret pe_bl)) pss_nil)
      (pss_one (ps_ret (pe_cmpR (op_eqD hu) (pm mSums (pv 5) hr (pa_cons (bTup K B (pv 12)) pa_nil)) (pv 11) (nomark _)))))))))))), ?_⟩
    -- _law_numbers
    refine (ev_var rfl : Ev (tVar 0) _ H (.ref a)) H (Ex.refl H) _ fun H0 e0 => ⟨a, xs, rfl, ex_l e0 hS, h63, fun ln ns H1 e1 nln hln _ => ?_⟩
    -- _law_order
    refine (⟨_, rfl, ln, ns, rfl, hln, fun p n A ns2 H2 o2 hl2 o hn6 => ?_⟩ : tSeq (tAsg (tCall (spLOrder CO) [] E0 (tCons (tVar 1) (tCons (tC (.int 6)) tNil))) (gName 2)) _ _ ([some (.ref a), some (.ref ln), none, none, none, none, none, none, none, none, none, none, none] : L2.St) H1)
    have po := o.po
    have hn10 : n ≤ 10 := by omega
    -- size
    refine (q_asg (ev_size (ev_var rfl) o) fun H3 e3 => ?_ : tSeq (tAsg (tMeth CO "size" (spSize CO) [] E0 (tVar 2) tNil) (gName 3)) _ _ ([some (.ref a), some (.ref ln), some (.ref p), none, none, none, none, none, none, none, none, none, none] : L2.St) H2)
    -- _law_table
    refine ⟨_, rfl, n, A, p, rfl, o.mono e3, fun tl rs H4 mt => ?_⟩
    have hl3 := e3 _ _ hl2
    -- moebius
    have o4 := o.mono (e3.trans mt.ex)
    refine (q_asgP (ep_callA (n, A, p) (ea_cons (ev_var rfl) ea_nil) fun H1 e1 => ⟨rfl, o4.mono e1⟩) fun v H5 e5 hv => ?_ : tSeq (tAsg (tCall (spMoebius CO CI) [] E0 (tCons (tVar 2) tNil)) (gName 5)) _ _ ([some (.ref a), some (.ref ln), some (.ref p), some (nV n), some (.ref tl), none, none, none, none, none, none, none, none] : L2.St) H4)
    obtain ⟨q, rfl, m⟩ := hv
    have o5 := o4.mono e5
    have mt5 := mt.ext e5
    dsimp only at m
    -- the loops
    refine q_cut' (M := fun σ' H' => ∃ v6 v7 v8 v9 v10, σ' = [some (.ref a), some (.ref ln), some (.ref p), some (nV n), some (.ref tl), some (.ref q), v6, v7, v8, v9, v10, none, none] ∧ Ex H5 H') ?_ ?_
    · refine s_forR1 (n := (n : Int)) (ea_cons (ev_var rfl) ea_nil) (by omega) (fun i σ' H' => ∃ v6 v7 v8 v9 v10, σ' = [some (.ref a), some (.ref ln), some (.ref p), some (nV n), some (.ref tl), some (.ref q), v6, v7, v8, v9, v10, none, none] ∧ Ex H5 H') (fun H6 e6 => ⟨none, none, none, none, none, rfl, e6⟩) ?_ ?_
      · rintro x σ' H6 hx ⟨v6, v7, v8, v9, v10, rfl, e6⟩
        have lx : x < n := by omega
        refine s_forR1 (n := (n : Int)) (ea_cons (ev_var rfl) ea_nil) (by omega) (fun i σ' H' => ∃ v7 v8 v9 v10, σ' = [some (.ref a), some (.ref ln), some (.ref p), some (nV n), some (.ref tl), some (.ref q), some (nV x), v7, v8, v9, v10, none, none] ∧ Ex H5 H') (fun H7 e7 => ⟨v7, v8, v9, v10, rfl, e6.trans e7⟩) ?_ ?_
        · rintro y σ' H7 hy ⟨v7', v8, v9, v10, rfl, e7⟩
          have ly : y < n := by omega
          refine q_asg ev_c fun H8 e8 => ?_
          have e78 := e7.trans e8
          have tb8 : TB H8 tl n A := TB.of (mt5.ext e78)
          refine q_cut' (M := fun σ' H' => ∃ v9 v10, σ' = [some (.ref a), some (.ref ln), some (.ref p), some (nV n), some (.ref tl), some (.ref q), some (nV x), some (nV y), some (.int (mu n (rel A) x y)), v9, v10, none, none] ∧ Ex H5 H') ?_ ?_
          · refine s_when (b := decide (x = y) || rel A x y) (et_or (et_test (ev_is (ev_op (ev_var rfl) (ev_var rfl) (rv_eq rfl)) (congrArg V.bl (dec_nV x y)))) fun _ => et_B (ev_tab (ev_var rfl) tb8 (ev_var rfl) (ev_var rfl) lx ly)) (fun hb H9 e9 => ?_) (fun hb H9 e9 => ?_)
            · refine q_asgL (el_chains (n := n) (x := x) (y := y) (A := A) (l := tl) (ea_cons (ev_var rfl) (ea_cons (ev_var rfl) (ea_cons (ev_var rfl) ea_nil))) (tb8.mono e9) po hn10 lx ly (by have := up_le (n := n) (L := rel A) x; omega)) fun c H10 nc e10 hc => ?_
              have e510 := (e78.trans e9).trans e10
              refine s_forR2 (lo := 1) (n := ((n + 2 : Nat) : Int)) (ea_cons ev_c (ea_cons (ev_is (ev_len (ev_var rfl) (sq_of hc)) (congrArg V.int (by rw [rowV_len]))) ea_nil)) (by omega)
                (fun j σ' H' => ∃ v10, σ' = [some (.ref a), some (.ref ln), some (.ref p), some (nV n), some (.ref tl), some (.ref q), some (nV x), some (nV y), some (.int (S j fun i => cv n (rel A) x y (i + 1) * sg i)), some (.ref c), v10, none, none] ∧ Ex H5 H' ∧ H' c = some (.lst (rowV (n + 2) (cv n (rel A) x y))))
                (fun H11 e11 => ⟨_, rfl, e510.trans e11, e11 _ _ hc⟩) ?_ ?_
              · rintro j σ' H11 hj ⟨v10', rfl, e11, hc11⟩
                have lj : j + 1 < n + 2 := by omega
                refine q_asg (v := .int ((S j fun i => cv n (rel A) x y (i + 1) * sg i) + cv n (rel A) x y (j + 1) * sg j)) (ev_is (ev_op (ev_var rfl) (ev_op (ev_op (ev_var rfl) (ev_is (w := nV (j + 1)) (ev_var rfl) (congrArg V.int (by omega))) (rv_ixL (sq_of hc11) (rowV_at lj)))
                  (ev_is (w := .int (sg j)) (ev_op ev_c (ev_op ev_c (ev_op (ev_op (ev_var rfl) ev_c rv_I0) ev_c (rv_I (by decide : (0 : Int) < 2))) (rv_I (C := CMul) (.inl ⟨by decide, by decide⟩))) rv_I0) (congrArg V.int (sg_val j))) (rv_I (C := CMul) (.inr (by unfold sg; omega)))) rv_I0) rfl) fun H12 e12 => ?_
                have e512 := e11.trans e12
                have hc12 := e12 _ _ hc11
                refine s_when (b := false) (et_is (et_and (a := decide ((1 : Int) + (j : Int) < 4)) (b := false) (et_test (ev_is (ev_op (ev_var rfl) ev_c rv_I0) rfl)) fun _ => et_test (ev_is (ev_op
                    ((ep_callA (⟨n, A, p, x, y, j⟩ : GB) (ea_cons (ev_var rfl) (ea_cons (ev_var rfl) (ea_cons (ev_var rfl) (ea_cons (ev_is (w := nV (j + 1)) (ev_var rfl) (congrArg V.int (by omega))) ea_nil)))) fun H13 e13 => ⟨rfl, (o5.mono e512).mono e13, lx, ly, by show j ≤ 1000; omega⟩).ev)
                    (ev_op (ev_var rfl) (ev_is (w := nV (j + 1)) (ev_var rfl) (congrArg V.int (by omega))) (rv_ixL (sq_of hc12) (rowV_at lj))) (rv_ne rfl)) ?_)) (Bool.and_false _)) (fun q => nomatch q) fun _ H13 e13 => ?_
                · show V.bl (!decide (V.int (K27.P n (rel A) j x y) = V.int (K27.P n (rel A) j x y))) = V.bl false
                  rw [decide_eq_true rfl]
                  rfl
                · refine ⟨some (.int (1 + (j : Int))), ?_, e512.trans e13, e13 _ _ hc12⟩
                  rw [S_succ]
                  rfl
              · rintro σ' H11 ⟨v10', rfl, e11, hc11⟩
                have ej : (((n + 2 : Nat) : Int) - 1).toNat = n + 1 := by omega
                rw [ej, due_all]
                exact ⟨_, _, rfl, e11⟩
            · rw [Bool.or_eq_false_iff] at hb
              have h0 : mu n (rel A) x y = 0 := mu_out po (of_decide_eq_false hb.1) (by rw [hb.2]; exact Bool.false_ne_true)
              rw [h0]
              exact ⟨_, _, rfl, e78.trans e9⟩
          · rintro σ' H9 ⟨v9', v10', rfl, e9⟩
            have m9 := m.mono e9
            obtain ⟨dxq, tq, rsq, hq0, _⟩ := id m9
            refine s_when (b := false) (et_test (ev_is (ev_op ((ep_methA ((⟨n, _, p, q⟩ : GI), x, y) (ev_var rfl) hq0 (iF_no p tq (by decide +kernel) (by decide +kernel)) (ea_cons (ev_var rfl) (ea_cons (ev_var rfl) ea_nil)) fun H10 e10 => ⟨rfl, m9.mono e10, lx, ly⟩).ev) (ev_var rfl) (rv_ne rfl)) ?_)) (fun q => nomatch q) fun _ H10 e10 => ?_
            · show V.bl (!decide (V.int (mu n (rel A) x y) = V.int (mu n (rel A) x y))) = V.bl false
              rw [decide_eq_true rfl]
              rfl
            · exact ⟨_, _, _, _, rfl, e9.trans e10⟩
        · rintro σ' H7 ⟨v7', v8, v9, v10, rfl, e7⟩
          exact ⟨_, _, _, _, _, rfl, e7⟩
      · rintro σ' H6 ⟨v6, v7, v8, v9, v10, rfl, e6⟩
        exact ⟨_, _, _, _, _, rfl, e6⟩
    rintro σ' H6 ⟨v6, v7, v8, v9, v10, rfl, e6⟩
    have hl6 := e6 _ _ (e5 _ _ (mt.ex _ _ hl3))
    -- the values
    refine q_vals (l := ln) (ns := ns2) (n := n) (by omega) (ev_var rfl) (fun x => rfl) (fun i H7 => ev_var rfl) hl6 fun vt vals H7 H8 f7 e8 hlen hv hvt => ?_
    have o8 : OA CO n A p H8 := ((o5.mono e6).off hl6 f7).mono e8
    have m8 : IA CI n (mu n (rel A)) p q H8 := ((m.mono e6).off hl6 f7).mono e8
    have tb8 : TB H8 tl n A := (TB.off (mt5.ext e6) hl3 f7).mono e8
    obtain ⟨v, ev⟩ : ∃ v : Nat → Int, v = fun x => vals.getD x 0 := ⟨_, rfl⟩
    have hvt : H8 vt = some (.tup (rowV n v)) := by
      rw [hvt, ev, ← hlen, rowV_getD]
    have vb : ∀ x, x < n → -4 ≤ v x ∧ v x ≤ 4 := fun x hx => by
      have hx' : x < vals.length := by rw [hlen]; exact hx
      rw [ev]
      show -4 ≤ vals.getD x 0 ∧ vals.getD x 0 ≤ 4
      rw [List.getD_eq_getElem?_getD, List.getElem?_eq_getElem hx']
      exact hv _ (List.getElem_mem hx')
    -- the sums below
    refine (q_asgL (xs := rowV n (low n (rel A) v)) ?_ fun bl H9 nbl e9 hbl => ?_ : tSeq (tAsg (tLc (iRng1 (tCons (tVar 3) tNil)) (gName 7) tYes _ [7]) (gName 12)) _ _ ([some (.ref a), some (.ref ln), some (.ref p), some (nV n), some (.ref tl), some (.ref q), v6, v7, v8, v9, v10, some (.ref vt), none] : L2.St) H8)
    · rw [rowV_given]
      refine el_lcR1 (n := (n : Int)) (fun _ => true) (fun y => V.int (low n (rel A) v y)) (ea_cons (ev_var rfl) ea_nil) (by omega) (fun x => rfl) (fun y H9 e9 hy => et_yes) fun y H9 e9 hy _ => ?_
      have ly : y < n := by omega
      refine ev_is (ev_sum (K := K) (ns := ((List.range n).filter fun x => decide (x = y) || rel A x y).map v) ?_) (congrArg V.int (low_filter n (rel A) v y))
      rw [← given_int]
      exact el_lcR1 (n := (n : Int)) (fun x => decide (x = y) || rel A x y) (fun x => V.int (v x)) (ea_cons (ev_var rfl) ea_nil) (by omega) (fun x => rfl)
        (fun x H10 e10 hx => et_or (et_test (ev_is (ev_op (ev_var rfl) (ev_var rfl) (rv_eq rfl)) (congrArg V.bl (dec_nV x y)))) fun _ => et_B (ev_tab (ev_var rfl) (tb8.mono (e9.trans e10)) (ev_var rfl) (ev_var rfl) (by omega) ly))
        (fun x H10 e10 hx _ => ev_op (ev_var rfl) (ev_var rfl) (rv_ixT (st_of (e10 _ _ (e9 _ _ hvt))) (rowV_at (by omega))))
    have hvt9 := e9 _ _ hvt
    -- zeta(order).sums(values) != tuple(below)
    refine q_when (b := false) (et_test (ev_neTT (n := n) (f := low n (rel A) v) (ep_methX mo_ia (ev_zeta (ev_var rfl) (o8.mono e9)) (ia_ins (by decide +kernel) (by decide +kernel)) (ea_cons (ev_var rfl) ea_nil) fun u H10 e10 hu => ?_) (eu_p (eu_tupL (K := K) (ev_var rfl) (sq_of hbl))))) (fun q => nomatch q) fun _ H10 e10 => ?_
    · obtain ⟨z, rfl, mz⟩ := hu
      refine ⟨(⟨n, _, p, z, vt, v⟩ : GS), ⟨rfl, mz, e10 _ _ hvt9, hn10, fun x hx => by have := vb x hx; unfold Big; show -(2 ^ 64) < v x ∧ v x < 2 ^ 64; omega⟩, fun r H11 hr => ?_⟩
      obtain ⟨u, rfl, hu⟩ := hr
      refine ⟨u, rfl, ?_⟩
      rw [← rowV_congr (f := fun y => S n fun x => v x * Z (rel A) x y) fun y _ => low_Z n (rel A) v y]
      exact hu
    -- mu.sums(tuple(below)) == values
    have m10 := (m8.mono e9).mono e10
    obtain ⟨dxq, tq, rsq, hq0, _⟩ := id m10
    refine s_ret (ev_eqTT (n := n) (f := v) (ep_methV (ev_var rfl) hq0 (iF_no p tq (by decide +kernel) (by decide +kernel)) (eq_cons mo_tup (eu_p (eu_tupL (K := K) (ev_var rfl) (sq_of (e10 _ _ hbl)))) eq_nil) fun vs H11 e11 hvs => ?_) ((Ev.p (ev_var (v := .ref vt) rfl)).imp fun u H11 e11 hu => ⟨vt, hu, e11 _ _ (e10 _ _ hvt9)⟩)) fun H11 e11 => k H11
    obtain ⟨u, r, rfl, ⟨tt, rfl, htt⟩, rfl⟩ := hvs
    refine ⟨(⟨n, _, p, q, tt, low n (rel A) v⟩ : GS), ⟨rfl, m10.mono e11, htt, hn10, fun x hx => low_abs hn10 vb x⟩, fun r H12 hr => ?_⟩
    obtain ⟨u, rfl, hu⟩ := hr
    refine ⟨u, rfl, ?_⟩
    rw [← rowV_congr (f := fun y => S n fun x => low n (rel A) v x * mu n (rel A) x y) fun y hy => low_back po v hy]
    exact hu
end
end K27
/-! what the top has made; the walk -/
namespace K27
open PySem L2 Evl
theorem kit_self (K : PySem.W.Frag) (C : Addr) : PySem.W.kitOne K (.ref C) (.ref C) = some true := by
  unfold PySem.W.kitOne
  simp
theorem all_mk {l : PySem.W.OpenLaw} {w : World} {K : PySem.W.Frag} {h : Heap} {mg : Str → Option Value} {fa CO CI fInt fHas fSet fMem fSize fLess fAt fBelow fPairs fEq fChk fClo fMkO fTab fMkI fVal fDelta fZeta fSame fNeg fAdd fSub fMul fSums fPow fUp fInv fMoe fBet fLNext fLNum fLOrd fLTab fLCh fLaw : Addr} (X : K.In h) (G : h.Ns mainGlobals mg) (hfa : mg "law" = some (.ref fa))
    {mt : Tok} {odInt anInt odHas anHas odSet anSet odMem anMem odSize anSize odLess anLess odAt anAt odBelow anBelow odPairs anPairs odEq anEq odChk anChk odClo anClo odMkO anMkO odTab anTab odMkI anMkI odVal anVal odDelta anDelta odZeta anZeta odSame anSame odNeg anNeg odAdd anAdd odSub anSub odMul anMul odSums anSums odPow anPow odUp anUp odInv anInv odMoe anMoe odBet anBet odLNext anLNext odLNum anLNum odLOrd anLOrd odLTab anLTab odLCh anLCh odLaw anLaw : Option Addr} {slInt slHas slSet slMem slSize slLess slAt slBelow slPairs slEq slChk slClo slMkO slTab slMkI slVal slDelta slZeta slSame slNeg slAdd slSub slMul slSums slPow slUp slInv slMoe slBet slLNext slLNum slLOrd slLTab slLCh slLaw : Array (Option Value)}
    {ocInt kVInt dcInt pmInt cdInt ctInt ocHas kVHas dcHas pmHas cdHas ctHas ocSet kVSet dcSet pmSet cdSet ctSet ocMem kVMem dcMem pmMem cdMem ctMem ocSize kVSize dcSize pmSize cdSize ctSize ocLess kVLess dcLess pmLess cdLess ctLess ocAt kVAt dcAt pmAt cdAt ctAt ocBelow kVBelow dcBelow pmBelow cdBelow ctBelow ocPairs kVPairs dcPairs pmPairs cdPairs ctPairs ocEq kVEq dcEq pmEq cdEq ctEq ocChk kVChk dcChk pmChk cdChk ctChk ocClo kVClo dcClo pmClo cdClo ctClo ocMkO kVMkO dcMkO pmMkO cdMkO ctMkO ocTab kVTab dcTab pmTab cdTab ctTab ocMkI kVMkI dcMkI pmMkI cdMkI ctMkI ocVal kVVal dcVal pmVal cdVal ctVal ocDelta kVDelta dcDelta pmDelta cdDelta ctDelta ocZeta kVZeta dcZeta pmZeta cdZeta ctZeta ocSame kVSame dcSame pmSame cdSame ctSame ocNeg kVNeg dcNeg pmNeg cdNeg ctNeg ocAdd kVAdd dcAdd pmAdd cdAdd ctAdd ocSub kVSub dcSub pmSub cdSub ctSub ocMul kVMul dcMul pmMul cdMul ctMul ocSums kVSums dcSums pmSums cdSums ctSums ocPow kVPow dcPow pmPow cdPow ctPow ocUp kVUp dcUp pmUp cdUp ctUp ocInv kVInv dcInv pmInv cdInv ctInv ocMoe kVMoe dcMoe pmMoe cdMoe ctMoe ocBet kVBet dcBet pmBet cdBet ctBet ocLNext kVLNext dcLNext pmLNext cdLNext ctLNext ocLNum kVLNum dcLNum pmLNum cdLNum ctLNum ocLOrd kVLOrd dcLOrd pmLOrd cdLOrd ctLOrd ocLTab kVLTab dcLTab pmLTab cdLTab ctLTab ocLCh kVLCh dcLCh pmLCh cdLCh ctLCh ocLaw kVLaw dcLaw pmLaw cdLaw ctLaw : Value}
    (haCO : PySem.W.nsIn K mainGlobals "Order" = some (some (.ref CO)))
    (hpgCO : PySem.W.plainGet K CO Str.empty = true)
    (hhdCO : PySem.W.hasDictIn K CO = true)
    (hpoCO : PySem.W.plainOver K CO = true)
    (hsaCO : PySem.W.findIn K (.ref CO) "__setattr__" = some (some (.builtin "object.__setattr__")))
    (hmkCO : PySem.W.makesIn K CO = true)
    (hkcCO : PySem.W.keepIn K (.ref CO) = true)
    (haCI : PySem.W.nsIn K mainGlobals "Incidence" = some (some (.ref CI)))
    (hpgCI : PySem.W.plainGet K CI Str.empty = true)
    (hhdCI : PySem.W.hasDictIn K CI = true)
    (hpoCI : PySem.W.plainOver K CI = true)
    (hsaCI : PySem.W.findIn K (.ref CI) "__setattr__" = some (some (.builtin "object.__setattr__")))
    (hmkCI : PySem.W.makesIn K CI = true)
    (hkcCI : PySem.W.keepIn K (.ref CI) = true)
    (hnNO : PySem.W.findIn K (.ref CO) "n" = some none)
    (hnAO : PySem.W.findIn K (.ref CO) "above" = some none)
    (hnOI : PySem.W.findIn K (.ref CI) "order" = some none)
    (hnRI : PySem.W.findIn K (.ref CI) "rows" = some none)
    (hsfI : PySem.W.selfFirst K CI = true)
    (hmrO : PySem.W.mroIn K CO (.type "object") = some true)
    (hneO : PySem.W.findIn K (.ref CO) "__ne__" = some (some (.builtin "object.__ne__")))
    (hmst : PySem.W.nsIn K mainGlobals "MOST" = some (some (.int 10 mt)))
    (hccO : PySem.W.findIn K (.ref CO) "__class__" = some (some (.builtin "object.__class__")))
    (hcgO : PySem.W.specialIn K (.builtin "object.__class__") "__get__" = some (some (.builtin "getset_descriptor.__get__")))
    (hctO : PySem.W.takesIn K (.builtin "object.__class__") = some true)
    (hz_isi : PySem.W.nsIn K mainGlobals "isinstance" = some none)
    (hz_int : PySem.W.nsIn K mainGlobals "int" = some none)
    (hz_bool : PySem.W.nsIn K mainGlobals "bool" = some none)
    (hz_len : PySem.W.nsIn K mainGlobals "len" = some none)
    (hz_range : PySem.W.nsIn K mainGlobals "range" = some none)
    (hz_tuple : PySem.W.nsIn K mainGlobals "tuple" = some none)
    (hz_list : PySem.W.nsIn K mainGlobals "list" = some none)
    (hz_sum : PySem.W.nsIn K mainGlobals "sum" = some none)
    (hz_all : PySem.W.nsIn K mainGlobals "all" = some none)
    (hz_min : PySem.W.nsIn K mainGlobals "min" = some none)
    (hz_abs : PySem.W.nsIn K mainGlobals "abs" = some none)
    (haInt : PySem.W.nsIn K mainGlobals "is_integer" = some (some (.ref fInt)))
    (hlInt : K.lookup fInt = some ⟨ocInt, odInt, .func (PySem.W.fnOf "is_integer" "is_integer" (defArgs sIsInt) (defBody sIsInt) (defScope sIsInt) .none kVInt dcInt pmInt anInt cdInt ctInt), slInt⟩)
    (hcInt : PySem.W.codeIn K cdInt "is_integer" = true)
    (hkInt : PySem.W.keepIn K (.ref fInt) = true)
    (haHas : PySem.W.nsIn K mainGlobals "has" = some (some (.ref fHas)))
    (hlHas : K.lookup fHas = some ⟨ocHas, odHas, .func (PySem.W.fnOf "has" "has" (defArgs sHas) (defBody sHas) (defScope sHas) .none kVHas dcHas pmHas anHas cdHas ctHas), slHas⟩)
    (hcHas : PySem.W.codeIn K cdHas "has" = true)
    (hkHas : PySem.W.keepIn K (.ref fHas) = true)
    (haSet : PySem.W.nsIn K mainGlobals "set_of" = some (some (.ref fSet)))
    (hlSet : K.lookup fSet = some ⟨ocSet, odSet, .func (PySem.W.fnOf "set_of" "set_of" (defArgs sSetOf) (defBody sSetOf) (defScope sSetOf) .none kVSet dcSet pmSet anSet cdSet ctSet), slSet⟩)
    (hcSet : PySem.W.codeIn K cdSet "set_of" = true)
    (hkSet : PySem.W.keepIn K (.ref fSet) = true)
    (haMem : PySem.W.nsIn K mainGlobals "members" = some (some (.ref fMem)))
    (hlMem : K.lookup fMem = some ⟨ocMem, odMem, .func (PySem.W.fnOf "members" "members" (defArgs sMembers) (defBody sMembers) (defScope sMembers) .none kVMem dcMem pmMem anMem cdMem ctMem), slMem⟩)
    (hcMem : PySem.W.codeIn K cdMem "members" = true)
    (hkMem : PySem.W.keepIn K (.ref fMem) = true)
    (haSize : PySem.W.findIn K (.ref CO) "size" = some (some (.ref fSize)))
    (hiSize : PySem.W.isFn K (.ref fSize) = true)
    (hlSize : K.lookup fSize = some ⟨ocSize, odSize, .func (PySem.W.fnOf "size" "Order.size" (defArgs sOSize) (defBody sOSize) (defScope sOSize) .none kVSize dcSize pmSize anSize cdSize ctSize), slSize⟩)
    (hcSize : PySem.W.codeIn K cdSize "Order.size" = true)
    (hkSize : PySem.W.keepIn K (.ref fSize) = true)
    (haLess : PySem.W.findIn K (.ref CO) "less" = some (some (.ref fLess)))
    (hiLess : PySem.W.isFn K (.ref fLess) = true)
    (hlLess : K.lookup fLess = some ⟨ocLess, odLess, .func (PySem.W.fnOf "less" "Order.less" (defArgs sOLess) (defBody sOLess) (defScope sOLess) .none kVLess dcLess pmLess anLess cdLess ctLess), slLess⟩)
    (hcLess : PySem.W.codeIn K cdLess "Order.less" = true)
    (hkLess : PySem.W.keepIn K (.ref fLess) = true)
    (haAt : PySem.W.findIn K (.ref CO) "at_most" = some (some (.ref fAt)))
    (hiAt : PySem.W.isFn K (.ref fAt) = true)
    (hlAt : K.lookup fAt = some ⟨ocAt, odAt, .func (PySem.W.fnOf "at_most" "Order.at_most" (defArgs sOAtMost) (defBody sOAtMost) (defScope sOAtMost) .none kVAt dcAt pmAt anAt cdAt ctAt), slAt⟩)
    (hcAt : PySem.W.codeIn K cdAt "Order.at_most" = true)
    (hkAt : PySem.W.keepIn K (.ref fAt) = true)
    (haBelow : PySem.W.findIn K (.ref CO) "below" = some (some (.ref fBelow)))
    (hiBelow : PySem.W.isFn K (.ref fBelow) = true)
    (hlBelow : K.lookup fBelow = some ⟨ocBelow, odBelow, .func (PySem.W.fnOf "below" "Order.below" (defArgs sOBelow) (defBody sOBelow) (defScope sOBelow) .none kVBelow dcBelow pmBelow anBelow cdBelow ctBelow), slBelow⟩)
    (hcBelow : PySem.W.codeIn K cdBelow "Order.below" = true)
    (hkBelow : PySem.W.keepIn K (.ref fBelow) = true)
    (haPairs : PySem.W.findIn K (.ref CO) "pairs" = some (some (.ref fPairs)))
    (hiPairs : PySem.W.isFn K (.ref fPairs) = true)
    (hlPairs : K.lookup fPairs = some ⟨ocPairs, odPairs, .func (PySem.W.fnOf "pairs" "Order.pairs" (defArgs sOPairs) (defBody sOPairs) (defScope sOPairs) .none kVPairs dcPairs pmPairs anPairs cdPairs ctPairs), slPairs⟩)
    (hcPairs : PySem.W.codeIn K cdPairs "Order.pairs" = true)
    (hkPairs : PySem.W.keepIn K (.ref fPairs) = true)
    (haEq : PySem.W.findIn K (.ref CO) "__eq__" = some (some (.ref fEq)))
    (hiEq : PySem.W.isFn K (.ref fEq) = true)
    (hlEq : K.lookup fEq = some ⟨ocEq, odEq, .func (PySem.W.fnOf "__eq__" "Order.__eq__" (defArgs sOEq) (defBody sOEq) (defScope sOEq) .none kVEq dcEq pmEq anEq cdEq ctEq), slEq⟩)
    (hcEq : PySem.W.codeIn K cdEq "Order.__eq__" = true)
    (hkEq : PySem.W.keepIn K (.ref fEq) = true)
    (haChk : PySem.W.nsIn K mainGlobals "_checked_pairs" = some (some (.ref fChk)))
    (hlChk : K.lookup fChk = some ⟨ocChk, odChk, .func (PySem.W.fnOf "_checked_pairs" "_checked_pairs" (defArgs sChecked) (defBody sChecked) (defScope sChecked) .none kVChk dcChk pmChk anChk cdChk ctChk), slChk⟩)
    (hcChk : PySem.W.codeIn K cdChk "_checked_pairs" = true)
    (hkChk : PySem.W.keepIn K (.ref fChk) = true)
    (haClo : PySem.W.nsIn K mainGlobals "_closed" = some (some (.ref fClo)))
    (hlClo : K.lookup fClo = some ⟨ocClo, odClo, .func (PySem.W.fnOf "_closed" "_closed" (defArgs sClosed) (defBody sClosed) (defScope sClosed) .none kVClo dcClo pmClo anClo cdClo ctClo), slClo⟩)
    (hcClo : PySem.W.codeIn K cdClo "_closed" = true)
    (hkClo : PySem.W.keepIn K (.ref fClo) = true)
    (haMkO : PySem.W.findIn K (.ref CO) "__init__" = some (some (.ref fMkO)))
    (hiMkO : PySem.W.isFn K (.ref fMkO) = true)
    (hlMkO : K.lookup fMkO = some ⟨ocMkO, odMkO, .func (PySem.W.fnOf "__init__" "Order.__init__" (defArgs sOInit) (defBody sOInit) (defScope sOInit) .none kVMkO dcMkO pmMkO anMkO cdMkO ctMkO), slMkO⟩)
    (hcMkO : PySem.W.codeIn K cdMkO "Order.__init__" = true)
    (hkMkO : PySem.W.keepIn K (.ref fMkO) = true)
    (haTab : PySem.W.nsIn K mainGlobals "is_table" = some (some (.ref fTab)))
    (hlTab : K.lookup fTab = some ⟨ocTab, odTab, .func (PySem.W.fnOf "is_table" "is_table" (defArgs sIsTable) (defBody sIsTable) (defScope sIsTable) .none kVTab dcTab pmTab anTab cdTab ctTab), slTab⟩)
    (hcTab : PySem.W.codeIn K cdTab "is_table" = true)
    (hkTab : PySem.W.keepIn K (.ref fTab) = true)
    (haMkI : PySem.W.findIn K (.ref CI) "__init__" = some (some (.ref fMkI)))
    (hiMkI : PySem.W.isFn K (.ref fMkI) = true)
    (hlMkI : K.lookup fMkI = some ⟨ocMkI, odMkI, .func (PySem.W.fnOf "__init__" "Incidence.__init__" (defArgs sIInit) (defBody sIInit) (defScope sIInit) .none kVMkI dcMkI pmMkI anMkI cdMkI ctMkI), slMkI⟩)
    (hcMkI : PySem.W.codeIn K cdMkI "Incidence.__init__" = true)
    (hkMkI : PySem.W.keepIn K (.ref fMkI) = true)
    (haVal : PySem.W.findIn K (.ref CI) "value" = some (some (.ref fVal)))
    (hiVal : PySem.W.isFn K (.ref fVal) = true)
    (hlVal : K.lookup fVal = some ⟨ocVal, odVal, .func (PySem.W.fnOf "value" "Incidence.value" (defArgs sIValue) (defBody sIValue) (defScope sIValue) .none kVVal dcVal pmVal anVal cdVal ctVal), slVal⟩)
    (hcVal : PySem.W.codeIn K cdVal "Incidence.value" = true)
    (hkVal : PySem.W.keepIn K (.ref fVal) = true)
    (haDelta : PySem.W.nsIn K mainGlobals "delta" = some (some (.ref fDelta)))
    (hlDelta : K.lookup fDelta = some ⟨ocDelta, odDelta, .func (PySem.W.fnOf "delta" "delta" (defArgs sDelta) (defBody sDelta) (defScope sDelta) .none kVDelta dcDelta pmDelta anDelta cdDelta ctDelta), slDelta⟩)
    (hcDelta : PySem.W.codeIn K cdDelta "delta" = true)
    (hkDelta : PySem.W.keepIn K (.ref fDelta) = true)
    (haZeta : PySem.W.nsIn K mainGlobals "zeta" = some (some (.ref fZeta)))
    (hlZeta : K.lookup fZeta = some ⟨ocZeta, odZeta, .func (PySem.W.fnOf "zeta" "zeta" (defArgs sZeta) (defBody sZeta) (defScope sZeta) .none kVZeta dcZeta pmZeta anZeta cdZeta ctZeta), slZeta⟩)
    (hcZeta : PySem.W.codeIn K cdZeta "zeta" = true)
    (hkZeta : PySem.W.keepIn K (.ref fZeta) = true)
    (haSame : PySem.W.nsIn K mainGlobals "check_same" = some (some (.ref fSame)))
    (hlSame : K.lookup fSame = some ⟨ocSame, odSame, .func (PySem.W.fnOf "check_same" "check_same" (defArgs sCheckSame) (defBody sCheckSame) (defScope sCheckSame) .none kVSame dcSame pmSame anSame cdSame ctSame), slSame⟩)
    (hcSame : PySem.W.codeIn K cdSame "check_same" = true)
    (hkSame : PySem.W.keepIn K (.ref fSame) = true)
    (haNeg : PySem.W.findIn K (.ref CI) "__neg__" = some (some (.ref fNeg)))
    (hiNeg : PySem.W.isFn K (.ref fNeg) = true)
    (hlNeg : K.lookup fNeg = some ⟨ocNeg, odNeg, .func (PySem.W.fnOf "__neg__" "Incidence.__neg__" (defArgs sINeg) (defBody sINeg) (defScope sINeg) .none kVNeg dcNeg pmNeg anNeg cdNeg ctNeg), slNeg⟩)
    (hcNeg : PySem.W.codeIn K cdNeg "Incidence.__neg__" = true)
    (hkNeg : PySem.W.keepIn K (.ref fNeg) = true)
    (haAdd : PySem.W.findIn K (.ref CI) "__add__" = some (some (.ref fAdd)))
    (hiAdd : PySem.W.isFn K (.ref fAdd) = true)
    (hlAdd : K.lookup fAdd = some ⟨ocAdd, odAdd, .func (PySem.W.fnOf "__add__" "Incidence.__add__" (defArgs sIAdd) (defBody sIAdd) (defScope sIAdd) .none kVAdd dcAdd pmAdd anAdd cdAdd ctAdd), slAdd⟩)
    (hcAdd : PySem.W.codeIn K cdAdd "Incidence.__add__" = true)
    (hkAdd : PySem.W.keepIn K (.ref fAdd) = true)
    (haSub : PySem.W.findIn K (.ref CI) "__sub__" = some (some (.ref fSub)))
    (hiSub : PySem.W.isFn K (.ref fSub) = true)
    (hlSub : K.lookup fSub = some ⟨ocSub, odSub, .func (PySem.W.fnOf "__sub__" "Incidence.__sub__" (defArgs sISub) (defBody sISub) (defScope sISub) .none kVSub dcSub pmSub anSub cdSub ctSub), slSub⟩)
    (hcSub : PySem.W.codeIn K cdSub "Incidence.__sub__" = true)
    (hkSub : PySem.W.keepIn K (.ref fSub) = true)
    (haMul : PySem.W.findIn K (.ref CI) "__mul__" = some (some (.ref fMul)))
    (hiMul : PySem.W.isFn K (.ref fMul) = true)
    (hlMul : K.lookup fMul = some ⟨ocMul, odMul, .func (PySem.W.fnOf "__mul__" "Incidence.__mul__" (defArgs sIMul) (defBody sIMul) (defScope sIMul) .none kVMul dcMul pmMul anMul cdMul ctMul), slMul⟩)
    (hcMul : PySem.W.codeIn K cdMul "Incidence.__mul__" = true)
    (hkMul : PySem.W.keepIn K (.ref fMul) = true)
    (haSums : PySem.W.findIn K (.ref CI) "sums" = some (some (.ref fSums)))
    (hiSums : PySem.W.isFn K (.ref fSums) = true)
    (hlSums : K.lookup fSums = some ⟨ocSums, odSums, .func (PySem.W.fnOf "sums" "Incidence.sums" (defArgs sISums) (defBody sISums) (defScope sISums) .none kVSums dcSums pmSums anSums cdSums ctSums), slSums⟩)
    (hcSums : PySem.W.codeIn K cdSums "Incidence.sums" = true)
    (hkSums : PySem.W.keepIn K (.ref fSums) = true)
    (haPow : PySem.W.findIn K (.ref CI) "power" = some (some (.ref fPow)))
    (hiPow : PySem.W.isFn K (.ref fPow) = true)
    (hlPow : K.lookup fPow = some ⟨ocPow, odPow, .func (PySem.W.fnOf "power" "Incidence.power" (defArgs sIPower) (defBody sIPower) (defScope sIPower) .none kVPow dcPow pmPow anPow cdPow ctPow), slPow⟩)
    (hcPow : PySem.W.codeIn K cdPow "Incidence.power" = true)
    (hkPow : PySem.W.keepIn K (.ref fPow) = true)
    (haUp : PySem.W.nsIn K mainGlobals "upwards" = some (some (.ref fUp)))
    (hlUp : K.lookup fUp = some ⟨ocUp, odUp, .func (PySem.W.fnOf "upwards" "upwards" (defArgs sUpwards) (defBody sUpwards) (defScope sUpwards) .none kVUp dcUp pmUp anUp cdUp ctUp), slUp⟩)
    (hcUp : PySem.W.codeIn K cdUp "upwards" = true)
    (hkUp : PySem.W.keepIn K (.ref fUp) = true)
    (haInv : PySem.W.findIn K (.ref CI) "inverse" = some (some (.ref fInv)))
    (hiInv : PySem.W.isFn K (.ref fInv) = true)
    (hlInv : K.lookup fInv = some ⟨ocInv, odInv, .func (PySem.W.fnOf "inverse" "Incidence.inverse" (defArgs sIInverse) (defBody sIInverse) (defScope sIInverse) .none kVInv dcInv pmInv anInv cdInv ctInv), slInv⟩)
    (hcInv : PySem.W.codeIn K cdInv "Incidence.inverse" = true)
    (hkInv : PySem.W.keepIn K (.ref fInv) = true)
    (haMoe : PySem.W.nsIn K mainGlobals "moebius" = some (some (.ref fMoe)))
    (hlMoe : K.lookup fMoe = some ⟨ocMoe, odMoe, .func (PySem.W.fnOf "moebius" "moebius" (defArgs sMoebius) (defBody sMoebius) (defScope sMoebius) .none kVMoe dcMoe pmMoe anMoe cdMoe ctMoe), slMoe⟩)
    (hcMoe : PySem.W.codeIn K cdMoe "moebius" = true)
    (hkMoe : PySem.W.keepIn K (.ref fMoe) = true)
    (haBet : PySem.W.nsIn K mainGlobals "chains_between" = some (some (.ref fBet)))
    (hlBet : K.lookup fBet = some ⟨ocBet, odBet, .func (PySem.W.fnOf "chains_between" "chains_between" (defArgs sChainsB) (defBody sChainsB) (defScope sChainsB) .none kVBet dcBet pmBet anBet cdBet ctBet), slBet⟩)
    (hcBet : PySem.W.codeIn K cdBet "chains_between" = true)
    (hkBet : PySem.W.keepIn K (.ref fBet) = true)
    (haLNext : PySem.W.nsIn K mainGlobals "_law_next" = some (some (.ref fLNext)))
    (hlLNext : K.lookup fLNext = some ⟨ocLNext, odLNext, .func (PySem.W.fnOf "_law_next" "_law_next" (defArgs sLNext) (defBody sLNext) (defScope sLNext) .none kVLNext dcLNext pmLNext anLNext cdLNext ctLNext), slLNext⟩)
    (hcLNext : PySem.W.codeIn K cdLNext "_law_next" = true)
    (hkLNext : PySem.W.keepIn K (.ref fLNext) = true)
    (haLNum : PySem.W.nsIn K mainGlobals "_law_numbers" = some (some (.ref fLNum)))
    (hlLNum : K.lookup fLNum = some ⟨ocLNum, odLNum, .func (PySem.W.fnOf "_law_numbers" "_law_numbers" (defArgs sLNumbers) (defBody sLNumbers) (defScope sLNumbers) .none kVLNum dcLNum pmLNum anLNum cdLNum ctLNum), slLNum⟩)
    (hcLNum : PySem.W.codeIn K cdLNum "_law_numbers" = true)
    (hkLNum : PySem.W.keepIn K (.ref fLNum) = true)
    (haLOrd : PySem.W.nsIn K mainGlobals "_law_order" = some (some (.ref fLOrd)))
    (hlLOrd : K.lookup fLOrd = some ⟨ocLOrd, odLOrd, .func (PySem.W.fnOf "_law_order" "_law_order" (defArgs sLOrder) (defBody sLOrder) (defScope sLOrder) .none kVLOrd dcLOrd pmLOrd anLOrd cdLOrd ctLOrd), slLOrd⟩)
    (hcLOrd : PySem.W.codeIn K cdLOrd "_law_order" = true)
    (hkLOrd : PySem.W.keepIn K (.ref fLOrd) = true)
    (haLTab : PySem.W.nsIn K mainGlobals "_law_table" = some (some (.ref fLTab)))
    (hlLTab : K.lookup fLTab = some ⟨ocLTab, odLTab, .func (PySem.W.fnOf "_law_table" "_law_table" (defArgs sLTable) (defBody sLTable) (defScope sLTable) .none kVLTab dcLTab pmLTab anLTab cdLTab ctLTab), slLTab⟩)
    (hcLTab : PySem.W.codeIn K cdLTab "_law_table" = true)
    (hkLTab : PySem.W.keepIn K (.ref fLTab) = true)
    (haLCh : PySem.W.nsIn K mainGlobals "_law_chains" = some (some (.ref fLCh)))
    (hlLCh : K.lookup fLCh = some ⟨ocLCh, odLCh, .func (PySem.W.fnOf "_law_chains" "_law_chains" (defArgs sLChains) (defBody sLChains) (defScope sLChains) .none kVLCh dcLCh pmLCh anLCh cdLCh ctLCh), slLCh⟩)
    (hcLCh : PySem.W.codeIn K cdLCh "_law_chains" = true)
    (hkLCh : PySem.W.keepIn K (.ref fLCh) = true)
    (haLaw : PySem.W.nsIn K mainGlobals "law" = some (some (.ref fLaw)))
    (hlLaw : K.lookup fLaw = some ⟨ocLaw, odLaw, .func (PySem.W.fnOf "law" "law" (defArgs sLaw) (defBody sLaw) (defScope sLaw) .none kVLaw dcLaw pmLaw anLaw cdLaw ctLaw), slLaw⟩)
    (hcLaw : PySem.W.codeIn K cdLaw "law" = true)
    (hkLaw : PySem.W.keepIn K (.ref fLaw) = true)
    : ∃ fd : FuncData, (∀ (s : Shared) (v : Value), BindsTo s fd ⟨[v], []⟩ [("_law_script", v)]) ∧ ∀ base : Heap, K.In base → base.Ns mainGlobals mg → FnOk l.prog w K mg base CX0 9 fa fd ["_law_script"] (spLaw K) := by
  have e := hfa.symm.trans (PySem.W.mg_of X G haLaw)
  cases e
  have B : Bl mg := ⟨PySem.W.mg_none_of X G hz_isi, PySem.W.mg_none_of X G hz_int, PySem.W.mg_none_of X G hz_bool, PySem.W.mg_none_of X G hz_len, PySem.W.mg_none_of X G hz_range, PySem.W.mg_none_of X G hz_tuple, PySem.W.mg_none_of X G hz_list, PySem.W.mg_none_of X G hz_sum, PySem.W.mg_none_of X G hz_all, PySem.W.mg_none_of X G hz_min, PySem.W.mg_none_of X G hz_abs⟩
  have T : OC K mg CO := ⟨⟨hpgCO, hhdCO, hpoCO, hsaCO⟩, hnNO, hnAO, hmrO, hneO, ⟨mt, PySem.W.mg_of X G hmst⟩, hccO, hcgO, hctO, PySem.W.mg_of X G haCO, kit_self K CO⟩
  have I : IC K mg CI := ⟨⟨hpgCI, hhdCI, hpoCI, hsaCI⟩, hnOI, hnRI, hsfI⟩
  refine ⟨PySem.W.fnOf "law" "law" (defArgs sLaw) (defBody sLaw) (defScope sLaw) .none kVLaw dcLaw pmLaw anLaw cdLaw ctLaw, fun s v => .of_eq rfl, fun base _ _ => ?_⟩
  have F := fun_mk (st := sIsInt) hlInt hcInt hkInt
  have b := F.binds (ps := ["value"]) fun _ _ _ _ _ _ us hl => match us, hl with | [_], _ => rfl
  have cInt : Cal l.prog w K mg base 1 "is_integer" ["value"] spIsInt := ⟨fInt, _, PySem.W.mg_of X G haInt, hkInt, b, ok_isint F B⟩
  clear F b
  have F := fun_mk (st := sHas) hlHas hcHas hkHas
  have b := F.binds (ps := ["bits", "x"]) fun _ _ _ _ _ _ us hl => match us, hl with | [_, _], _ => rfl
  have cHas : Cal l.prog w K mg base 1 "has" ["bits", "x"] spHas := ⟨fHas, _, PySem.W.mg_of X G haHas, hkHas, b, ok_has F⟩
  clear F b
  have F := fun_mk (st := sSetOf) hlSet hcSet hkSet
  have b := F.binds (ps := ["points"]) fun _ _ _ _ _ _ us hl => match us, hl with | [_], _ => rfl
  have cSet : Cal l.prog w K mg base 1 "set_of" ["points"] (spSetOf K) := ⟨fSet, _, PySem.W.mg_of X G haSet, hkSet, b, ok_setof F⟩
  clear F b
  have F := fun_mk (st := sMembers) hlMem hcMem hkMem
  have b := F.binds (ps := ["bits"]) fun _ _ _ _ _ _ us hl => match us, hl with | [_], _ => rfl
  have cMem : Cal l.prog w K mg base 1 "members" ["bits"] spMembers := ⟨fMem, _, PySem.W.mg_of X G haMem, hkMem, b, ok_members F B⟩
  clear F b
  have F := fun_mk (st := sOSize) hlSize hcSize hkSize
  have b := F.binds (ps := ["self"]) fun _ _ _ _ _ _ us hl => match us, hl with | [_], _ => rfl
  have cSize : Met l.prog w K mg base 1 CO "size" ["self"] (spSize CO) := ⟨fSize, _, T.cl, ⟨haSize, hiSize, hkSize⟩, b, ok_size F T⟩
  clear F b
  have F := fun_mk (st := sOLess) hlLess hcLess hkLess
  have b := F.binds (ps := ["self", "x", "y"]) fun _ _ _ _ _ _ us hl => match us, hl with | [_, _, _], _ => rfl
  have cLess : Met l.prog w K mg base 2 CO "less" ["self", "x", "y"] (spLess CO) := ⟨fLess, _, T.cl, ⟨haLess, hiLess, hkLess⟩, b, ok_less F T cHas⟩
  clear F b
  have F := fun_mk (st := sOAtMost) hlAt hcAt hkAt
  have b := F.binds (ps := ["self", "x", "y"]) fun _ _ _ _ _ _ us hl => match us, hl with | [_, _, _], _ => rfl
  have cAt : Met l.prog w K mg base 2 CO "at_most" ["self", "x", "y"] (spAtMost CO) := ⟨fAt, _, T.cl, ⟨haAt, hiAt, hkAt⟩, b, ok_atmost F T cHas⟩
  clear F b
  have F := fun_mk (st := sOBelow) hlBelow hcBelow hkBelow
  have b := F.binds (ps := ["self"]) fun _ _ _ _ _ _ us hl => match us, hl with | [_], _ => rfl
  have cBelow : Met l.prog w K mg base 2 CO "below" ["self"] (spBelow CO) := ⟨fBelow, _, T.cl, ⟨haBelow, hiBelow, hkBelow⟩, b, ok_below F T B cHas cSet⟩
  clear F b
  have F := fun_mk (st := sOPairs) hlPairs hcPairs hkPairs
  have b := F.binds (ps := ["self"]) fun _ _ _ _ _ _ us hl => match us, hl with | [_], _ => rfl
  have cPairs : Met l.prog w K mg base 2 CO "pairs" ["self"] (spPairs CO) := ⟨fPairs, _, T.cl, ⟨haPairs, hiPairs, hkPairs⟩, b, ok_pairs F T B cMem⟩
  clear F b
  have F := fun_mk (st := sOEq) hlEq hcEq hkEq
  have b := F.binds (ps := ["self", "other"]) fun _ _ _ _ _ _ us hl => match us, hl with | [_, _], _ => rfl
  have cEq : Met l.prog w K mg base 1 CO "__eq__" ["self", "other"] (spOEq CO) := ⟨fEq, _, T.cl, ⟨haEq, hiEq, hkEq⟩, b, ok_oeq F T B⟩
  clear F b
  have F := fun_mk (st := sChecked) hlChk hcChk hkChk
  have b := F.binds (ps := ["n", "pairs"]) fun _ _ _ _ _ _ us hl => match us, hl with | [_, _], _ => rfl
  have cChk : Cal l.prog w K mg base 2 "_checked_pairs" ["n", "pairs"] (spChecked K) := ⟨fChk, _, PySem.W.mg_of X G haChk, hkChk, b, ok_checked F B cInt⟩
  clear F b
  have F := fun_mk (st := sClosed) hlClo hcClo hkClo
  have b := F.binds (ps := ["n", "pairs"]) fun _ _ _ _ _ _ us hl => match us, hl with | [_, _], _ => rfl
  have cClo : Cal l.prog w K mg base 2 "_closed" ["n", "pairs"] (spClosed K) := ⟨fClo, _, PySem.W.mg_of X G haClo, hkClo, b, ok_closed F B cHas⟩
  clear F b
  have F := fun_mk (st := sOInit) hlMkO hcMkO hkMkO
  have b := F.binds (ps := ["self", "n", "pairs"]) fun _ _ _ _ _ _ us hl => match us, hl with | [_, _, _], _ => rfl
  have cMkO : Mkr l.prog w K mg base 3 CO "Order" ["self", "n", "pairs"] (spOInit CO) := ⟨fMkO, _, PySem.W.mg_of X G haCO, ⟨hmkCO, haMkO, hiMkO, hkcCO⟩, b, ok_oinit F T cInt cChk cClo⟩
  clear F b
  have F := fun_mk (st := sIsTable) hlTab hcTab hkTab
  have b := F.binds (ps := ["order", "rows"]) fun _ _ _ _ _ _ us hl => match us, hl with | [_, _], _ => rfl
  have cTab : Cal l.prog w K mg base 3 "is_table" ["order", "rows"] (spTable CO) := ⟨fTab, _, PySem.W.mg_of X G haTab, hkTab, b, ok_table F B cInt cSize cAt⟩
  clear F b
  have F := fun_mk (st := sIInit) hlMkI hcMkI hkMkI
  have b := F.binds (ps := ["self", "order", "rows"]) fun _ _ _ _ _ _ us hl => match us, hl with | [_, _, _], _ => rfl
  have cMkI : Mkr l.prog w K mg base 4 CI "Incidence" ["self", "order", "rows"] (spIInit CO CI) := ⟨fMkI, _, PySem.W.mg_of X G haCI, ⟨hmkCI, haMkI, hiMkI, hkcCI⟩, b, ok_iinit F I B cTab⟩
  clear F b
  have F := fun_mk (st := sIValue) hlVal hcVal hkVal
  have b := F.binds (ps := ["self", "x", "y"]) fun _ _ _ _ _ _ us hl => match us, hl with | [_, _, _], _ => rfl
  have cVal : Met l.prog w K mg base 1 CI "value" ["self", "x", "y"] (spValue CI) := ⟨fVal, _, I.cl, ⟨haVal, hiVal, hkVal⟩, b, ok_value F I⟩
  clear F b
  have F := fun_mk (st := sDelta) hlDelta hcDelta hkDelta
  have b := F.binds (ps := ["order"]) fun _ _ _ _ _ _ us hl => match us, hl with | [_], _ => rfl
  have cDelta : Cal l.prog w K mg base 6 "delta" ["order"] (spDelta CO CI) := ⟨fDelta, _, PySem.W.mg_of X G haDelta, hkDelta, b, ok_delta F B cSize cMkI⟩
  clear F b
  have F := fun_mk (st := sZeta) hlZeta hcZeta hkZeta
  have b := F.binds (ps := ["order"]) fun _ _ _ _ _ _ us hl => match us, hl with | [_], _ => rfl
  have cZeta : Cal l.prog w K mg base 6 "zeta" ["order"] (spZeta CO CI) := ⟨fZeta, _, PySem.W.mg_of X G haZeta, hkZeta, b, ok_zeta F B cSize cAt cMkI⟩
  clear F b
  have F := fun_mk (st := sCheckSame) hlSame hcSame hkSame
  have b := F.binds (ps := ["one", "two"]) fun _ _ _ _ _ _ us hl => match us, hl with | [_, _], _ => rfl
  have cSame : Cal l.prog w K mg base 3 "check_same" ["one", "two"] (spSame CO CI) := ⟨fSame, _, PySem.W.mg_of X G haSame, hkSame, b, ok_same F T I cEq⟩
  clear F b
  have F := fun_mk (st := sINeg) hlNeg hcNeg hkNeg
  have b := F.binds (ps := ["self"]) fun _ _ _ _ _ _ us hl => match us, hl with | [_], _ => rfl
  have cNeg : Met l.prog w K mg base 6 CI "__neg__" ["self"] (spNeg CO CI) := ⟨fNeg, _, I.cl, ⟨haNeg, hiNeg, hkNeg⟩, b, ok_neg F B I cMkI⟩
  clear F b
  have F := fun_mk (st := sIAdd) hlAdd hcAdd hkAdd
  have b := F.binds (ps := ["self", "other"]) fun _ _ _ _ _ _ us hl => match us, hl with | [_, _], _ => rfl
  have cAdd : Met l.prog w K mg base 6 CI "__add__" ["self", "other"] (spAdd CO CI) := ⟨fAdd, _, I.cl, ⟨haAdd, hiAdd, hkAdd⟩, b, ok_add F B I cSame cMkI⟩
  clear F b
  have F := fun_mk (st := sISub) hlSub hcSub hkSub
  have b := F.binds (ps := ["self", "other"]) fun _ _ _ _ _ _ us hl => match us, hl with | [_, _], _ => rfl
  have cSub : Met l.prog w K mg base 7 CI "__sub__" ["self", "other"] (spSub CO CI) := ⟨fSub, _, I.cl, ⟨haSub, hiSub, hkSub⟩, b, ok_sub F I cAdd cNeg⟩
  clear F b
  have F := fun_mk (st := sIMul) hlMul hcMul hkMul
  have b := F.binds (ps := ["self", "other"]) fun _ _ _ _ _ _ us hl => match us, hl with | [_, _], _ => rfl
  have cMul : Met l.prog w K mg base 6 CI "__mul__" ["self", "other"] (spMul CO CI) := ⟨fMul, _, I.cl, ⟨haMul, hiMul, hkMul⟩, b, ok_mul F B I cSame cMkI⟩
  clear F b
  have F := fun_mk (st := sISums) hlSums hcSums hkSums
  have b := F.binds (ps := ["self", "values"]) fun _ _ _ _ _ _ us hl => match us, hl with | [_, _], _ => rfl
  have cSums : Met l.prog w K mg base 1 CI "sums" ["self", "values"] (spSums CI) := ⟨fSums, _, I.cl, ⟨haSums, hiSums, hkSums⟩, b, ok_sums F B I⟩
  clear F b
  have F := fun_mk (st := sIPower) hlPow hcPow hkPow
  have b := F.binds (ps := ["self", "k"]) fun _ _ _ _ _ _ us hl => match us, hl with | [_, _], _ => rfl
  have cPow : Met l.prog w K mg base 7 CI "power" ["self", "k"] (spPower CO CI) := ⟨fPow, _, I.cl, ⟨haPow, hiPow, hkPow⟩, b, ok_power F B I cDelta cMul⟩
  clear F b
  have F := fun_mk (st := sUpwards) hlUp hcUp hkUp
  have b := F.binds (ps := ["order", "x"]) fun _ _ _ _ _ _ us hl => match us, hl with | [_, _], _ => rfl
  have cUp : Cal l.prog w K mg base 3 "upwards" ["order", "x"] (spUp CO) := ⟨fUp, _, PySem.W.mg_of X G haUp, hkUp, b, ok_up F B cSize cLess cBelow⟩
  clear F b
  have F := fun_mk (st := sIInverse) hlInv hcInv hkInv
  have b := F.binds (ps := ["self"]) fun _ _ _ _ _ _ us hl => match us, hl with | [_], _ => rfl
  have cInv : Met l.prog w K mg base 6 CI "inverse" ["self"] (spInverse CO CI) := ⟨fInv, _, I.cl, ⟨haInv, hiInv, hkInv⟩, b, ok_inverse F B I cUp cMkI⟩
  clear F b
  have F := fun_mk (st := sMoebius) hlMoe hcMoe hkMoe
  have b := F.binds (ps := ["order"]) fun _ _ _ _ _ _ us hl => match us, hl with | [_], _ => rfl
  have cMoe : Cal l.prog w K mg base 7 "moebius" ["order"] (spMoebius CO CI) := ⟨fMoe, _, PySem.W.mg_of X G haMoe, hkMoe, b, ok_moebius F cZeta cInv⟩
  clear F b
  have F := fun_mk (st := sChainsB) hlBet hcBet hkBet
  have b := F.binds (ps := ["order", "x", "y", "many"]) fun _ _ _ _ _ _ us hl => match us, hl with | [_, _, _, _], _ => rfl
  have cBet : Cal l.prog w K mg base 8 "chains_between" ["order", "x", "y", "many"] (spBetween CO) := ⟨fBet, _, PySem.W.mg_of X G haBet, hkBet, b, ok_between F I cZeta cDelta cSub cPow cVal⟩
  clear F b
  have F := fun_mk (st := sLNext) hlLNext hcLNext hkLNext
  have b := F.binds (ps := ["_law_numbers_here", "_law_many"]) fun _ _ _ _ _ _ us hl => match us, hl with | [_, _], _ => rfl
  have cLNext : Cal l.prog w K mg base 1 "_law_next" ["_law_numbers_here", "_law_many"] spNext := ⟨fLNext, _, PySem.W.mg_of X G haLNext, hkLNext, b, ok_next F B⟩
  clear F b
  have F := fun_mk (st := sLNumbers) hlLNum hcLNum hkLNum
  have b := F.binds (ps := ["_law_script"]) fun _ _ _ _ _ _ us hl => match us, hl with | [_], _ => rfl
  have cLNum : Cal l.prog w K mg base 1 "_law_numbers" ["_law_script"] (spNumbers K) := ⟨fLNum, _, PySem.W.mg_of X G haLNum, hkLNum, b, ok_numbers F B⟩
  clear F b
  have F := fun_mk (st := sLOrder) hlLOrd hcLOrd hkLOrd
  have b := F.binds (ps := ["_law_numbers_here", "_law_most"]) fun _ _ _ _ _ _ us hl => match us, hl with | [_, _], _ => rfl
  have cLOrd : Cal l.prog w K mg base 5 "_law_order" ["_law_numbers_here", "_law_most"] (spLOrder CO) := ⟨fLOrd, _, PySem.W.mg_of X G haLOrd, hkLOrd, b, ok_lorder F B cLNext cMkO⟩
  clear F b
  have F := fun_mk (st := sLTable) hlLTab hcLTab hkLTab
  have b := F.binds (ps := ["_law_order_here"]) fun _ _ _ _ _ _ us hl => match us, hl with | [_], _ => rfl
  have cLTab : Cal l.prog w K mg base 3 "_law_table" ["_law_order_here"] (spLTable CO) := ⟨fLTab, _, PySem.W.mg_of X G haLTab, hkLTab, b, ok_ltable F B cSize cPairs⟩
  clear F b
  have F := fun_mk (st := sLChains) hlLCh hcLCh hkLCh
  have b := F.binds (ps := ["_law_table_here", "_law_x", "_law_y"]) fun _ _ _ _ _ _ us hl => match us, hl with | [_, _, _], _ => rfl
  have cLCh : Cal l.prog w K mg base 7 "_law_chains" ["_law_table_here", "_law_x", "_law_y"] (spLChains 7) := chains_all F B b (PySem.W.mg_of X G haLCh) 7
  clear F b
  have F := fun_mk (st := sLaw) hlLaw hcLaw hkLaw
  exact ok_law F B I cLNum cLOrd cSize cLTab cMoe cLCh cBet cVal cLNext cZeta cSums
theorem walk {l : PySem.W.OpenLaw} {q : Program} {loose : List Str} {XP : (Str → Option Value) → Heap → Prop} {YP : World → Heap → Prop} {d : DefRec} {K : Params → PySem.W.Frag} (hn : l.most = some 63) (hdf : d.params.defaults = [])
    (hY : ∀ (w : World) (h : Heap), YP w h → (K w.params).In h)
    (F : ∀ (w : World) (mg : Str → Option Value) (fa : Addr) (h : Heap), (K w.params).In h → h.Ns mainGlobals mg → mg d.name = some (.ref fa) →
      ∃ fd : FuncData, (∀ (s : Shared) (u : Value), BindsTo s fd ⟨[u], []⟩ [("_law_script", u)]) ∧ ∀ base : Heap, (K w.params).In base → base.Ns mainGlobals mg → FnOk l.prog w (K w.params) mg base CX0 9 fa fd ["_law_script"] (spLaw (K w.params))) :
    PySem.W.WalkO q loose XP YP l.row.toRowW d [] (fun f vs => PySem.call f vs) :=
  L2.walk_of (n := 63) (k := 9) (x := "_law_script") (CX := fun _ => CX0) (sp := fun w => spLaw (K w.params)) hn (by decide) hdf ⟨rfl, by decide, by decide⟩ hY F (fun _ _ a ns hl _ hS => ⟨a, ns, rfl, hS, hl, fun _ => rfl⟩) fun _ _ _ _ _ z => z
end K27
set_option Elab.async false
set_option linter.all false
set_option maxRecDepth 100000
set_option maxHeartbeats 4000000
open PySem PySem.W PyProof.Rows
set_option maxRecDepth 100000
set_option maxHeartbeats 0
open_top head for PySem.Challenge.rw_orderforms_k27_whole_moebius_functions
theorem PySem.Challenge.cw_orderforms_k27_whole_moebius_functions_holds : PySem.Challenge.rw_orderforms_k27_whole_moebius_functions.Holds := by
  refine head ?_
  k_fill
  refine K27.walk (l := PySem.Challenge.rw_orderforms_k27_whole_moebius_functions) rfl rfl (fun w h Y => PySem.W.kIn_of Y) ?F
  case F =>
    intro w mg fa h KX G hmg
    refine' K27.all_mk KX G hmg ?haCO ?hpgCO ?hhdCO ?hpoCO ?hsaCO ?hmkCO ?hkcCO ?haCI ?hpgCI ?hhdCI ?hpoCI ?hsaCI ?hmkCI ?hkcCI ?hnNO ?hnAO ?hnOI ?hnRI ?hsfI ?hmrO ?hneO ?hmst ?hccO ?hcgO ?hctO ?hz_isi ?hz_int ?hz_bool ?hz_len ?hz_range ?hz_tuple ?hz_list ?hz_sum ?hz_all ?hz_min ?hz_abs ?haInt ?hlInt ?hcInt ?hkInt ?haHas ?hlHas ?hcHas ?hkHas ?haSet ?hlSet ?hcSet ?hkSet ?haMem ?hlMem ?hcMem ?hkMem ?haSize ?hiSize ?hlSize ?hcSize ?hkSize ?haLess ?hiLess ?hlLess ?hcLess ?hkLess ?haAt ?hiAt ?hlAt ?hcAt ?hkAt ?haBelow ?hiBelow ?hlBelow ?hcBelow ?hkBelow ?haPairs ?hiPairs ?hlPairs ?hcPairs ?hkPairs ?haEq ?hiEq ?hlEq ?hcEq ?hkEq ?haChk ?hlChk ?hcChk ?hkChk ?haClo ?hlClo ?hcClo ?hkClo ?haMkO ?hiMkO ?hlMkO ?hcMkO ?hkMkO ?haTab ?hlTab ?hcTab ?hkTab ?haMkI ?hiMkI ?hlMkI ?hcMkI ?hkMkI ?haVal ?hiVal ?hlVal ?hcVal ?hkVal ?haDelta ?hlDelta ?hcDelta ?hkDelta ?haZeta ?hlZeta ?hcZeta ?hkZeta ?haSame ?hlSame ?hcSame ?hkSame ?haNeg ?hiNeg ?hlNeg ?hcNeg ?hkNeg ?haAdd ?hiAdd ?hlAdd ?hcAdd ?hkAdd ?haSub ?hiSub ?hlSub ?hcSub ?hkSub ?haMul ?hiMul ?hlMul ?hcMul ?hkMul ?haSums ?hiSums ?hlSums ?hcSums ?hkSums ?haPow ?hiPow ?hlPow ?hcPow ?hkPow ?haUp ?hlUp ?hcUp ?hkUp ?haInv ?hiInv ?hlInv ?hcInv ?hkInv ?haMoe ?hlMoe ?hcMoe ?hkMoe ?haBet ?hlBet ?hcBet ?hkBet ?haLNext ?hlLNext ?hcLNext ?hkLNext ?haLNum ?hlLNum ?hcLNum ?hkLNum ?haLOrd ?hlLOrd ?hcLOrd ?hkLOrd ?haLTab ?hlLTab ?hcLTab ?hkLTab ?haLCh ?hlLCh ?hcLCh ?hkLCh ?haLaw ?hlLaw ?hcLaw ?hkLaw
    (case haCO => k_is)
    (case hpgCO => k_is)
    (case hhdCO => k_is)
    (case hpoCO => k_is)
    (case hsaCO => k_is)
    (case hmkCO => k_is)
    (case hkcCO => k_is)
    (case haCI => k_is)
    (case hpgCI => k_is)
    (case hhdCI => k_is)
    (case hpoCI => k_is)
    (case hsaCI => k_is)
    (case hmkCI => k_is)
    (case hkcCI => k_is)
    (case hnNO => k_is)
    (case hnAO => k_is)
    (case hnOI => k_is)
    (case hnRI => k_is)
    (case hsfI => k_is)
    (case hmrO => k_is)
    (case hneO => k_is)
    (case hmst => k_is)
    (case hccO => k_is)
    (case hcgO => k_is)
    (case hctO => k_is)
    (case hz_isi => k_is)
    (case hz_int => k_is)
    (case hz_bool => k_is)
    (case hz_len => k_is)
    (case hz_range => k_is)
    (case hz_tuple => k_is)
    (case hz_list => k_is)
    (case hz_sum => k_is)
    (case hz_all => k_is)
    (case hz_min => k_is)
    (case hz_abs => k_is)
    (case haInt => k_is)
    (case hlInt => k_is)
    (case hcInt => k_is)
    (case hkInt => k_is)
    (case haHas => k_is)
    (case hlHas => k_is)
    (case hcHas => k_is)
    (case hkHas => k_is)
    (case haSet => k_is)
    (case hlSet => k_is)
    (case hcSet => k_is)
    (case hkSet => k_is)
    (case haMem => k_is)
    (case hlMem => k_is)
    (case hcMem => k_is)
    (case hkMem => k_is)
    (case haSize => k_is)
    (case hiSize => k_is)
    (case hlSize => k_is)
    (case hcSize => k_is)
    (case hkSize => k_is)
    (case haLess => k_is)
    (case hiLess => k_is)
    (case hlLess => k_is)
    (case hcLess => k_is)
    (case hkLess => k_is)
    (case haAt => k_is)
    (case hiAt => k_is)
    (case hlAt => k_is)
    (case hcAt => k_is)
    (case hkAt => k_is)
    (case haBelow => k_is)
    (case hiBelow => k_is)
    (case hlBelow => k_is)
    (case hcBelow => k_is)
    (case hkBelow => k_is)
    (case haPairs => k_is)
    (case hiPairs => k_is)
    (case hlPairs => k_is)
    (case hcPairs => k_is)
    (case hkPairs => k_is)
    (case haEq => k_is)
    (case hiEq => k_is)
    (case hlEq => k_is)
    (case hcEq => k_is)
    (case hkEq => k_is)
    (case haChk => k_is)
    (case hlChk => k_is)
    (case hcChk => k_is)
    (case hkChk => k_is)
    (case haClo => k_is)
    (case hlClo => k_is)
    (case hcClo => k_is)
    (case hkClo => k_is)
    (case haMkO => k_is)
    (case hiMkO => k_is)
    (case hlMkO => k_is)
    (case hcMkO => k_is)
    (case hkMkO => k_is)
    (case haTab => k_is)
    (case hlTab => k_is)
    (case hcTab => k_is)
    (case hkTab => k_is)
    (case haMkI => k_is)
    (case hiMkI => k_is)
    (case hlMkI => k_is)
    (case hcMkI => k_is)
    (case hkMkI => k_is)
    (case haVal => k_is)
    (case hiVal => k_is)
    (case hlVal => k_is)
    (case hcVal => k_is)
    (case hkVal => k_is)
    (case haDelta => k_is)
    (case hlDelta => k_is)
    (case hcDelta => k_is)
    (case hkDelta => k_is)
    (case haZeta => k_is)
    (case hlZeta => k_is)
    (case hcZeta => k_is)
    (case hkZeta => k_is)
    (case haSame => k_is)
    (case hlSame => k_is)
    (case hcSame => k_is)
    (case hkSame => k_is)
    (case haNeg => k_is)
    (case hiNeg => k_is)
    (case hlNeg => k_is)
    (case hcNeg => k_is)
    (case hkNeg => k_is)
    (case haAdd => k_is)
    (case hiAdd => k_is)
    (case hlAdd => k_is)
    (case hcAdd => k_is)
    (case hkAdd => k_is)
    (case haSub => k_is)
    (case hiSub => k_is)
    (case hlSub => k_is)
    (case hcSub => k_is)
    (case hkSub => k_is)
    (case haMul => k_is)
    (case hiMul => k_is)
    (case hlMul => k_is)
    (case hcMul => k_is)
    (case hkMul => k_is)
    (case haSums => k_is)
    (case hiSums => k_is)
    (case hlSums => k_is)
    (case hcSums => k_is)
    (case hkSums => k_is)
    (case haPow => k_is)
    (case hiPow => k_is)
    (case hlPow => k_is)
    (case hcPow => k_is)
    (case hkPow => k_is)
    (case haUp => k_is)
    (case hlUp => k_is)
    (case hcUp => k_is)
    (case hkUp => k_is)
    (case haInv => k_is)
    (case hiInv => k_is)
    (case hlInv => k_is)
    (case hcInv => k_is)
    (case hkInv => k_is)
    (case haMoe => k_is)
    (case hlMoe => k_is)
    (case hcMoe => k_is)
    (case hkMoe => k_is)
    (case haBet => k_is)
    (case hlBet => k_is)
    (case hcBet => k_is)
    (case hkBet => k_is)
    (case haLNext => k_is)
    (case hlLNext => k_is)
    (case hcLNext => k_is)
    (case hkLNext => k_is)
    (case haLNum => k_is)
    (case hlLNum => k_is)
    (case hcLNum => k_is)
    (case hkLNum => k_is)
    (case haLOrd => k_is)
    (case hlLOrd => k_is)
    (case hcLOrd => k_is)
    (case hkLOrd => k_is)
    (case haLTab => k_is)
    (case hlLTab => k_is)
    (case hcLTab => k_is)
    (case hkLTab => k_is)
    (case haLCh => k_is)
    (case hlLCh => k_is)
    (case hcLCh => k_is)
    (case hkLCh => k_is)
    (case haLaw => k_is)
    (case hlLaw => k_is)
    (case hcLaw => k_is)
    (case hkLaw => k_is)
#print axioms PySem.Challenge.cw_orderforms_k27_whole_moebius_functions_holds
