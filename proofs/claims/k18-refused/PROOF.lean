import PyProof.Rows.All
import Wide.All
import OpenK.AllK
import Wide.FinOn
import HandS.ForMost
import HandS.IsInst
import HandS.Wide
import HandS.Evl
import HandS.Steps
import PySem.Challenge.RW_endsorever_k18_what_following_refuses
import HandS.Walk
import HandS.Zip
import HandS.Star
import HandS.TupMul
import HandS.TupAny
import KE.GoesZip
import KE.GoesMore
import KE.GoesEnum
import HandS.Style
import HandS.Conv
import PyProof.StrLawsRepr
import KE.KSuper
import KE.KExcSuper
import HandS.Exc
import HandS.ExcValue
import HandS.WordsExc
import HandS.Nested
import HandS.ExcIs
import HandS.ExcField
import KE.KExcIs
import HandS.EndTab
set_option linter.all false
namespace SX

def sm : Nat → (Nat → Rat) → Rat
  | 0, _ => 0
  | n + 1, f => sm n f + f n

theorem sm_congr {n : Nat} {f g : Nat → Rat} (h : ∀ i, i < n → f i = g i) : sm n f = sm n g := by
  induction n with
  | zero => rfl
  | succ n ih =>
    show sm n f + f n = sm n g + g n
    rw [ih fun i hi => h i (by omega), h n (by omega)]
theorem sm_add (n : Nat) (f g : Nat → Rat) : sm n (fun i => f i + g i) = sm n f + sm n g := by
  induction n with
  | zero => show (0 : Rat) = 0 + 0; grind
  | succ n ih =>
    show sm n (fun i => f i + g i) + (f n + g n) = (sm n f + f n) + (sm n g + g n)
    rw [ih]; grind
theorem sm_sub (n : Nat) (f g : Nat → Rat) : sm n (fun i => f i - g i) = sm n f - sm n g := by
  induction n with
  | zero => show (0 : Rat) = 0 - 0; grind
  | succ n ih =>
    show sm n (fun i => f i - g i) + (f n - g n) = (sm n f + f n) - (sm n g + g n)
    rw [ih]; grind
theorem sm_neg (n : Nat) (f : Nat → Rat) : sm n (fun i => - f i) = - sm n f := by
  induction n with
  | zero => show (0 : Rat) = - 0; grind
  | succ n ih =>
    show sm n (fun i => - f i) + (- f n) = - (sm n f + f n)
    rw [ih]; grind
theorem sm_mul (n : Nat) (c : Rat) (f : Nat → Rat) : sm n (fun i => c * f i) = c * sm n f := by
  induction n with
  | zero => show (0 : Rat) = c * 0; grind
  | succ n ih =>
    show sm n (fun i => c * f i) + (c * f n) = c * (sm n f + f n)
    rw [ih]; grind
theorem sm_zero {n : Nat} {f : Nat → Rat} (h : ∀ i, i < n → f i = 0) : sm n f = 0 := by
  induction n with
  | zero => rfl
  | succ n ih =>
    show sm n f + f n = 0
    rw [ih fun i hi => h i (by omega), h n (by omega)]; grind
theorem sm_one {n k : Nat} {f : Nat → Rat} (hk : k < n) (h : ∀ i, i < n → i ≠ k → f i = 0) : sm n f = f k := by
  induction n with
  | zero => omega
  | succ n ih =>
    show sm n f + f n = f k
    by_cases e : k = n
    · subst e
      rw [sm_zero fun i hi => h i (by omega) (by omega)]; grind
    · rw [ih (by omega) fun i hi hne => h i (by omega) hne, h n (by omega) (by omega)]; grind
theorem sm_swap (n m : Nat) (f : Nat → Nat → Rat) : sm n (fun i => sm m (fun j => f i j)) = sm m (fun j => sm n (fun i => f i j)) := by
  induction n with
  | zero => exact (sm_zero fun _ _ => rfl).symm
  | succ n ih =>
    show sm n (fun i => sm m fun j => f i j) + sm m (fun j => f n j) = sm m (fun j => sm n (fun i => f i j) + f n j)
    rw [ih, sm_add]
theorem sm_nonneg {n : Nat} {f : Nat → Rat} (h : ∀ i, i < n → 0 ≤ f i) : 0 ≤ sm n f := by
  induction n with
  | zero => exact Rat.le_refl
  | succ n ih =>
    show 0 ≤ sm n f + f n
    have h1 := ih fun i hi => h i (by omega)
    have h2 := h n (by omega)
    grind
theorem sm_neg_ex {n : Nat} {f : Nat → Rat} (h : sm n f < 0) : ∃ i, i < n ∧ f i < 0 := by
  induction n with
  | zero => exact absurd h (by show ¬ (0 : Rat) < 0; grind)
  | succ n ih =>
    have h : sm n f + f n < 0 := h
    by_cases h1 : sm n f < 0
    · obtain ⟨i, hi, e⟩ := ih h1
      exact ⟨i, by omega, e⟩
    · exact ⟨n, by omega, by grind⟩
theorem sm_pos_ex {n : Nat} {f : Nat → Rat} (h : 0 < sm n f) : ∃ i, i < n ∧ 0 < f i := by
  induction n with
  | zero => exact absurd h (by show ¬ (0 : Rat) < 0; grind)
  | succ n ih =>
    have h : 0 < sm n f + f n := h
    by_cases h1 : 0 < sm n f
    · obtain ⟨i, hi, e⟩ := ih h1
      exact ⟨i, by omega, e⟩
    · exact ⟨n, by omega, by grind⟩
/-- a sum of numbers not below 0 that is 0: each is 0 -/
theorem sm_all_zero {n : Nat} {f : Nat → Rat} (h : ∀ i, i < n → 0 ≤ f i) (e : sm n f = 0) : ∀ i, i < n → f i = 0 := by
  induction n with
  | zero => intro i hi; omega
  | succ n ih =>
    have e : sm n f + f n = 0 := e
    have h1 := sm_nonneg (n := n) (f := f) fun i hi => h i (by omega)
    have h2 := h n (by omega)
    intro i hi
    by_cases z : i = n
    · subst z; grind
    · exact ih (fun i hi => h i (by omega)) (by grind) i (by omega)
theorem sm_split (n m : Nat) (f : Nat → Rat) : sm (n + m) f = sm n f + sm m (fun i => f (n + i)) := by
  induction m with
  | zero => show sm n f = sm n f + 0; grind
  | succ m ih =>
    show sm (n + m) f + f (n + m) = sm n f + (sm m (fun i => f (n + i)) + f (n + m))
    rw [ih]; grind

/-! ### tableaux: n columns of their own, h of lacks, the last one the goal -/
/-- what is orthogonal to all rows -/
def Ker (W h : Nat) (T : Nat → Nat → Rat) (z : Nat → Rat) : Prop := ∀ i, i < h → sm W (fun j => T i j * z j) = 0
/-- one more of column e, less what rows ask -/
def zv (h : Nat) (T : Nat → Nat → Rat) (B : Nat → Nat) (e : Nat) : Nat → Rat := fun j => (if j = e then 1 else 0) - sm h (fun i => if B i = j then T i e else 0)
theorem zv_sum {W h : Nat} {T : Nat → Nat → Rat} {B : Nat → Nat} {e : Nat} (f : Nat → Rat) (he : e < W) (hB : ∀ i, i < h → B i < W) :
    sm W (fun j => f j * zv h T B e j) = f e - sm h (fun i => f (B i) * T i e) := by
  have e1 : sm W (fun j => f j * zv h T B e j) = sm W (fun j => (f j * (if j = e then 1 else 0)) - sm h (fun i => f j * (if B i = j then T i e else 0))) := sm_congr fun j _ => by
    unfold zv
    rw [sm_mul]; grind
  rw [e1, sm_sub, sm_swap]
  rw [sm_one (k := e) he fun i _ hne => by rw [if_neg hne]; grind, if_pos rfl]
  rw [sm_congr (g := fun i => f (B i) * T i e) fun i hi => by
    rw [sm_one (k := B i) (hB i hi) fun j _ hne => by rw [if_neg (fun z => hne z.symm)]; grind, if_pos rfl]]
  grind

structure Inv (n h : Nat) (A T : Nat → Nat → Rat) (c : Nat → Rat) (B : Nat → Nat) : Prop where
  ker : ∀ z, Ker (n + h + 1) h T z ↔ Ker (n + h + 1) h A z
  cost : ∀ z, Ker (n + h + 1) h A z → sm (n + h + 1) (fun j => c j * z j) = sm h (fun k => z (n + k))
  unit : ∀ i k, i < h → k < h → T i (B k) = if i = k then 1 else 0
  zero : ∀ k, k < h → c (B k) = 0
  low : ∀ k, k < h → B k < n + h
  above : ∀ i, i < h → 0 ≤ T i (n + h)

section
variable {n h : Nat} {A T : Nat → Nat → Rat} {c : Nat → Rat} {B : Nat → Nat}
theorem Inv.inj (I : Inv n h A T c B) {i k : Nat} (hi : i < h) (hk : k < h) (e : B i = B k) : i = k := by
  by_cases z : i = k
  · exact z
  · have h1 := I.unit i i hi hi
    have h2 := I.unit i k hi hk
    rw [if_pos rfl] at h1
    rw [if_neg z, ← e, h1] at h2
    grind
theorem Inv.zker (I : Inv n h A T c B) {e : Nat} (he : e < n + h + 1) : Ker (n + h + 1) h A (zv h T B e) := by
  rw [← I.ker]
  intro k hk
  rw [zv_sum (fun j => T k j) he fun i hi => by have := I.low i hi; omega]
  rw [sm_one (k := k) hk fun i hi hne => by rw [I.unit k i hk hi, if_neg (fun z => hne z.symm)]; grind, I.unit k k hk hk, if_pos rfl]
  grind
/-- what a cost is: by the rows whose lacks are left -/
theorem Inv.cost_at (I : Inv n h A T c B) {e : Nat} (he : e < n + h + 1) (ha : ∀ k, k < h → e ≠ n + k) : c e = - sm h (fun i => if n ≤ B i then T i e else 0) := by
  have q := I.cost _ (I.zker he)
  rw [zv_sum (fun j => c j) he fun i hi => by have := I.low i hi; omega] at q
  rw [sm_zero (f := fun i => c (B i) * T i e) fun i hi => by rw [I.zero i hi]; grind] at q
  have q2 : sm h (fun k => zv h T B e (n + k)) = sm h (fun k => - sm h (fun i => if B i = n + k then T i e else 0)) := sm_congr fun k hk => by
    unfold zv
    rw [if_neg (fun z => ha k hk z.symm)]; grind
  rw [q2, sm_neg, sm_swap] at q
  have q3 : sm h (fun i => sm h (fun k => if B i = n + k then T i e else 0)) = sm h (fun i => if n ≤ B i then T i e else 0) := sm_congr fun i hi => by
    by_cases z : n ≤ B i
    · have l := I.low i hi
      rw [if_pos z, sm_one (k := B i - n) (by omega) fun k _ hne => by rw [if_neg (by omega)], if_pos (by omega)]
    · rw [if_neg z]
      exact sm_zero fun k _ => by rw [if_neg (by omega)]
  rw [q3] at q
  grind
end
end SX
set_option linter.all false
namespace SX
/-! ### one turn -/
def pivT (T : Nat → Nat → Rat) (r e : Nat) : Nat → Nat → Rat := fun i j => if i = r then T r j / T r e else T i j - T i e * (T r j / T r e)
def pivC (T : Nat → Nat → Rat) (c : Nat → Rat) (r e : Nat) : Nat → Rat := fun j => c j - c e * (T r j / T r e)
def pivB (B : Nat → Nat) (r e : Nat) : Nat → Nat := fun i => if i = r then e else B i
/-- the row that is filled first, of alike ones that of the first column -/
structure Leaves (n h : Nat) (T : Nat → Nat → Rat) (B : Nat → Nat) (e r : Nat) : Prop where
  lt : r < h
  pos : 0 < T r e
  least : ∀ i, i < h → 0 < T i e → T r (n + h) / T r e ≤ T i (n + h) / T i e
  first : ∀ i, i < h → 0 < T i e → T i (n + h) / T i e = T r (n + h) / T r e → B r ≤ B i
structure Enters (n : Nat) (c : Nat → Rat) (e : Nat) : Prop where
  lt : e < n
  neg : c e < 0
  first : ∀ j, j < e → 0 ≤ c j

theorem div_nonneg {a b : Rat} (ha : 0 ≤ a) (hb : 0 < b) : 0 ≤ a / b := by
  rw [Rat.div_def]
  exact Rat.mul_nonneg ha (Rat.le_of_lt (Rat.inv_pos.mpr hb))
theorem div_mul_self {a b : Rat} (hb : 0 < b) : a / b * b = a := by
  have : b ≠ 0 := by grind
  grind
theorem le_div {a b t : Rat} (hb : 0 < b) (h : t ≤ a / b) : t * b ≤ a := by
  have := Rat.mul_le_mul_of_nonneg_right h (Rat.le_of_lt hb)
  rwa [div_mul_self hb] at this

section
variable {n h : Nat} {A T : Nat → Nat → Rat} {c : Nat → Rat} {B : Nat → Nat} {r e : Nat}
theorem ker_piv {W : Nat} (hr : r < h) (hp : T r e ≠ 0) (z : Nat → Rat) : Ker W h (pivT T r e) z ↔ Ker W h T z := by
  have row : ∀ i, sm W (fun j => pivT T r e i j * z j) = if i = r then sm W (fun j => T r j * z j) / T r e else sm W (fun j => T i j * z j) - T i e * (sm W (fun j => T r j * z j) / T r e) := by
    intro i
    by_cases q : i = r
    · rw [if_pos q, sm_congr (g := fun j => (1 / T r e) * (T r j * z j)) fun j _ => by unfold pivT; rw [if_pos q]; grind, sm_mul]
      grind
    · rw [if_neg q, sm_congr (g := fun j => T i j * z j - (T i e / T r e) * (T r j * z j)) fun j _ => by unfold pivT; rw [if_neg q]; grind, sm_sub, sm_mul]
      grind
  constructor
  · intro k
    have k0 : sm W (fun j => T r j * z j) = 0 := by
      have q := k r hr
      rw [row, if_pos rfl] at q
      grind
    intro i hi
    by_cases q : i = r
    · rw [q]; exact k0
    · have q2 := k i hi
      rw [row, if_neg q, k0] at q2
      grind
  · intro k i hi
    rw [row]
    by_cases q : i = r
    · rw [if_pos q, k r hr]; grind
    · rw [if_neg q, k i hi, k r hr]; grind
theorem Inv.piv (I : Inv n h A T c B) (hr : r < h) (he : e < n + h) (hp : 0 < T r e) (hl : ∀ i, i < h → 0 < T i e → T r (n + h) / T r e ≤ T i (n + h) / T i e) :
    Inv n h A (pivT T r e) (pivC T c r e) (pivB B r e) where
  ker := fun z => (ker_piv hr (by grind) z).trans (I.ker z)
  cost := fun z hz => by
    have k := (I.ker z).mpr hz r hr
    rw [sm_congr (g := fun j => c j * z j - (c e / T r e) * (T r j * z j)) fun j _ => by unfold pivC; grind, sm_sub, sm_mul, k, I.cost z hz]
    grind
  unit := fun i k hi hk => by
    have hne : T r e ≠ 0 := by grind
    unfold pivT pivB
    by_cases q : k = r
    · subst q
      rw [if_pos rfl]
      by_cases z : i = k
      · subst z; rw [if_pos rfl, if_pos rfl]; grind
      · rw [if_neg z, if_neg z]; grind
    · rw [if_neg q]
      have h1 := I.unit r k hr hk
      rw [if_neg (fun z => q z.symm)] at h1
      by_cases z : i = r
      · rw [if_pos z, h1, if_neg (fun w => q (w.symm.trans z))]; grind
      · rw [if_neg z, h1, I.unit i k hi hk]; grind
  zero := fun k hk => by
    have hne : T r e ≠ 0 := by grind
    unfold pivC pivB
    by_cases q : k = r
    · rw [if_pos q]; grind
    · rw [if_neg q]
      have h1 := I.unit r k hr hk
      rw [if_neg (fun z => q z.symm)] at h1
      rw [h1, I.zero k hk]; grind
  low := fun k hk => by
    unfold pivB
    by_cases q : k = r
    · rw [if_pos q]; exact he
    · rw [if_neg q]; exact I.low k hk
  above := fun i hi => by
    unfold pivT
    have t0 : 0 ≤ T r (n + h) / T r e := div_nonneg (I.above r hr) hp
    by_cases q : i = r
    · rw [if_pos q]; exact t0
    · rw [if_neg q]
      have a := I.above i hi
      by_cases z : 0 < T i e
      · have l := le_div z (hl i hi z)
        grind
      · have m := Rat.mul_nonneg (show 0 ≤ - T i e by grind) t0
        grind
/-- what makes all lacks less can be let in -/
theorem Inv.some_pos (I : Inv n h A T c B) (he : e < n) (hc : c e < 0) : ∃ i, i < h ∧ 0 < T i e := by
  have q := I.cost_at (e := e) (by omega) (fun k hk => by omega)
  obtain ⟨i, hi, p⟩ := sm_pos_ex (n := h) (f := fun i => if n ≤ B i then T i e else 0) (by grind)
  refine ⟨i, hi, ?_⟩
  by_cases z : n ≤ B i
  · simp only [if_pos z] at p; exact p
  · simp only [if_neg z] at p
    exact absurd p (by grind)
/-- all is told by which columns stand for the rows -/
theorem Inv.same {T' : Nat → Nat → Rat} {c' : Nat → Rat} {B' : Nat → Nat} (I : Inv n h A T c B) (J : Inv n h A T' c' B') (e0 : ∀ i, i < h → B i = B' i) :
    ∀ i j, i < h → j < n + h + 1 → T i j = T' i j := by
  intro i j hi hj
  have q := (J.ker _).mpr (I.zker hj) i hi
  rw [zv_sum (fun j => T' i j) hj fun i hi => by have := I.low i hi; omega] at q
  rw [sm_one (k := i) hi fun k hk hne => by rw [e0 k hk, J.unit i k hi hk, if_neg (fun z => hne z.symm)]; grind, e0 i hi, J.unit i i hi hi, if_pos rfl] at q
  grind
end
end SX
set_option linter.all false
namespace SX
/-! ### no run is without end (Bland) -/
theorem pigeon : ∀ (N : Nat) (f : Nat → Nat), (∀ i, i ≤ N → f i < N) → ∃ i j, i < j ∧ j ≤ N ∧ f i = f j
  | 0, f, h => absurd (h 0 (Nat.le_refl 0)) (Nat.not_lt_zero _)
  | N + 1, f, h => by
    by_cases q : ∃ i, i ≤ N ∧ f i = f (N + 1)
    · obtain ⟨i, hi, e⟩ := q
      exact ⟨i, N + 1, by omega, Nat.le_refl _, e⟩
    · obtain ⟨i, j, hij, hj, e⟩ := pigeon N (fun i => if f i < f (N + 1) then f i else f i - 1) (fun i hi => by
        have h1 := h i (by omega)
        have h2 := h (N + 1) (Nat.le_refl _)
        have h3 : f i ≠ f (N + 1) := fun z => q ⟨i, hi, z⟩
        show (if f i < f (N + 1) then f i else f i - 1) < N
        split <;> omega)
      refine ⟨i, j, hij, by omega, ?_⟩
      have h3 : f i ≠ f (N + 1) := fun z => q ⟨i, by omega, z⟩
      have h4 : f j ≠ f (N + 1) := fun z => q ⟨j, by omega, z⟩
      have e : (if f i < f (N + 1) then f i else f i - 1) = (if f j < f (N + 1) then f j else f j - 1) := e
      split at e <;> split at e <;> omega
/-- so many numbers as one -/
def code (W : Nat) : Nat → (Nat → Nat) → Nat
  | 0, _ => 0
  | h + 1, B => code W h B * W + B h
theorem code_lt {W : Nat} : ∀ {h : Nat} {B : Nat → Nat}, (∀ i, i < h → B i < W) → code W h B < W ^ h
  | 0, _, _ => by show 0 < 1; omega
  | h + 1, B, l => by
    have h1 := code_lt (h := h) (B := B) fun i hi => l i (by omega)
    have h2 := l h (by omega)
    show code W h B * W + B h < W ^ h * W
    have h3 : (code W h B + 1) * W ≤ W ^ h * W := Nat.mul_le_mul_right W h1
    rw [Nat.add_mul] at h3
    omega
theorem code_inj {W : Nat} : ∀ {h : Nat} {B B' : Nat → Nat}, (∀ i, i < h → B i < W) → (∀ i, i < h → B' i < W) → code W h B = code W h B' → ∀ i, i < h → B i = B' i
  | 0, _, _, _, _, _ => fun i hi => by omega
  | h + 1, B, B', l, l', e => by
    have h1 := l h (by omega)
    have h2 := l' h (by omega)
    have e : code W h B * W + B h = code W h B' * W + B' h := e
    have m1 : (code W h B * W + B h) % W = B h := by rw [Nat.add_comm, Nat.add_mul_mod_self_right, Nat.mod_eq_of_lt h1]
    have m2 : (code W h B' * W + B' h) % W = B' h := by rw [Nat.add_comm, Nat.add_mul_mod_self_right, Nat.mod_eq_of_lt h2]
    have e1 : B h = B' h := by rw [← m1, e, m2]
    have e2 : code W h B = code W h B' := by
      have : code W h B * W = code W h B' * W := by omega
      exact Nat.eq_of_mul_eq_mul_right (by omega) this
    intro i hi
    by_cases z : i = h
    · rw [z]; exact e1
    · exact code_inj (fun i hi => l i (by omega)) (fun i hi => l' i (by omega)) e2 i (by omega)

structure Run (n h : Nat) (A : Nat → Nat → Rat) (T : Nat → Nat → Nat → Rat) (c : Nat → Nat → Rat) (B : Nat → Nat → Nat) (e r : Nat → Nat) : Prop where
  inv : ∀ k, Inv n h A (T k) (c k) (B k)
  ent : ∀ k, Enters n (c k) (e k)
  lea : ∀ k, Leaves n h (T k) (B k) (e k) (r k)
  nT : ∀ k, T (k + 1) = pivT (T k) (r k) (e k)
  nC : ∀ k, c (k + 1) = pivC (T k) (c k) (r k) (e k)
  nB : ∀ k, B (k + 1) = pivB (B k) (r k) (e k)

theorem max_ex (f : Nat → Nat) (s : Nat) : ∀ d, ∃ m, s ≤ m ∧ m ≤ s + d ∧ ∀ k, s ≤ k → k ≤ s + d → f k ≤ f m
  | 0 => ⟨s, Nat.le_refl _, Nat.le_refl _, fun k h1 h2 => by
      have : k = s := by omega
      rw [this]; exact Nat.le_refl _⟩
  | d + 1 => by
    obtain ⟨m, h1, h2, h3⟩ := max_ex f s d
    by_cases q : f m ≤ f (s + (d + 1))
    · refine ⟨s + (d + 1), by omega, Nat.le_refl _, fun k a b => ?_⟩
      by_cases z : k = s + (d + 1)
      · rw [z]; exact Nat.le_refl _
      · exact Nat.le_trans (h3 k a (by omega)) q
    · refine ⟨m, h1, by omega, fun k a b => ?_⟩
      by_cases z : k = s + (d + 1)
      · rw [z]; omega
      · exact h3 k a (by omega)

section
variable {n h : Nat} {A : Nat → Nat → Rat} {T : Nat → Nat → Nat → Rat} {c : Nat → Nat → Rat} {B : Nat → Nat → Nat} {e r : Nat → Nat}
/-- j stands for a row at time k -/
def In (h : Nat) (B : Nat → Nat) (j : Nat) : Prop := ∃ i, i < h ∧ B i = j
theorem Run.enters (R : Run n h A T c B e r) {j a : Nat} : ∀ d, ¬ In h (B a) j → In h (B (a + d)) j → ∃ k, a ≤ k ∧ k < a + d ∧ e k = j
  | 0, h1, h2 => absurd h2 h1
  | d + 1, h1, h2 => by
    by_cases q : In h (B (a + d)) j
    · obtain ⟨k, x, y, z⟩ := R.enters d h1 q
      exact ⟨k, x, by omega, z⟩
    · obtain ⟨i, hi, w⟩ := h2
      refine ⟨a + d, by omega, by omega, ?_⟩
      have w : B (a + d + 1) i = j := w
      rw [R.nB] at w
      unfold pivB at w
      by_cases z : i = r (a + d)
      · rw [if_pos z] at w; exact w
      · rw [if_neg z] at w
        exact absurd ⟨i, hi, w⟩ q
theorem Run.leaves (R : Run n h A T c B e r) {j a : Nat} : ∀ d, In h (B a) j → ¬ In h (B (a + d)) j → ∃ k, a ≤ k ∧ k < a + d ∧ B k (r k) = j
  | 0, h1, h2 => absurd h1 h2
  | d + 1, h1, h2 => by
    by_cases q : In h (B (a + d)) j
    · obtain ⟨i, hi, w⟩ := q
      refine ⟨a + d, by omega, by omega, ?_⟩
      by_cases z : i = r (a + d)
      · rw [← z]; exact w
      · refine absurd ⟨i, hi, ?_⟩ h2
        show B (a + d + 1) i = j
        rw [R.nB]
        unfold pivB
        rw [if_neg z]; exact w
    · obtain ⟨k, x, y, z⟩ := R.leaves d h1 q
      exact ⟨k, x, by omega, z⟩
theorem Run.not_in (R : Run n h A T c B e r) (k : Nat) : ¬ In h (B k) (e k) := fun ⟨i, hi, w⟩ => by
  have q := (R.inv k).zero i hi
  rw [w] at q
  have := (R.ent k).neg
  grind
/-- how far a turn goes -/
def far (n h : Nat) (T : Nat → Nat → Rat) (r e : Nat) : Rat := T r (n + h) / T r e
theorem Run.far_nonneg (R : Run n h A T c B e r) (k : Nat) : 0 ≤ far n h (T k) (r k) (e k) := div_nonneg ((R.inv k).above _ (R.lea k).lt) (R.lea k).pos
theorem Run.goal (R : Run n h A T c B e r) (k : Nat) : c (k + 1) (n + h) = c k (n + h) + (- c k (e k)) * far n h (T k) (r k) (e k) := by
  rw [R.nC]
  unfold pivC far
  grind
theorem Run.goal_le (R : Run n h A T c B e r) {a : Nat} : ∀ d, c a (n + h) ≤ c (a + d) (n + h)
  | 0 => Rat.le_refl
  | d + 1 => by
    have h1 := R.goal_le (a := a) d
    have h2 := R.goal (a + d)
    have h3 := Rat.mul_nonneg (show 0 ≤ - c (a + d) (e (a + d)) by have := (R.ent (a + d)).neg; grind) (R.far_nonneg (a + d))
    have h4 : c (a + (d + 1)) (n + h) = c (a + d + 1) (n + h) := rfl
    grind
theorem Run.far_zero (R : Run n h A T c B e r) {s t : Nat} (e0 : c s (n + h) = c t (n + h)) {k : Nat} (h1 : s ≤ k) (h2 : k < t) : T k (r k) (n + h) = 0 := by
  have a1 := R.goal_le (a := s) (k - s)
  have a2 := R.goal_le (a := k + 1) (t - (k + 1))
  rw [show s + (k - s) = k by omega] at a1
  rw [show k + 1 + (t - (k + 1)) = t by omega] at a2
  have a3 := R.goal k
  have p : 0 < - c k (e k) := by have := (R.ent k).neg; grind
  have f := R.far_nonneg k
  have m := Rat.mul_nonneg (Rat.le_of_lt p) f
  have z : (- c k (e k)) * far n h (T k) (r k) (e k) = 0 := by grind
  have z2 : far n h (T k) (r k) (e k) = 0 := by
    rcases Rat.mul_eq_zero.mp z with q | q
    · grind
    · exact q
  unfold far at z2
  have pp := (R.lea k).pos
  have : T k (r k) (e k) ≠ 0 := by grind
  grind
/-- a column is worth nothing at a time -/
def Nil (n h : Nat) (T : Nat → Nat → Rat) (B : Nat → Nat) (j : Nat) : Prop := ∀ i, i < h → B i = j → T i (n + h) = 0
theorem Run.nil_step (R : Run n h A T c B e r) {k j : Nat} (z : T k (r k) (n + h) = 0) : Nil n h (T k) (B k) j ↔ Nil n h (T (k + 1)) (B (k + 1)) j := by
  have row : ∀ i, T (k + 1) i (n + h) = if i = r k then 0 else T k i (n + h) := fun i => by
    rw [R.nT]
    unfold pivT
    rw [z]
    by_cases q : i = r k
    · rw [if_pos q, if_pos q]; grind
    · rw [if_neg q, if_neg q]; grind
  have bs : ∀ i, i ≠ r k → B (k + 1) i = B k i := fun i q => by
    rw [R.nB]
    unfold pivB
    rw [if_neg q]
  constructor
  · intro N i hi w
    rw [row]
    by_cases q : i = r k
    · rw [if_pos q]
    · rw [if_neg q]
      exact N i hi (by rw [← bs i q]; exact w)
  · intro N i hi w
    by_cases q : i = r k
    · rw [q]; exact z
    · have m := N i hi (by rw [bs i q]; exact w)
      rw [row, if_neg q] at m
      exact m
theorem Run.nil_far (R : Run n h A T c B e r) {s t j : Nat} (z : ∀ k, s ≤ k → k < t → T k (r k) (n + h) = 0) : ∀ d a, s ≤ a → a + d ≤ t → (Nil n h (T a) (B a) j ↔ Nil n h (T (a + d)) (B (a + d)) j)
  | 0, _, _, _ => Iff.rfl
  | d + 1, a, h1, h2 => (R.nil_far z d a h1 (by omega)).trans (R.nil_step (k := a + d) (z _ (by omega) (by omega)))
theorem Run.false (R : Run n h A T c B e r) : False := by
  -- two times alike
  obtain ⟨s, t, hst, _, es⟩ := pigeon ((n + h) ^ h) (fun k => code (n + h) h (B k)) (fun k _ => code_lt fun i hi => (R.inv k).low i hi)
  have eB : ∀ i, i < h → B s i = B t i := code_inj (fun i hi => (R.inv s).low i hi) (fun i hi => (R.inv t).low i hi) es
  have eT := (R.inv s).same (R.inv t) eB
  have eC : c s (n + h) = c t (n + h) := by
    rw [(R.inv s).cost_at (e := n + h) (by omega) (fun k hk => by omega), (R.inv t).cost_at (e := n + h) (by omega) (fun k hk => by omega)]
    rw [sm_congr fun i hi => show (if n ≤ B s i then T s i (n + h) else 0) = (if n ≤ B t i then T t i (n + h) else 0) by rw [eB i hi, eT i (n + h) hi (by omega)]]
  have z : ∀ k, s ≤ k → k < t → T k (r k) (n + h) = 0 := fun k a b => R.far_zero eC a b
  have eIn : ∀ j, In h (B s) j ↔ In h (B t) j := fun j => by
    constructor
    · rintro ⟨i, hi, w⟩; exact ⟨i, hi, by rw [← eB i hi]; exact w⟩
    · rintro ⟨i, hi, w⟩; exact ⟨i, hi, by rw [eB i hi]; exact w⟩
  -- what is in at one time and not at another one comes in at some time
  have fick : ∀ j a b, s ≤ a → a ≤ t → s ≤ b → b ≤ t → In h (B a) j → ¬ In h (B b) j → ∃ k, s ≤ k ∧ k < t ∧ e k = j := by
    intro j a b a1 a2 b1 b2 ia ib
    by_cases q : In h (B s) j
    · have qt := (eIn j).mp q
      obtain ⟨k, x, y, w⟩ := R.enters (a := b) (t - b) ib (by rw [show b + (t - b) = t by omega]; exact qt)
      exact ⟨k, by omega, by omega, w⟩
    · obtain ⟨k, x, y, w⟩ := R.enters (a := s) (a - s) q (by rw [show s + (a - s) = a by omega]; exact ia)
      exact ⟨k, by omega, by omega, w⟩
  -- what comes in is worth nothing all the time
  have nil : ∀ j k, s ≤ k → k < t → e k = j → ∀ a, s ≤ a → a ≤ t → Nil n h (T a) (B a) j := by
    intro j k k1 k2 ek a a1 a2
    have nk : Nil n h (T k) (B k) j := fun i hi w => absurd (⟨i, hi, by rw [w, ek]⟩ : In h (B k) (e k)) (R.not_in k)
    by_cases q : k ≤ a
    · have := (R.nil_far (j := j) z (a - k) k k1 (by omega)).mp nk
      rwa [show k + (a - k) = a by omega] at this
    · refine (R.nil_far (j := j) z (k - a) a a1 (by omega)).mpr ?_
      rw [show a + (k - a) = k by omega]
      exact nk
  -- the last of all that come in
  obtain ⟨m, m1, m2, mm⟩ := max_ex e s (t - s - 1)
  have m2 : m < t := by omega
  have mm : ∀ k, s ≤ k → k < t → e k ≤ e m := fun k a b => mm k a (by omega)
  -- it goes out, too
  have out : ∃ l, s ≤ l ∧ l < t ∧ B l (r l) = e m := by
    have nm := R.not_in m
    by_cases q : In h (B s) (e m)
    · obtain ⟨k, x, y, w⟩ := R.leaves (a := s) (m - s) q (by rw [show s + (m - s) = m by omega]; exact nm)
      exact ⟨k, x, by omega, w⟩
    · have q2 : ¬ In h (B t) (e m) := fun w => q ((eIn _).mpr w)
      have i1 : In h (B (m + 1)) (e m) := ⟨r m, (R.lea m).lt, by rw [R.nB]; unfold pivB; rw [if_pos rfl]⟩
      obtain ⟨k, x, y, w⟩ := R.leaves (a := m + 1) (t - (m + 1)) i1 (by rw [show m + 1 + (t - (m + 1)) = t by omega]; exact q2)
      exact ⟨k, by omega, by omega, w⟩
  obtain ⟨l, l1, l2, ol⟩ := out
  have Im := R.inv m
  have Il := R.inv l
  have el := (R.ent l).lt
  have kz := Il.zker (e := e l) (by omega)
  have q1 := Im.cost _ kz
  have q2 := Il.cost _ kz
  have q3 : sm (n + h + 1) (fun j => c l j * zv h (T l) (B l) (e l) j) = c l (e l) := by
    rw [zv_sum (fun j => c l j) (by omega) fun i hi => by have := Il.low i hi; omega]
    rw [sm_zero (f := fun i => c l (B l i) * T l i (e l)) fun i hi => by rw [Il.zero i hi]; grind]
    grind
  have q4 : sm (n + h + 1) (fun j => c m j * zv h (T l) (B l) (e l) j) = c m (e l) - sm h (fun i => c m (B l i) * T l i (e l)) := zv_sum (fun j => c m j) (by omega) fun i hi => by have := Il.low i hi; omega
  have neg : c m (e l) - sm h (fun i => c m (B l i) * T l i (e l)) < 0 := by
    have := (R.ent l).neg
    grind
  -- the cost of what comes in at l is not below 0 at m
  have ce : 0 ≤ c m (e l) ∨ e l = e m := by
    by_cases w : e l = e m
    · exact .inr w
    · refine .inl ((R.ent m).first _ ?_)
      have := mm l l1 l2
      omega
  have hq : B l (r l) = e m := ol
  have rl := (R.lea l).lt
  have ne_lm : e l ≠ e m := fun w => R.not_in l ⟨r l, rl, by rw [w]; exact hq⟩
  have ce : 0 ≤ c m (e l) := by
    rcases ce with w | w
    · exact w
    · exact absurd w ne_lm
  -- so some row has a cost above 0 that lessens it
  have pos : 0 < sm h (fun i => c m (B l i) * T l i (e l)) := by grind
  obtain ⟨i, hi, pi⟩ := sm_pos_ex pos
  have pi : 0 < c m (B l i) * T l i (e l) := pi
  have c0 : c m (B l i) ≠ 0 := fun w => by rw [w] at pi; grind
  have nin : ¬ In h (B m) (B l i) := fun ⟨k, hk, w⟩ => c0 (by rw [← w]; exact Im.zero k hk)
  obtain ⟨k, k1, k2, ek⟩ := fick (B l i) l m l1 (by omega) m1 (by omega) ⟨i, hi, rfl⟩ nin
  have le : B l i ≤ e m := by rw [← ek]; exact mm k k1 k2
  have ir : i ≠ r l := fun w => by
    have a1 := (R.ent m).neg
    have a2 := (R.lea l).pos
    rw [w, hq] at pi
    have := Rat.mul_pos (show 0 < - c m (e m) by grind) a2
    grind
  have ne : B l i ≠ e m := fun w => ir (Il.inj hi rl (by rw [w, hq]))
  have cpos : 0 < c m (B l i) := by
    have := (R.ent m).first (B l i) (by omega)
    grind
  have tpos : 0 < T l i (e l) := by
    by_cases w : 0 < T l i (e l)
    · exact w
    · have := Rat.mul_nonneg (Rat.le_of_lt cpos) (show 0 ≤ - T l i (e l) by grind)
      grind
  have ti : T l i (n + h) = 0 := nil _ k k1 k2 ek l l1 (by omega) i hi rfl
  have tr := z l l1 l2
  have fin := (R.lea l).first i hi tpos (by rw [ti, tr]; grind)
  rw [hq] at fin
  omega
end
end SX
set_option linter.all false
namespace SX
/-! ### the turns as they are done -/
def enter (n : Nat) (c : Nat → Rat) : Option Nat := (List.range n).find? fun j => decide (c j < 0)
def own (n h : Nat) (T : Nat → Nat → Rat) (B : Nat → Nat) (e i : Nat) : Rat × Nat × Nat := (T i (n + h) / T i e, B i, i)
def better (n h : Nat) (T : Nat → Nat → Rat) (B : Nat → Nat) (e : Nat) (best : Option (Rat × Nat × Nat)) (i : Nat) : Option (Rat × Nat × Nat) :=
  if 0 < T i e then
    match best with
    | none => some (own n h T B e i)
    | some b => if (own n h T B e i).1 < b.1 ∨ ((own n h T B e i).1 = b.1 ∧ (own n h T B e i).2.1 < b.2.1) then some (own n h T B e i) else some b
  else best
def leaveUp (n h : Nat) (T : Nat → Nat → Rat) (B : Nat → Nat) (e : Nat) : Nat → Option (Rat × Nat × Nat)
  | 0 => none
  | i + 1 => better n h T B e (leaveUp n h T B e i) i
theorem enter_some {n : Nat} {c : Nat → Rat} {e : Nat} (h : enter n c = some e) : Enters n c e := by
  unfold enter at h
  obtain ⟨h1, i, hi, e1, h2⟩ := List.find?_eq_some_iff_getElem.mp h
  rw [List.length_range] at hi
  rw [List.getElem_range] at e1
  subst e1
  refine ⟨hi, of_decide_eq_true h1, fun j hj => ?_⟩
  have q := h2 j hj
  rw [List.getElem_range] at q
  have q : ¬ c j < 0 := by simpa using q
  grind
theorem enter_none {n : Nat} {c : Nat → Rat} (h : enter n c = none) : ∀ j, j < n → 0 ≤ c j := by
  intro j hj
  unfold enter at h
  have q := List.find?_eq_none.mp h j (List.mem_range.mpr hj)
  have q : ¬ c j < 0 := by simpa using q
  grind
/-- what best is behind the first rows -/
structure Best (n h : Nat) (T : Nat → Nat → Rat) (B : Nat → Nat) (e k : Nat) (r : Nat) : Prop where
  lt : r < k
  pos : 0 < T r e
  least : ∀ i, i < k → 0 < T i e → T r (n + h) / T r e ≤ T i (n + h) / T i e
  first : ∀ i, i < k → 0 < T i e → T i (n + h) / T i e = T r (n + h) / T r e → B r ≤ B i
theorem leaveUp_spec (n h : Nat) (T : Nat → Nat → Rat) (B : Nat → Nat) (e : Nat) : ∀ k, match leaveUp n h T B e k with
    | none => ∀ i, i < k → ¬ 0 < T i e
    | some b => b = own n h T B e b.2.2 ∧ Best n h T B e k b.2.2
  | 0 => fun i hi => by omega
  | k + 1 => by
    have ih := leaveUp_spec n h T B e k
    show match better n h T B e (leaveUp n h T B e k) k with
      | none => ∀ i, i < k + 1 → ¬ 0 < T i e
      | some b => b = own n h T B e b.2.2 ∧ Best n h T B e (k + 1) b.2.2
    generalize leaveUp n h T B e k = o at ih
    unfold better
    by_cases p : 0 < T k e
    · rw [if_pos p]
      cases o with
      | none =>
        have ih : ∀ i, i < k → ¬ 0 < T i e := ih
        refine ⟨rfl, show k < k + 1 by omega, p, fun i hi pi => ?_, fun i hi pi _ => ?_⟩
        · have : i = k := by
            by_cases z : i < k
            · exact absurd pi (ih i z)
            · omega
          rw [this]; exact Rat.le_refl
        · have : i = k := by
            by_cases z : i < k
            · exact absurd pi (ih i z)
            · omega
          rw [this]; exact Nat.le_refl _
      | some b =>
        obtain ⟨be, bl, bp, bm, bf⟩ := (show b = own n h T B e b.2.2 ∧ Best n h T B e k b.2.2 from ih)
        have b1 : b.1 = T b.2.2 (n + h) / T b.2.2 e := by rw [be]; rfl
        have b2 : b.2.1 = B b.2.2 := by rw [be]; rfl
        show match (if T k (n + h) / T k e < b.1 ∨ (T k (n + h) / T k e = b.1 ∧ B k < b.2.1) then some (own n h T B e k) else some b) with
          | none => ∀ i, i < k + 1 → ¬ 0 < T i e
          | some b => b = own n h T B e b.2.2 ∧ Best n h T B e (k + 1) b.2.2
        by_cases q : T k (n + h) / T k e < b.1 ∨ (T k (n + h) / T k e = b.1 ∧ B k < b.2.1)
        · rw [if_pos q]
          rw [b1, b2] at q
          refine ⟨rfl, show k < k + 1 by omega, p, fun i hi pi => ?_, fun i hi pi ei => ?_⟩
          · show T k (n + h) / T k e ≤ T i (n + h) / T i e
            by_cases z : i < k
            · have := bm i z pi
              grind
            · rw [show i = k by omega]; exact Rat.le_refl
          · show B k ≤ B i
            have ei : T i (n + h) / T i e = T k (n + h) / T k e := ei
            by_cases z : i < k
            · have m := bm i z pi
              have f := bf i z pi
              rcases q with q | ⟨q, q2⟩
              · exact absurd q (by grind)
              · have := f (by grind)
                omega
            · rw [show i = k by omega]; exact Nat.le_refl _
        · rw [if_neg q]
          rw [b1, b2] at q
          refine ⟨be, show b.2.2 < k + 1 by omega, bp, fun i hi pi => ?_, fun i hi pi ei => ?_⟩
          · by_cases z : i < k
            · exact bm i z pi
            · rw [show i = k by omega]; grind
          · by_cases z : i < k
            · exact bf i z pi ei
            · have zi : i = k := by omega
              subst zi
              by_cases w : B i < B b.2.2
              · exact absurd (.inr ⟨ei, w⟩) q
              · omega
    · rw [if_neg p]
      cases o with
      | none =>
        have ih : ∀ i, i < k → ¬ 0 < T i e := ih
        intro i hi
        by_cases z : i < k
        · exact ih i z
        · rw [show i = k by omega]; exact p
      | some b =>
        obtain ⟨be, bl, bp, bm, bf⟩ := (show b = own n h T B e b.2.2 ∧ Best n h T B e k b.2.2 from ih)
        refine ⟨be, show b.2.2 < k + 1 by omega, bp, fun i hi pi => ?_, fun i hi pi ei => ?_⟩
        · by_cases z : i < k
          · exact bm i z pi
          · rw [show i = k by omega] at pi; exact absurd pi p
        · by_cases z : i < k
          · exact bf i z pi ei
          · rw [show i = k by omega] at pi; exact absurd pi p
theorem leaveUp_some {n h : Nat} {T : Nat → Nat → Rat} {B : Nat → Nat} {e : Nat} (p : ∃ i, i < h ∧ 0 < T i e) :
    ∃ r, leaveUp n h T B e h = some (own n h T B e r) ∧ Leaves n h T B e r := by
  have q := leaveUp_spec n h T B e h
  cases z : leaveUp n h T B e h with
  | none =>
    rw [z] at q
    obtain ⟨i, hi, pi⟩ := p
    exact absurd pi (q i hi)
  | some b =>
    rw [z] at q
    obtain ⟨be, bl, bp, bm, bf⟩ := (show b = own n h T B e b.2.2 ∧ Best n h T B e h b.2.2 from q)
    exact ⟨b.2.2, by rw [← be], bl, bp, bm, bf⟩
def leave (n h : Nat) (T : Nat → Nat → Rat) (B : Nat → Nat) (e : Nat) : Nat := match leaveUp n h T B e h with
  | none => 0
  | some b => b.2.2
theorem leave_spec {n h : Nat} {T : Nat → Nat → Rat} {B : Nat → Nat} {e : Nat} (p : ∃ i, i < h ∧ 0 < T i e) : Leaves n h T B e (leave n h T B e) := by
  obtain ⟨r, h1, h2⟩ := leaveUp_some (n := n) (B := B) p
  unfold leave
  rw [h1]
  exact h2
structure Tab where
  T : Nat → Nat → Rat
  c : Nat → Rat
  B : Nat → Nat
def Tab.next (n h : Nat) (S : Tab) : Tab := match enter n S.c with
  | none => S
  | some e => ⟨pivT S.T (leave n h S.T S.B e) e, pivC S.T S.c (leave n h S.T S.B e) e, pivB S.B (leave n h S.T S.B e) e⟩
def Tab.up (n h : Nat) (S : Tab) : Nat → Tab
  | 0 => S
  | k + 1 => (Tab.up n h S k).next n h
theorem Tab.next_some {n h e : Nat} {S : Tab} (q : enter n S.c = some e) : S.next n h = ⟨pivT S.T (leave n h S.T S.B e) e, pivC S.T S.c (leave n h S.T S.B e) e, pivB S.B (leave n h S.T S.B e) e⟩ := by
  unfold Tab.next
  rw [q]
theorem Tab.next_inv {n h : Nat} {A : Nat → Nat → Rat} {S : Tab} (I : Inv n h A S.T S.c S.B) : Inv n h A (S.next n h).T (S.next n h).c (S.next n h).B := by
  cases q : enter n S.c with
  | none =>
    unfold Tab.next
    rw [q]
    exact I
  | some e =>
    rw [Tab.next_some q]
    have E := enter_some q
    have L := leave_spec (n := n) (B := S.B) (I.some_pos E.lt E.neg)
    exact I.piv L.lt (by have := E.lt; omega) L.pos L.least
theorem Tab.up_inv {n h : Nat} {A : Nat → Nat → Rat} {S : Tab} (I : Inv n h A S.T S.c S.B) : ∀ k, Inv n h A (S.up n h k).T (S.up n h k).c (S.up n h k).B
  | 0 => I
  | k + 1 => Tab.next_inv (Tab.up_inv I k)
/-- it comes to an end -/
theorem Tab.ends {n h : Nat} {A : Nat → Nat → Rat} {S : Tab} (I : Inv n h A S.T S.c S.B) : ∃ N, enter n (S.up n h N).c = none := by
  by_cases q : ∃ N, enter n (S.up n h N).c = none
  · exact q
  · exfalso
    have ex : ∀ k, ∃ e, enter n (S.up n h k).c = some e := fun k => by
      cases z : enter n (S.up n h k).c with
      | none => exact absurd ⟨k, z⟩ q
      | some e => exact ⟨e, rfl⟩
    let e : Nat → Nat := fun k => (ex k).choose
    have he : ∀ k, enter n (S.up n h k).c = some (e k) := fun k => (ex k).choose_spec
    have J := Tab.up_inv I
    have nx : ∀ k, S.up n h (k + 1) = ⟨pivT (S.up n h k).T (leave n h (S.up n h k).T (S.up n h k).B (e k)) (e k), pivC (S.up n h k).T (S.up n h k).c (leave n h (S.up n h k).T (S.up n h k).B (e k)) (e k), pivB (S.up n h k).B (leave n h (S.up n h k).T (S.up n h k).B (e k)) (e k)⟩ := fun k => Tab.next_some (he k)
    exact Run.false (n := n) (h := h) (A := A) (T := fun k => (S.up n h k).T) (c := fun k => (S.up n h k).c) (B := fun k => (S.up n h k).B) (e := e) (r := fun k => leave n h (S.up n h k).T (S.up n h k).B (e k))
      ⟨J, fun k => enter_some (he k), fun k => leave_spec ((J k).some_pos (enter_some (he k)).lt (enter_some (he k)).neg), fun k => by rw [nx k], fun k => by rw [nx k], fun k => by rw [nx k]⟩
end SX
set_option linter.all false
namespace SX
/-! ### the first tableau, and what the last one tells -/
def sg (goal : Nat → Int) (i : Nat) : Int := if 0 ≤ goal i then 1 else -1
def A0 (n h : Nat) (col : Nat → Nat → Int) (goal : Nat → Int) : Nat → Nat → Rat := fun i j =>
  if j < n then ((sg goal i * col j i : Int) : Rat) else if j < n + h then (if j - n = i then 1 else 0) else ((sg goal i * goal i : Int) : Rat)
def c0 (n h : Nat) (col : Nat → Nat → Int) (goal : Nat → Int) : Nat → Rat := fun j => if n ≤ j ∧ j < n + h then 0 else - sm h (fun i => A0 n h col goal i j)
def tab0 (n h : Nat) (col : Nat → Nat → Int) (goal : Nat → Int) : Tab := ⟨A0 n h col goal, c0 n h col goal, fun i => n + i⟩
theorem sg_sq (goal : Nat → Int) (i : Nat) : sg goal i * sg goal i = 1 := by
  unfold sg
  split <;> rfl
theorem sg_abs (goal : Nat → Int) (i : Nat) : 0 ≤ sg goal i * goal i := by
  unfold sg
  split <;> omega
section
variable {n h : Nat} {col : Nat → Nat → Int} {goal : Nat → Int}
theorem A0_col {i j : Nat} (hj : j < n) : A0 n h col goal i j = ((sg goal i * col j i : Int) : Rat) := if_pos hj
theorem A0_art {i k : Nat} (hk : k < h) : A0 n h col goal i (n + k) = if k = i then 1 else 0 := by
  unfold A0
  rw [if_neg (by omega), if_pos (by omega), Nat.add_sub_cancel_left]
theorem A0_goal {i : Nat} : A0 n h col goal i (n + h) = ((sg goal i * goal i : Int) : Rat) := by
  unfold A0
  rw [if_neg (by omega), if_neg (by omega)]
theorem tab0_inv : Inv n h (A0 n h col goal) (tab0 n h col goal).T (tab0 n h col goal).c (tab0 n h col goal).B where
  ker := fun z => Iff.rfl
  cost := fun z hz => by
    show sm (n + h + 1) (fun j => c0 n h col goal j * z j) = sm h (fun k => z (n + k))
    have e0 : sm h (fun i => sm (n + h + 1) (fun j => A0 n h col goal i j * z j)) = 0 := sm_zero fun i hi => hz i hi
    rw [sm_swap] at e0
    have e1 : sm (n + h + 1) (fun j => sm h (fun i => A0 n h col goal i j * z j)) = sm (n + h + 1) (fun j => (if n ≤ j ∧ j < n + h then z j else 0) - c0 n h col goal j * z j) := sm_congr fun j hj => by
      rw [sm_congr (g := fun i => z j * A0 n h col goal i j) fun i _ => by grind, sm_mul]
      unfold c0
      by_cases q : n ≤ j ∧ j < n + h
      · rw [if_pos q, if_pos q]
        obtain ⟨k, rfl⟩ : ∃ k, j = n + k := ⟨j - n, by omega⟩
        rw [sm_one (k := k) (by omega) fun i hi hne => by rw [A0_art (by omega), if_neg (fun w => hne w.symm)], A0_art (by omega), if_pos rfl]
        grind
      · rw [if_neg q, if_neg q]; grind
    rw [e1, sm_sub] at e0
    have e2 : sm (n + h + 1) (fun j => if n ≤ j ∧ j < n + h then z j else 0) = sm h (fun k => z (n + k)) := by
      show sm (n + h) (fun j => if n ≤ j ∧ j < n + h then z j else 0) + (if n ≤ n + h ∧ n + h < n + h then z (n + h) else 0) = _
      rw [if_neg (by omega), sm_split]
      rw [sm_zero (n := n) fun i hi => by rw [if_neg (by omega)]]
      rw [sm_congr (g := fun k => z (n + k)) fun k hk => by rw [if_pos (by omega)]]
      grind
    rw [e2] at e0
    grind
  unit := fun i k hi hk => by
    show A0 n h col goal i (n + k) = _
    rw [A0_art hk]
    by_cases q : k = i
    · rw [if_pos q, if_pos q.symm]
    · rw [if_neg q, if_neg (fun w => q w.symm)]
  zero := fun k hk => by
    show c0 n h col goal (n + k) = 0
    unfold c0
    rw [if_pos (by omega)]
  low := fun k hk => by show n + k < n + h; omega
  above := fun i hi => by
    show 0 ≤ A0 n h col goal i (n + h)
    rw [A0_goal]
    have := sg_abs goal i
    exact_mod_cast this
variable {T : Nat → Nat → Rat} {c : Nat → Rat} {B : Nat → Nat}
/-- how much of each column there is -/
def parts (n h : Nat) (T : Nat → Nat → Rat) (B : Nat → Nat) : Nat → Rat := fun j => sm h (fun i => if B i = j then T i (n + h) else 0)
def prices (n : Nat) (goal : Nat → Int) (c : Nat → Rat) : Nat → Rat := fun k => (sg goal k : Rat) * (1 - c (n + k))
theorem Inv.goal_le (I : Inv n h (A0 n h col goal) T c B) : c (n + h) ≤ 0 := by
  rw [I.cost_at (e := n + h) (by omega) (fun k hk => by omega)]
  have := sm_nonneg (n := h) (f := fun i => if n ≤ B i then T i (n + h) else 0) fun i hi => by
    show 0 ≤ if n ≤ B i then T i (n + h) else 0
    split
    · exact I.above i hi
    · exact Rat.le_refl
  grind
theorem parts_nonneg (I : Inv n h (A0 n h col goal) T c B) (j : Nat) : 0 ≤ parts n h T B j := sm_nonneg fun i hi => by
  show 0 ≤ if B i = j then T i (n + h) else 0
  split
  · exact I.above i hi
  · exact Rat.le_refl
theorem parts_come (I : Inv n h (A0 n h col goal) T c B) (z : c (n + h) = 0) : ∀ k, k < h → sm n (fun j => (col j k : Rat) * parts n h T B j) = (goal k : Rat) := by
  intro k hk
  have ca := I.cost_at (e := n + h) (by omega) (fun k hk => by omega)
  have art : ∀ i, i < h → (if n ≤ B i then T i (n + h) else 0) = 0 := sm_all_zero (fun i hi => by
    show 0 ≤ if n ≤ B i then T i (n + h) else 0
    split
    · exact I.above i hi
    · exact Rat.le_refl) (by grind)
  have q := I.zker (e := n + h) (by omega) k hk
  have zl : ∀ j, j < n → zv h T B (n + h) j = - parts n h T B j := fun j hj => by
    unfold zv parts
    rw [if_neg (by omega)]; grind
  have za : ∀ i, i < h → zv h T B (n + h) (n + i) = 0 := fun i hi => by
    unfold zv
    rw [if_neg (by omega), sm_zero fun m hm => by
      by_cases w : B m = n + i
      · rw [if_pos w]
        have := art m hm
        rw [if_pos (by omega)] at this
        exact this
      · rw [if_neg w]]
    grind
  have zg : zv h T B (n + h) (n + h) = 1 := by
    unfold zv
    rw [if_pos rfl, sm_zero fun m hm => by rw [if_neg (by have := I.low m hm; omega)]]
    grind
  have q : sm (n + h) (fun j => A0 n h col goal k j * zv h T B (n + h) j) + A0 n h col goal k (n + h) * zv h T B (n + h) (n + h) = 0 := q
  rw [sm_split, zg, A0_goal] at q
  rw [sm_zero (n := h) fun i hi => by rw [za i hi]; grind] at q
  rw [sm_congr (g := fun j => (- (sg goal k : Rat)) * ((col j k : Rat) * parts n h T B j)) fun j hj => by rw [zl j hj, A0_col hj]; simp only [Rat.intCast_mul]; grind, sm_mul] at q
  have s := sg_sq goal k
  have s2 : (sg goal k : Rat) * (sg goal k : Rat) = 1 := by exact_mod_cast s
  simp only [Rat.intCast_mul] at q
  have this : (sg goal k : Rat) * _ = (sg goal k : Rat) * _ := congrArg (fun t => (sg goal k : Rat) * t) q
  grind
/-- what a column costs, by prices -/
theorem price_col (I : Inv n h (A0 n h col goal) T c B) {e : Nat} (he : e < n + h + 1) (ha : ∀ k, k < h → e ≠ n + k) : c e = - sm h (fun k => (1 - c (n + k)) * A0 n h col goal k e) := by
  have kz : Ker (n + h + 1) h (A0 n h col goal) (zv h (A0 n h col goal) (fun i => n + i) e) := by
    have J : Inv n h (A0 n h col goal) (A0 n h col goal) (c0 n h col goal) (fun i => n + i) := tab0_inv
    exact J.zker he
  have q := I.cost _ kz
  rw [zv_sum (fun j => c j) he fun i hi => by omega] at q
  have q2 : sm h (fun k => zv h (A0 n h col goal) (fun i => n + i) e (n + k)) = sm h (fun k => - A0 n h col goal k e) := sm_congr fun k hk => by
    unfold zv
    rw [if_neg (fun z => ha k hk z.symm), sm_one (k := k) hk fun i hi hne => by rw [if_neg (show ¬ n + i = n + k by omega)], if_pos rfl]
    grind
  rw [q2] at q
  rw [sm_congr (g := fun k => A0 n h col goal k e - c (n + k) * A0 n h col goal k e) fun k hk => by grind, sm_sub]
  rw [sm_neg] at q
  grind
theorem prices_bar (I : Inv n h (A0 n h col goal) T c B) (q : ∀ j, j < n → 0 ≤ c j) : ∀ j, j < n → sm h (fun k => prices n goal c k * (col j k : Rat)) ≤ 0 := by
  intro j hj
  have p := price_col I (e := j) (by omega) (fun k hk => by omega)
  have := q j hj
  rw [sm_congr (g := fun k => (1 - c (n + k)) * A0 n h col goal k j) fun k hk => by unfold prices; rw [A0_col hj]; simp only [Rat.intCast_mul]; grind]
  grind
theorem prices_goal (I : Inv n h (A0 n h col goal) T c B) (z : c (n + h) ≠ 0) : 0 < sm h (fun k => prices n goal c k * (goal k : Rat)) := by
  have p := price_col I (e := n + h) (by omega) (fun k hk => by omega)
  have := I.goal_le
  rw [sm_congr (g := fun k => (1 - c (n + k)) * A0 n h col goal k (n + h)) fun k hk => by unfold prices; rw [A0_goal]; simp only [Rat.intCast_mul]; grind]
  grind
end
end SX
set_option linter.all false
namespace SX
/-! ### how great numbers are -/
def smI : Nat → (Nat → Int) → Int
  | 0, _ => 0
  | n + 1, f => smI n f + f n
theorem sm_cast (n : Nat) (f : Nat → Int) : sm n (fun i => (f i : Rat)) = (smI n f : Rat) := by
  induction n with
  | zero => rfl
  | succ n ih =>
    show sm n (fun i => (f i : Rat)) + (f n : Rat) = ((smI n f + f n : Int) : Rat)
    rw [ih, Rat.intCast_add]
theorem abs_add (a b : Int) : (a + b).natAbs ≤ a.natAbs + b.natAbs := Int.natAbs_add_le a b
theorem abs_sub (a b : Int) : (a - b).natAbs ≤ a.natAbs + b.natAbs := by
  have := Int.natAbs_add_le a (-b)
  rw [Int.natAbs_neg] at this
  rw [Int.sub_eq_add_neg]
  exact this
theorem smI_le {n m : Nat} {f : Nat → Int} (h : ∀ i, i < n → (f i).natAbs ≤ m) : (smI n f).natAbs ≤ n * m := by
  induction n with
  | zero => show (0 : Int).natAbs ≤ _; simp
  | succ n ih =>
    show (smI n f + f n).natAbs ≤ _
    have h1 := ih fun i hi => h i (by omega)
    have h2 := h n (by omega)
    have h3 := abs_add (smI n f) (f n)
    rw [Nat.succ_mul]
    omega
theorem sm_front (n : Nat) (f : Nat → Rat) : sm (n + 1) f = f 0 + sm n (fun j => f (j + 1)) := by
  induction n with
  | zero => show 0 + f 0 = f 0 + 0; grind
  | succ n ih =>
    show sm (n + 1) f + f (n + 1) = f 0 + (sm n (fun j => f (j + 1)) + f (n + 1))
    rw [ih]; grind
def DD : Nat → Nat → Nat
  | 0, _ => 1
  | n + 1, M => (n + 1) * M * DD n (2 * M * M)
def skip (p k : Nat) : Nat := if k < p then k else k + 1
theorem mul_abs_le {a b : Int} {x y : Nat} (ha : a.natAbs ≤ x) (hb : b.natAbs ≤ y) : (a * b).natAbs ≤ x * y := by
  rw [Int.natAbs_mul]
  exact Nat.mul_le_mul ha hb
theorem solved : ∀ (n : Nat) (a : Nat → Nat → Int) (M : Nat), 1 ≤ M → (∀ i j, i < n → j < n → (a i j).natAbs ≤ M) →
    (∀ z : Nat → Rat, (∀ i, i < n → sm n (fun j => (a i j : Rat) * z j) = 0) → ∀ j, j < n → z j = 0) →
    ∃ d : Int, d ≠ 0 ∧ d.natAbs ≤ DD n M ∧ ∀ (b : Nat → Int), (∀ i, i < n → (b i).natAbs ≤ M) → ∀ t : Nat → Rat, (∀ i, i < n → sm n (fun j => (a i j : Rat) * t j) = (b i : Rat)) →
      ∀ j, j < n → ∃ u : Int, (d : Rat) * t j = (u : Rat) ∧ u.natAbs ≤ DD n M
  | 0, _, _, _, _, _ => ⟨1, by decide, by show 1 ≤ 1; omega, fun _ _ _ _ j hj => by omega⟩
  | n + 1, a, M, hM, hA, inj => by
    -- a row that asks for the first one
    have ep : ∃ p, p < n + 1 ∧ a p 0 ≠ 0 := by
      by_cases q : ∃ p, p < n + 1 ∧ a p 0 ≠ 0
      · exact q
      · exfalso
        have := inj (fun j => if j = 0 then 1 else 0) (fun i hi => by
          rw [sm_one (k := 0) (by omega) fun j _ hne => by rw [if_neg hne]; grind, if_pos rfl]
          have : a i 0 = 0 := by
            by_cases w : a i 0 = 0
            · exact w
            · exact absurd ⟨i, hi, w⟩ q
          rw [this]
          show (0 : Rat) * 1 = 0
          grind) 0 (by omega)
        simp at this
    obtain ⟨p, hp, np⟩ := ep
    have npQ : (a p 0 : Rat) ≠ 0 := by exact_mod_cast np
    have skip_lt : ∀ k, k < n → skip p k < n + 1 := fun k hk => by
      unfold skip; split <;> omega
    have skip_all : ∀ i, i < n + 1 → i ≠ p → ∃ k, k < n ∧ skip p k = i := fun i hi hne => by
      by_cases w : i < p
      · exact ⟨i, by omega, by unfold skip; rw [if_pos w]⟩
      · exact ⟨i - 1, by omega, by unfold skip; rw [if_neg (by omega)]; omega⟩
    let a' : Nat → Nat → Int := fun k j => a p 0 * a (skip p k) (j + 1) - a (skip p k) 0 * a p (j + 1)
    have row' : ∀ (k : Nat) (z : Nat → Rat), sm n (fun j => (a' k j : Rat) * z j) = (a p 0 : Rat) * sm n (fun j => (a (skip p k) (j + 1) : Rat) * z j) - (a (skip p k) 0 : Rat) * sm n (fun j => (a p (j + 1) : Rat) * z j) := fun k z => by
      rw [← sm_mul, ← sm_mul, ← sm_sub]
      refine sm_congr fun j _ => ?_
      show ((a p 0 * a (skip p k) (j + 1) - a (skip p k) 0 * a p (j + 1) : Int) : Rat) * z j = _
      simp only [Rat.intCast_sub, Rat.intCast_mul]
      grind
    have b2 : ∀ x y z w : Int, x.natAbs ≤ M → y.natAbs ≤ M → z.natAbs ≤ M → w.natAbs ≤ M → (x * y - z * w).natAbs ≤ 2 * M * M := fun x y z w hx hy hz hw => by
      have h1 := mul_abs_le hx hy
      have h2 := mul_abs_le hz hw
      have h3 := abs_sub (x * y) (z * w)
      rw [show 2 * M * M = M * M + M * M by rw [Nat.mul_assoc, Nat.two_mul]]
      omega
    obtain ⟨d', nd, ld, hd⟩ := solved n a' (2 * M * M) (by
        have : 1 * 1 ≤ M * M := Nat.mul_le_mul hM hM
        rw [Nat.mul_assoc]; omega) (fun i j hi hj => b2 _ _ _ _ (hA p 0 hp (by omega)) (hA _ _ (skip_lt i hi) (by omega)) (hA _ _ (skip_lt i hi) (by omega)) (hA p _ hp (by omega))) (fun z hz => by
        have := inj (fun j => match j with | 0 => - (sm n (fun j => (a p (j + 1) : Rat) * z j)) / (a p 0 : Rat) | j + 1 => z j) (fun i hi => by
          rw [sm_front]
          show (a i 0 : Rat) * (- (sm n (fun j => (a p (j + 1) : Rat) * z j)) / (a p 0 : Rat)) + sm n (fun j => (a i (j + 1) : Rat) * z j) = 0
          by_cases w : i = p
          · rw [w]; grind
          · obtain ⟨k, hk, ek⟩ := skip_all i hi w
            have q := hz k hk
            rw [row', ek] at q
            grind)
        intro j hj
        exact this (j + 1) (by omega))
    refine ⟨d' * a p 0, Int.mul_ne_zero nd np, ?_, fun b hb t ht => ?_⟩
    · have h1 := mul_abs_le ld (hA p 0 hp (by omega))
      show _ ≤ (n + 1) * M * DD n (2 * M * M)
      refine Nat.le_trans h1 ?_
      rw [Nat.mul_comm (DD n (2 * M * M)) M]
      refine Nat.mul_le_mul_right _ ?_
      exact Nat.le_mul_of_pos_left M (by omega)
    · have q := hd (fun k => a p 0 * b (skip p k) - a (skip p k) 0 * b p) (fun k hk => b2 _ _ _ _ (hA p 0 hp (by omega)) (hb _ (skip_lt k hk)) (hA _ _ (skip_lt k hk) (by omega)) (hb p hp)) (fun j => t (j + 1)) (fun k hk => by
        rw [row']
        have h1 := ht _ (skip_lt k hk)
        have h2 := ht p hp
        rw [sm_front] at h1 h2
        simp only [Rat.intCast_sub, Rat.intCast_mul]
        grind)
      intro j hj
      cases j with
      | succ j =>
        obtain ⟨u, hu, lu⟩ := q j (by omega)
        refine ⟨a p 0 * u, ?_, ?_⟩
        · simp only [Rat.intCast_mul]
          grind
        · have h1 := mul_abs_le (hA p 0 hp (by omega)) lu
          show _ ≤ (n + 1) * M * DD n (2 * M * M)
          refine Nat.le_trans h1 (Nat.mul_le_mul_right _ ?_)
          exact Nat.le_mul_of_pos_left M (by omega)
      | zero =>
        let u' : Nat → Int := fun j => if hj : j < n then (q j hj).choose else 0
        have hu' : ∀ j, j < n → (d' : Rat) * t (j + 1) = (u' j : Rat) ∧ (u' j).natAbs ≤ DD n (2 * M * M) := fun j hj => by
          have := (q j hj).choose_spec
          show (d' : Rat) * t (j + 1) = ((if hj : j < n then (q j hj).choose else 0 : Int) : Rat) ∧ (if hj : j < n then (q j hj).choose else 0 : Int).natAbs ≤ _
          rw [dif_pos hj]
          exact this
        refine ⟨d' * b p - smI n (fun j => a p (j + 1) * u' j), ?_, ?_⟩
        · have h2 := ht p hp
          rw [sm_front] at h2
          have h3 : (smI n (fun j => a p (j + 1) * u' j) : Rat) = (d' : Rat) * sm n (fun j => (a p (j + 1) : Rat) * t (j + 1)) := by
            rw [← sm_cast, ← sm_mul]
            refine sm_congr fun j hj => ?_
            rw [Rat.intCast_mul, ← (hu' j hj).1]; grind
          simp only [Rat.intCast_sub, Rat.intCast_mul]
          rw [h3]
          grind
        · have h1 := mul_abs_le ld (hb p hp)
          have h2 : (smI n (fun j => a p (j + 1) * u' j)).natAbs ≤ n * (M * DD n (2 * M * M)) := smI_le fun j hj => mul_abs_le (hA p _ hp (by omega)) (hu' j hj).2
          have h3 := abs_sub (d' * b p) (smI n (fun j => a p (j + 1) * u' j))
          show _ ≤ (n + 1) * M * DD n (2 * M * M)
          rw [Nat.mul_comm (DD n (2 * M * M)) M] at h1
          rw [Nat.mul_assoc, Nat.succ_mul]
          omega
/-- a fraction's size by any way to write it -/
theorem size_of {q : Rat} {d u : Int} (hd : d ≠ 0) (e : (d : Rat) * q = (u : Rat)) : q.num.natAbs ≤ u.natAbs ∧ q.den ≤ d.natAbs := by
  have hdQ : (d : Rat) ≠ 0 := by exact_mod_cast hd
  have e2 : Rat.divInt u d = q := by
    rw [Rat.divInt_eq_div]
    grind
  obtain ⟨m, hm, h1, h2⟩ := Rat.divInt_num_den (n := u) (d := d) (n' := q.num) (d' := q.den) (z' := q.den_nz) (c := q.reduced) hd e2
  have m1 : 1 ≤ m.natAbs := by omega
  constructor
  · rw [h1, Int.natAbs_mul]
    exact Nat.le_mul_of_pos_right _ m1
  · rw [h2, Int.natAbs_mul]
    exact Nat.le_mul_of_pos_right _ m1
section
variable {n h M : Nat} {col : Nat → Nat → Int} {goal : Nat → Int} {T : Nat → Nat → Rat} {c : Nat → Rat} {B : Nat → Nat}
def AI (n h : Nat) (col : Nat → Nat → Int) (goal : Nat → Int) : Nat → Nat → Int := fun i j =>
  if j < n then sg goal i * col j i else if j < n + h then (if j - n = i then 1 else 0) else sg goal i * goal i
theorem AI_eq (i j : Nat) : A0 n h col goal i j = (AI n h col goal i j : Rat) := by
  unfold A0 AI
  split
  · rfl
  · split
    · split <;> rfl
    · rfl
theorem AI_le (hM : 1 ≤ M) (hc : ∀ j i, j < n → i < h → (col j i).natAbs ≤ M) (hg : ∀ i, i < h → (goal i).natAbs ≤ M) {i j : Nat} (hi : i < h) : (AI n h col goal i j).natAbs ≤ M := by
  have s : (sg goal i).natAbs = 1 := by
    unfold sg; split <;> rfl
  unfold AI
  split
  · rename_i hj
    rw [Int.natAbs_mul, s, Nat.one_mul]
    exact hc j i hj hi
  · split
    · split
      · show 1 ≤ M; exact hM
      · show 0 ≤ M; omega
    · rw [Int.natAbs_mul, s, Nat.one_mul]
      exact hg i hi
/-- all of a tableau over one number -/
theorem Inv.over (I : Inv n h (A0 n h col goal) T c B) (hM : 1 ≤ M) (hc : ∀ j i, j < n → i < h → (col j i).natAbs ≤ M) (hg : ∀ i, i < h → (goal i).natAbs ≤ M) :
    ∃ d : Int, d ≠ 0 ∧ d.natAbs ≤ DD h M ∧ ∀ e, e < n + h + 1 → ∀ i, i < h → ∃ u : Int, (d : Rat) * T i e = (u : Rat) ∧ u.natAbs ≤ DD h M := by
  obtain ⟨d, nd, ld, hd⟩ := solved h (fun k i => AI n h col goal k (B i)) M hM (fun i j hi hj => AI_le hM hc hg hi) (fun z hz => by
    -- z put at the columns that stand for rows
    have kz : Ker (n + h + 1) h (A0 n h col goal) (fun j => sm h (fun i => if B i = j then z i else 0)) := fun k hk => by
      rw [sm_congr (g := fun j => sm h (fun i => A0 n h col goal k j * (if B i = j then z i else 0))) fun j _ => by rw [sm_mul], sm_swap]
      rw [← hz k hk]
      refine sm_congr fun i hi => ?_
      rw [sm_one (k := B i) (by have := I.low i hi; omega) fun j _ hne => by rw [if_neg (fun w => hne w.symm)]; grind, if_pos rfl, AI_eq]
    intro j hj
    have q := (I.ker _).mpr kz j hj
    rw [sm_congr (g := fun m => sm h (fun i => T j m * (if B i = m then z i else 0))) fun m _ => by rw [sm_mul], sm_swap] at q
    rw [sm_congr (g := fun i => (if j = i then 1 else 0) * z i) fun i hi => by
      rw [sm_one (k := B i) (by have := I.low i hi; omega) fun j _ hne => by rw [if_neg (fun w => hne w.symm)]; grind, if_pos rfl, I.unit j i hj hi]] at q
    rw [sm_one (k := j) hj fun i hi hne => by rw [if_neg (fun w => hne w.symm)]; grind, if_pos rfl] at q
    grind)
  refine ⟨d, nd, ld, fun e he i hi => ?_⟩
  exact hd (fun k => AI n h col goal k e) (fun k hk => AI_le hM hc hg hk) (fun i => T i e) (fun k hk => by
    have q := I.zker he k hk
    rw [zv_sum (fun j => A0 n h col goal k j) he fun i hi => by have := I.low i hi; omega, AI_eq] at q
    rw [sm_congr (g := fun i => A0 n h col goal k (B i) * T i e) fun i hi => by rw [AI_eq]]
    grind) i hi
theorem Inv.cost_over (I : Inv n h (A0 n h col goal) T c B) (hM : 1 ≤ M) (hc : ∀ j i, j < n → i < h → (col j i).natAbs ≤ M) (hg : ∀ i, i < h → (goal i).natAbs ≤ M) :
    ∃ d : Int, d ≠ 0 ∧ d.natAbs ≤ DD h M ∧ ∀ e, e < n + h + 1 → ∃ u : Int, (d : Rat) * c e = (u : Rat) ∧ u.natAbs ≤ (h + 1) * DD h M := by
  obtain ⟨d, nd, ld, hd⟩ := I.over hM hc hg
  refine ⟨d, nd, ld, fun e he => ?_⟩
  let u : Nat → Int := fun i => if hi : i < h then (hd e he i hi).choose else 0
  have hu : ∀ i, i < h → (d : Rat) * T i e = (u i : Rat) ∧ (u i).natAbs ≤ DD h M := fun i hi => by
    have := (hd e he i hi).choose_spec
    show (d : Rat) * T i e = ((if hi : i < h then (hd e he i hi).choose else 0 : Int) : Rat) ∧ (if hi : i < h then (hd e he i hi).choose else 0 : Int).natAbs ≤ _
    rw [dif_pos hi]
    exact this
  have su : (d : Rat) * sm h (fun i => if n ≤ B i then T i e else 0) = (smI h (fun i => if n ≤ B i then u i else 0) : Rat) := by
    rw [← sm_cast, ← sm_mul]
    refine sm_congr fun i hi => ?_
    by_cases w : n ≤ B i
    · rw [if_pos w, if_pos w]; exact (hu i hi).1
    · rw [if_neg w, if_neg w]; show (d : Rat) * 0 = 0; grind
  have lu : (smI h (fun i => if n ≤ B i then u i else 0)).natAbs ≤ h * DD h M := smI_le fun i hi => by
    split
    · exact (hu i hi).2
    · show 0 ≤ _; omega
  by_cases w : ∃ k, k < h ∧ e = n + k
  · obtain ⟨k, hk, ek⟩ := w
    have q := I.cost _ (I.zker he)
    rw [zv_sum (fun j => c j) he fun i hi => by have := I.low i hi; omega] at q
    rw [sm_zero (f := fun i => c (B i) * T i e) fun i hi => by rw [I.zero i hi]; grind] at q
    have q2 : sm h (fun m => zv h T B e (n + m)) = sm h (fun m => (if m = k then 1 else 0) - sm h (fun i => if B i = n + m then T i e else 0)) := sm_congr fun m hm => by
      unfold zv
      by_cases v : m = k
      · rw [if_pos v, if_pos (by omega)]
      · rw [if_neg v, if_neg (by omega)]
    rw [q2, sm_sub, sm_one (k := k) hk fun i _ hne => by rw [if_neg hne], if_pos rfl, sm_swap] at q
    have q3 : sm h (fun i => sm h (fun k => if B i = n + k then T i e else 0)) = sm h (fun i => if n ≤ B i then T i e else 0) := sm_congr fun i hi => by
      by_cases z : n ≤ B i
      · have l := I.low i hi
        rw [if_pos z, sm_one (k := B i - n) (by omega) fun k _ hne => by rw [if_neg (by omega)], if_pos (by omega)]
      · rw [if_neg z]
        exact sm_zero fun k _ => by rw [if_neg (by omega)]
    rw [q3] at q
    refine ⟨d - smI h (fun i => if n ≤ B i then u i else 0), ?_, ?_⟩
    · rw [Rat.intCast_sub, ← su]; grind
    · have := abs_sub d (smI h (fun i => if n ≤ B i then u i else 0))
      rw [Nat.succ_mul]
      omega
  · have ca := I.cost_at he (fun k hk z => w ⟨k, hk, z⟩)
    refine ⟨- smI h (fun i => if n ≤ B i then u i else 0), ?_, ?_⟩
    · rw [ca, Rat.intCast_neg, ← su]; grind
    · rw [Int.natAbs_neg, Nat.succ_mul]; omega
end
end SX
set_option Elab.async false
set_option linter.all false
set_option maxRecDepth 100000
set_option maxHeartbeats 4000000
namespace EW
open PySem PySem.Spec PyProof.Rows L2 Evl
/-! ### the text by places -/
def top (i : Nat) : Stmt := PySem.Challenge.pw_endsorever_k18_what_following_refuses.main.body.getD i (.Pass ⟨0, 0, 0, 0⟩)
abbrev sIsInt : Stmt := top 5
abbrev sIsBetween : Stmt := top 6
abbrev sCommon : Stmt := top 7
abbrev sReduced : Stmt := top 8
abbrev sAdded : Stmt := top 9
abbrev sDifference : Stmt := top 10
abbrev sProduct : Stmt := top 11
abbrev sQuotient : Stmt := top 12
abbrev sLess : Stmt := top 13
/-! ### what evaluates to something with a mark -/
def EvP (te : TE) (σ : L2.St) (H : Hp) (P : V → Hp → Prop) : Prop := ∀ H1, Ex H H1 → ∀ Q : VK, (∀ v H2, Ex H1 H2 → P v H2 → Q v H2) → te σ H1 Q
def EaP (ta : TA) (σ : L2.St) (H : Hp) (P : List V → Hp → Prop) : Prop := ∀ H1, Ex H H1 → ∀ Q : List V → Hp → Prop, (∀ vs H2, Ex H1 H2 → P vs H2 → Q vs H2) → ta σ H1 Q
def RetP (P : V → Hp → Prop) (H : Hp) (Q : VK) : Prop := ∀ v H2, Ex H H2 → P v H2 → Q v H2
def Mono (P : V → Hp → Prop) : Prop := ∀ v H H', Ex H H' → P v H → P v H'
section
variable {K : PySem.W.Frag} {σ : L2.St} {H H' : Hp} {ta tb te tx : TE} {t u : TT} {x y z v : V} {r : R2} {P P' : V → Hp → Prop} {D : Ends}
theorem EvP.mono (e : Ex H H') (h : EvP te σ H P) : EvP te σ H' P := fun H1 a Q q => h H1 (e.trans a) Q q
theorem ep_of (h : Ev te σ H v) (p : ∀ H2, Ex H H2 → P v H2) : EvP te σ H P := fun H1 e Q q => h H1 e Q fun H2 e2 => q v H2 e2 (p H2 (e.trans e2))
theorem ep_w (h : EvP te σ H P) (p : ∀ v H2, Ex H H2 → P v H2 → P' v H2) : EvP te σ H P' := fun H1 e Q q => h H1 e Q fun v H2 e2 k => q v H2 e2 (p v H2 (e.trans e2) k)
theorem sp_ret (h : EvP te σ H P) (k : RetP P H D.rt) : tRet te D σ H := h H (Ex.refl H) _ fun v H2 e p => k v H2 e p
theorem sp_asg {i : Nat} (h : EvP te σ H P) (k : ∀ v H1, Ex H H1 → P v H1 → D.nx (σ.set i (some v)) H1) : tAsg te (gName i) D σ H := h H (Ex.refl H) _ fun v H1 e p => k v H1 e p
theorem qp_asg {i : Nat} {tz : TS} (h : EvP te σ H P) (k : ∀ v H1, Ex H H1 → P v H1 → tz D (σ.set i (some v)) H1) : tSeq (tAsg te (gName i)) tz D σ H := sp_asg (D := { D with nx := tz D }) h k
theorem RetP.go (k : RetP P H Q) (e : Ex H H') : RetP P H' Q := fun v H2 e2 p => k v H2 (e.trans e2) p
theorem ap_nil : EaP tNil σ H (fun vs _ => vs = []) := fun H1 _ Q q => q [] H1 (Ex.refl H1) rfl
theorem ap_cons {tr : TA} {Pr : List V → Hp → Prop} (m : Mono P) (h : EvP ta σ H P) (hr : EaP tr σ H Pr) : EaP (tCons ta tr) σ H (fun vs H => ∃ x xs, vs = x :: xs ∧ P x H ∧ Pr xs H) := fun H1 e _ q =>
  h H1 e _ fun x H2 e2 p => hr H2 (e.trans e2) _ fun xs H3 e3 pr => q _ H3 (e2.trans e3) ⟨x, xs, rfl, m _ _ _ e3 p, pr⟩
/-- a call: what its promise asks of the arguments, and what comes of it -/
theorem ep_call {sp : Sp} {dvs : List V} {E : XK} {ta : TA} {Pa : List V → Hp → Prop} (h : EaP ta σ H Pa) (hs : ∀ vs H1, Ex H H1 → Pa vs H1 → ∀ Q : VK, RetP P H1 Q → sp (vs ++ dvs) H1 Q E) : EvP (tCall sp dvs E ta) σ H P := fun H1 e Q q =>
  h H1 e _ fun vs H2 e2 p => hs vs H2 (e.trans e2) p Q fun v H3 e3 k => q v H3 (e2.trans e3) k
theorem ep_callV {sp : Sp} {dvs vs : List V} {E : XK} {ta : TA} (h : EvA ta σ H vs) (hs : ∀ H1, Ex H H1 → ∀ Q : VK, RetP P H1 Q → sp (vs ++ dvs) H1 Q E) : EvP (tCall sp dvs E ta) σ H P := fun H1 e Q q =>
  h H1 e _ fun H2 e2 => hs H2 (e.trans e2) Q fun v H3 e3 k => q v H3 (e2.trans e3) k
theorem ep_if {b : Bool} (h : EvT t σ H b) (h1 : b = true → EvP ta σ H P) (h2 : b = false → EvP tb σ H P) : EvP (tIf t ta tb) σ H P := fun H1 e Q q => h H1 e _ fun H2 e2 => by
  cases b with
  | true =>
    show ta σ H2 Q
    exact h1 rfl H2 (e.trans e2) Q fun v H3 e3 => q v H3 (e2.trans e3)
  | false =>
    show tb σ H2 Q
    exact h2 rfl H2 (e.trans e2) Q fun v H3 e3 => q v H3 (e2.trans e3)
end
/-! ### fractions -/
/-- a fraction, as a tuple -/
def Fr (K : PySem.W.Frag) (q : Rat) (v : V) (H : Hp) : Prop := ∃ a, v = .ref a ∧ SqT K H a [.int q.num, .int (q.den : Int)]
theorem Fr.mono {K : PySem.W.Frag} {q : Rat} : Mono (Fr K q) := fun v H H' e ⟨a, h1, h2⟩ => ⟨a, h1, ex_t e h2⟩
structure Sz (n : Nat) (q : Rat) : Prop where
  num : q.num.natAbs < 2 ^ n
  den : q.den < 2 ^ n
/-! ### what all of it stands on: built-ins, as they are -/
structure Blt (mg : Str → Option Value) : Prop where
  isi : mg "isinstance" = none
  int : mg "int" = none
  bool : mg "bool" = none
  abs : mg "abs" = none
  len : mg "len" = none
/-- // of great ints, by anything but 0 -/
def CDivX (_ j : Int) : Prop := j ≠ 0 ∧ j.natAbs.log2 < 9000
theorem op_fdivX {X : Cx} : OpR X (binaryOp .FloorDiv) (rI CDivX fun i j => .int (i.fdiv j)) := opI fun i j _ _ _ _ _ hc q => floordiv_int hc.1 q (.inl (PyProof.noPylong_of_log2 hc.2))
section
variable {P : Program} {w : World} {K : PySem.W.Frag} {mg : Str → Option Value} {base : Heap}
theorem tyOf_ex {H H' : Hp} {v : V} {t : Value} (e : Ex H H') (h : TyOf K H v t) : TyOf K H' v t := by
  cases h with
  | non => exact .non
  | bl b => exact .bl b
  | int i => exact .int i
  | str x => exact .str x
  | flt x => exact .flt x
  | lst ea => exact .lst (e _ _ ea)
  | frz ea => exact .frz (e _ _ ea)
  | tup ea => exact .tup (e _ _ ea)
  | dK ea => exact .dK (e _ _ ea)
  | dT ea => exact .dT (e _ _ ea)
  | ins ea cl ha hn htk hm => exact .ins (e _ _ ea) cl ha hn htk hm
theorem tyX_ex {H H' : Hp} {v : V} {t : Value} (e : Ex H H') (h : TyX K H v t) : TyX K H' v t := by
  cases h with
  | base h => exact .base (tyOf_ex e h)
  | byt b => exact .byt b
  | set ea => exact .set (e _ _ ea)
  | kList ea c => exact .kList ea c
  | kTuple ea c => exact .kTuple ea c
  | kDict ea c => exact .kDict ea c
  | fTuple ea => exact .fTuple (e _ _ ea)
  | fDict ea => exact .fDict (e _ _ ea)
/-- whether a value is an integer -/
def IntIs (K : PySem.W.Frag) (v : V) (b : Bool) (H : Hp) : Prop := ∃ t b1 b2, TyX K H v t ∧ PySem.W.kitOne K t (.type "int") = some b1 ∧ PySem.W.kitOne K t (.type "bool") = some b2 ∧ b = (b1 && !b2)
theorem ev_isi {σ : L2.St} {H : Hp} {ta : TE} {v : V} {t : Value} {c : String} {r : Bool} (ha : Ev ta σ H v) (ty : TyX K H v t) (ek : PySem.W.kitOne K t (.type c) = some r) : Ev (tCB (rIsi K) (tCons ta (tCons (tC (.ty c)) tNil))) σ H (.bl r) :=
  ev_cb (ea_cons ha (ea_cons ev_c ea_nil)) fun H1 e1 Q q => ⟨v, .ty c, t, .type c, r, rfl, .ty c, tyX_ex e1 ty, ek, q H1 (Ex.refl H1)⟩
def spIsInt (K : PySem.W.Frag) : Sp := fun vs H Q _ => ∃ v b, vs = [v] ∧ IntIs K v b H ∧ RetV (.bl b) H Q
theorem int_is {i : Int} {H : Hp} : IntIs K (.int i) true H := ⟨_, true, false, .base (.int i), kit_ty (by decide +kernel), kit_ty (by decide +kernel), rfl⟩
theorem scIsInt : FnScope ["value"] ["value"] (defScope sIsInt) := ⟨rfl, rfl, rfl, by decide +kernel, rfl, by decide +kernel, by decide +kernel⟩
theorem ok_isInt {f : Addr} {fd : FuncData} (F : Fun K "is_integer" "is_integer" sIsInt f fd) (T : Blt mg) : FnOk P w K mg base CX0 1 f fd ["value"] (spIsInt K) := by
  refine F.ok scIsInt (fun vs H Q E h => ?_) (fun cdv A outer s H vs Q E hr h => ?_)
  · obtain ⟨v, b, rfl, _⟩ := h
    rfl
  · obtain ⟨v, b, rfl, hi, k⟩ := h
    refine ⟨_, pss_one (ps_ret (pe_and (pe_callB call_isi (by rfl) T.isi (by decide +kernel) (pa_cons (pv 0) (pa_cons (pe_bltn (v := .ty "int") (by rfl) T.int (by decide +kernel) rfl) pa_nil)))
      (pe_one (pe_not (pe_callB call_isi (by rfl) T.isi (by decide +kernel) (pa_cons (pv 0) (pa_cons (pe_bltn (v := .ty "bool") (by rfl) T.bool (by decide +kernel) rfl) pa_nil))))))), ?_⟩
    obtain ⟨t, b1, b2, ty, e1, e2, rfl⟩ := hi
    exact s_ret (ev_andV (ev_isi (ev_var rfl) ty e1) fun _ => ev_notV (ev_isi (ev_var rfl) ty e2)) k
/-! ### least <= value <= most -/
theorem ev_chain {r r' : R2} {σ : L2.St} {H : Hp} {ta tb tc : TE} {x y z : V} {b c : Bool} (ha : Ev ta σ H x) (hb : Ev tb σ H y) (h1 : RV r x y H (.bl b)) (hc : b = true → Ev tc σ H z) (h2 : b = true → RV r' y z H (.bl c)) :
    Ev (tChain r r' ta tb tc) σ H (.bl (b && c)) := fun H1 e Q q =>
  ha H1 e _ fun H2 e2 => hb H2 (e.trans e2) _ fun H3 e3 => h1 H3 ((e.trans e2).trans e3) _ fun H4 e4 => ⟨b, rfl, by
    cases b with
    | true =>
      show tc σ H4 _
      exact hc rfl H4 (((e.trans e2).trans e3).trans e4) _ fun H5 e5 => h2 rfl H5 ((((e.trans e2).trans e3).trans e4).trans e5) Q fun H6 e6 => q H6 ((((e2.trans e3).trans e4).trans e5).trans e6)
    | false =>
      show Q (.bl false) H4
      exact q H4 ((e2.trans e3).trans e4)⟩
def spBetween (K : PySem.W.Frag) : Sp := fun vs H Q _ => ∃ v b i lo hi, vs = [v, .int lo, .int hi] ∧ IntIs K v b H ∧ (b = true → v = .int i) ∧ RetV (.bl (b && (decide (lo ≤ i) && decide (i ≤ hi)))) H Q
theorem scBetween : FnScope ["value", "least", "most"] ["value", "least", "most"] (defScope sIsBetween) := ⟨rfl, rfl, rfl, by decide +kernel, rfl, by decide +kernel, by decide +kernel⟩
theorem intIs_ex {H H' : Hp} {v : V} {b : Bool} (e : Ex H H') (h : IntIs K v b H) : IntIs K v b H' := by
  obtain ⟨t, b1, b2, ty, r⟩ := h
  exact ⟨t, b1, b2, tyX_ex e ty, r⟩
theorem sv_isInt {v : V} {b : Bool} {H : Hp} (h : IntIs K v b H) : SpV (spIsInt K) [v] H (.bl b) := fun H1 e Q q E => ⟨v, b, rfl, intIs_ex e h, q⟩
theorem ok_between {f fI : Addr} {fd fdI : FuncData} (F : Fun K "is_between" "is_between" sIsBetween f fd) (kI : PySem.W.keepIn K (.ref fI) = true) (bI : Binds K fdI ["value"] []) (mgI : mg "is_integer" = some (.ref fI))
    (GI : FnOk P w K mg base CX0 1 fI fdI ["value"] (spIsInt K)) : FnOk P w K mg base CX0 2 f fd ["value", "least", "most"] (spBetween K) := by
  refine F.ok scBetween (fun vs H Q E h => ?_) (fun cdv A outer s H vs Q E hr h => ?_)
  · obtain ⟨v, b, i, lo, hi, rfl, _⟩ := h
    rfl
  · obtain ⟨v, b, i, lo, hi, rfl, hb, hv, k⟩ := h
    refine ⟨_, pss_one (ps_ret (pe_and (pe_call GI hr (by rfl) mgI kI bI .nil pass0 (pa_cons (pv 0) pa_nil)) (pe_one (pe_chain op_le op_le (pv 1) (pv 0) (pv 2))))), ?_⟩
    refine s_ret (ev_andV (ev_call (ea_cons (ev_var rfl) ea_nil) (sv_isInt hb)) fun hb => ?_) k
    obtain rfl := hv hb
    exact ev_chain (ev_var rfl) (ev_var rfl) rv_I0 (fun _ => ev_var rfl) fun _ => rv_I0
/-! ### the greatest common factor -/
theorem s_par {σ : L2.St} {H : Hp} {D : Ends} {i j : Nat} {ta : TA} {v w : V} (h : EvA ta σ H [v, w]) (k : ∀ H1, Ex H H1 → D.nx ((σ.set i (some v)).set j (some w)) H1) : tPar i j ta D σ H := h H (Ex.refl H) _ fun H1 e => ⟨v, w, rfl, k H1 e⟩
def spCommon : Sp := fun vs H Q _ => ∃ x y : Int, vs = [.int x, .int y] ∧ RetV (.int (Int.gcd x y : Int)) H Q
theorem scCommon : FnScope ["one", "other"] ["one", "other"] (defScope sCommon) := ⟨rfl, rfl, rfl, by decide +kernel, rfl, by decide +kernel, by decide +kernel⟩
theorem gcd_fmod (x y : Int) : Int.gcd y (x.fmod y) = Int.gcd x y := by
  have e : x.fmod y = x - x.fdiv y * y := by rw [Int.fmod_def, Int.mul_comm]
  rw [e, Int.gcd_comm x y]
  exact Int.gcd_sub_mul_right_right y x (x.fdiv y)
theorem fmod_less {x y : Int} (h : y ≠ 0) : (x.fmod y).natAbs < y.natAbs := by
  have h1 : x.fmod y = x % y + if 0 ≤ y ∨ y ∣ x then 0 else y := Int.fmod_eq_emod
  have a := Int.emod_nonneg x h
  have b := Int.emod_lt x h
  rw [h1]
  split
  · omega
  · rename_i q
    have y0 : ¬ 0 ≤ y := fun z => q (.inl z)
    have nz : x % y ≠ 0 := fun z => q (.inr (Int.dvd_of_emod_eq_zero z))
    omega
theorem ok_common {f : Addr} {fd : FuncData} (F : Fun K "common" "common" sCommon f fd) (T : Blt mg) : FnOk P w K mg base CX0 1 f fd ["one", "other"] spCommon := by
  refine F.ok scCommon (fun vs H Q E h => ?_) (fun cdv A outer s H vs Q E hr h => ?_)
  · obtain ⟨x, y, rfl, _⟩ := h
    rfl
  · obtain ⟨x, y, rfl, k⟩ := h
    refine ⟨_, pss_cons (ps_while PassesOwn.never (pt_cmpR op_ne (pv 1) pe_int (nomark _)) (pss_one (ps_par (i := 0) (j := 1) (by rfl) scCommon.nd rfl rfl (by decide) rfl rfl (pa_cons (pv 1) (pa_cons (pe_op op_modN (pv 0) (pv 1)) pa_nil)) (by rfl))))
      (pss_one (ps_ret (pe_callB call_abs (by rfl) T.abs (by decide +kernel) (pa_cons (pv 0) pa_nil)))), ?_⟩
    refine q_while (fun m σ H' => ∃ a b : Int, m = b.natAbs ∧ σ = [some (.int a), some (.int b)] ∧ Int.gcd a b = Int.gcd x y ∧ Ex H H') y.natAbs ⟨x, y, rfl, rfl, rfl, Ex.refl H⟩ ?_
    rintro m σ H' ⟨a, b, rfl, rfl, g, ex⟩
    refine ⟨!decide ((V.int b) = .int 0), et_test (ev_op (ev_var rfl) ev_c (rv_ne rfl)), fun hb H1 e1 => ?_, fun hb H1 e1 => ?_⟩
    · have b0 : b ≠ 0 := fun z => by subst z; exact absurd hb (by decide)
      refine ⟨fun σ2 H2 => ∃ m', m' < b.natAbs ∧ ∃ a b : Int, m' = b.natAbs ∧ σ2 = [some (.int a), some (.int b)] ∧ Int.gcd a b = Int.gcd x y ∧ Ex H H2, fun σ2 H2 h => h, ?_⟩
      refine s_par (v := .int b) (w := .int (a.fmod b)) (ea_cons (ev_var rfl) (ea_cons (ev_op (ev_var rfl) (ev_var rfl) (rv_I b0)) ea_nil)) fun H2 e2 => ?_
      exact ⟨_, fmod_less b0, b, a.fmod b, rfl, rfl, by rw [gcd_fmod, g], (ex.trans e1).trans e2⟩
    · have b0 : b = 0 := by
        by_cases z : b = 0
        · exact z
        · simp [z] at hb
      subst b0
      refine s_ret (v := .int (if a < 0 then -a else a)) (ev_cb (ea_cons (ev_var rfl) ea_nil) fun H2 _ Q q => ⟨a, rfl, q H2 (Ex.refl H2)⟩) fun H2 e2 => ?_
      have : (if a < 0 then -a else a) = (Int.gcd x y : Int) := by
        rw [← g, Int.gcd_zero_right]
        split <;> omega
      show Q (.int (if a < 0 then -a else a)) H2
      rw [this]
      exact k H2 ((ex.trans e1).trans e2)
end
end EW
set_option Elab.async false
set_option linter.all false
set_option maxRecDepth 100000
set_option maxHeartbeats 4000000
namespace EW
open PySem PySem.Spec PyProof.Rows L2 Evl
theorem rat_parts (t l : Int) (hl : l ≠ 0) : ∃ f : Int, f = (if 0 < l then (Int.gcd t l : Int) else 0 - (Int.gcd t l : Int)) ∧ f ≠ 0 ∧ t.fdiv f = ((t : Rat) / (l : Rat)).num ∧ l.fdiv f = (((t : Rat) / (l : Rat)).den : Int) ∧ f.natAbs ≤ l.natAbs := by
  refine ⟨_, rfl, ?_⟩
  have g0 : 0 < Int.gcd t l := Int.gcd_pos_of_ne_zero_right t hl
  have d1 : (Int.gcd t l : Int) ∣ t := Int.gcd_dvd_left ..
  have d2 : (Int.gcd t l : Int) ∣ l := Int.gcd_dvd_right ..
  have fd1 : (if 0 < l then (Int.gcd t l : Int) else 0 - (Int.gcd t l : Int)) ∣ t := by
    split
    · exact d1
    · rw [Int.zero_sub]; exact Int.neg_dvd.mpr d1
  have fd2 : (if 0 < l then (Int.gcd t l : Int) else 0 - (Int.gcd t l : Int)) ∣ l := by
    split
    · exact d2
    · rw [Int.zero_sub]; exact Int.neg_dvd.mpr d2
  have fn : (if 0 < l then (Int.gcd t l : Int) else 0 - (Int.gcd t l : Int)) ≠ 0 := by
    split <;> omega
  have fl : (if 0 < l then (Int.gcd t l : Int) else 0 - (Int.gcd t l : Int)).natAbs = Int.gcd t l := by
    split <;> omega
  have fs : 0 < l / (if 0 < l then (Int.gcd t l : Int) else 0 - (Int.gcd t l : Int)) := by
    split
    · rename_i p
      exact Int.ediv_pos_of_pos_of_dvd p (by omega) d2
    · rename_i p
      have : l / (0 - (Int.gcd t l : Int)) = (-l) / (Int.gcd t l : Int) := by rw [Int.zero_sub, Int.ediv_neg, Int.neg_ediv_of_dvd d2]
      rw [this]
      exact Int.ediv_pos_of_pos_of_dvd (by omega) (by omega) (Int.dvd_neg.mpr d2)
  generalize hf : (if 0 < l then (Int.gcd t l : Int) else 0 - (Int.gcd t l : Int)) = f at *
  obtain ⟨a, ha⟩ := fd1
  obtain ⟨b, hb⟩ := fd2
  have ea : t / f = a := by rw [ha]; exact Int.mul_ediv_cancel_left a fn
  have eb : l / f = b := by rw [hb]; exact Int.mul_ediv_cancel_left b fn
  rw [eb] at fs
  have e1 : t.fdiv f = a := by rw [Int.fdiv_eq_ediv_of_dvd ⟨a, ha⟩, ea]
  have e2 : l.fdiv f = b := by rw [Int.fdiv_eq_ediv_of_dvd ⟨b, hb⟩, eb]
  have cop : a.natAbs.Coprime b.natAbs := by
    have h1 : Int.gcd t l = f.natAbs * Int.gcd a b := by
      rw [ha, hb, Int.gcd_mul_left]
    rw [fl] at h1
    have : Int.gcd a b = 1 := by
      have := Nat.eq_of_mul_eq_mul_left g0 (show Int.gcd t l * Int.gcd a b = Int.gcd t l * 1 by omega)
      exact this
    exact this
  have q : ((t : Rat) / (l : Rat)) = ⟨a, b.natAbs, by omega, cop⟩ := by
    have h1 : Rat.divInt t l = Rat.divInt a b := by
      rw [ha, hb]
      exact Rat.divInt_mul_left fn
    have h2 : (b.natAbs : Int) = b := by omega
    rw [← Rat.divInt_eq_div, h1, Rat.mk_eq_divInt]
    show Rat.divInt a b = Rat.divInt a (b.natAbs : Int)
    rw [h2]
  rw [e1, e2, q]
  refine ⟨fn, rfl, by show b = (b.natAbs : Int); omega, ?_⟩
  rw [fl]
  have := Int.gcd_le_natAbs_right t hl
  exact this

theorem den_ne (p : Rat) : (p.den : Rat) ≠ 0 := by
  have := p.den_nz
  exact_mod_cast this
theorem num_den (p : Rat) : (p.num : Rat) / (p.den : Rat) = p := by
  rw [← Rat.intCast_natCast, ← Rat.divInt_eq_div]
  exact Rat.num_divInt_den p
theorem rat_add (p q : Rat) : ((p.num * q.den + q.num * p.den : Int) : Rat) / ((p.den * q.den : Int) : Rat) = p + q := by
  have h1 := num_den p
  have h2 := num_den q
  have d1 := den_ne p
  have d2 := den_ne q
  simp only [Rat.intCast_add, Rat.intCast_mul, Rat.intCast_natCast]
  grind
theorem rat_sub (p q : Rat) : ((p.num * q.den - q.num * p.den : Int) : Rat) / ((p.den * q.den : Int) : Rat) = p - q := by
  have h1 := num_den p
  have h2 := num_den q
  have d1 := den_ne p
  have d2 := den_ne q
  simp only [Rat.intCast_sub, Rat.intCast_mul, Rat.intCast_natCast]
  grind
theorem rat_mul (p q : Rat) : ((p.num * q.num : Int) : Rat) / ((p.den * q.den : Int) : Rat) = p * q := by
  have h1 := num_den p
  have h2 := num_den q
  have d1 := den_ne p
  have d2 := den_ne q
  simp only [Rat.intCast_mul, Rat.intCast_natCast]
  grind
theorem rat_div {p q : Rat} (z : q ≠ 0) : ((p.num * q.den : Int) : Rat) / ((p.den * q.num : Int) : Rat) = p / q := by
  have h1 := num_den p
  have h2 := num_den q
  have d1 := den_ne p
  have d2 := den_ne q
  have d3 : (q.num : Rat) ≠ 0 := by
    have : q.num ≠ 0 := fun w => z (Rat.num_eq_zero.mp w)
    exact_mod_cast this
  simp only [Rat.intCast_mul, Rat.intCast_natCast]
  grind
theorem den_pos' (p : Rat) : 0 < p.den := Nat.pos_of_ne_zero p.den_nz
theorem den_int (p : Rat) : (p.den : Int) ≠ 0 := by have := p.den_nz; omega
theorem lt_add {x y : Int} {a b c d n : Nat} (h1 : (x * y).natAbs < 2 ^ n) {u v : Int} (h2 : (u * v).natAbs < 2 ^ n) : (x * y + u * v).natAbs < 2 ^ (n + 1) := by
  have := Int.natAbs_add_le (x * y) (u * v)
  rw [Nat.pow_succ]
  omega
theorem lt_sub {x y u v : Int} {n : Nat} (h1 : (x * y).natAbs < 2 ^ n) (h2 : (u * v).natAbs < 2 ^ n) : (x * y - u * v).natAbs < 2 ^ (n + 1) := by
  have := SX.abs_sub (x * y) (u * v)
  rw [Nat.pow_succ]
  omega
section
variable {a b : Nat} {p q : Rat}
theorem Sz.den' (h : Sz a p) : ((p.den : Int)).natAbs < 2 ^ a := h.den
theorem Sz.mono (h : Sz a p) (l : a ≤ b) : Sz b p := ⟨Nat.lt_of_lt_of_le h.num (Nat.pow_le_pow_right (by decide) l), Nat.lt_of_lt_of_le h.den (Nat.pow_le_pow_right (by decide) l)⟩
theorem sz_by {t l : Int} {n : Nat} (hl : l ≠ 0) (ht : t.natAbs < 2 ^ n) (hL : l.natAbs < 2 ^ n) : Sz n ((t : Rat) / (l : Rat)) := by
  have hQ : (l : Rat) ≠ 0 := by exact_mod_cast hl
  obtain ⟨h1, h2⟩ := SX.size_of (q := (t : Rat) / (l : Rat)) (d := l) (u := t) hl (by grind)
  exact ⟨by omega, by omega⟩
theorem Sz.add (h1 : Sz a p) (h2 : Sz b q) : Sz (a + b + 1) (p + q) := by
  rw [← rat_add p q]
  have x1 := wide_lt h1.num h2.den'
  have x2 := wide_lt h2.num h1.den'
  have x3 := wide_lt h1.den' h2.den'
  rw [Nat.add_comm b a] at x2
  refine sz_by (Int.mul_ne_zero (den_int p) (den_int q)) ?_ (Nat.lt_of_lt_of_le x3 (Nat.pow_le_pow_right (by decide) (by omega)))
  have := Int.natAbs_add_le (p.num * q.den) (q.num * p.den)
  rw [Nat.pow_succ]
  omega
theorem Sz.sub (h1 : Sz a p) (h2 : Sz b q) : Sz (a + b + 1) (p - q) := by
  rw [← rat_sub p q]
  have x1 := wide_lt h1.num h2.den'
  have x2 := wide_lt h2.num h1.den'
  have x3 := wide_lt h1.den' h2.den'
  rw [Nat.add_comm b a] at x2
  exact sz_by (Int.mul_ne_zero (den_int p) (den_int q)) (lt_sub x1 x2) (Nat.lt_of_lt_of_le x3 (Nat.pow_le_pow_right (by decide) (by omega)))
theorem Sz.mul (h1 : Sz a p) (h2 : Sz b q) : Sz (a + b) (p * q) := by
  rw [← rat_mul p q]
  exact sz_by (Int.mul_ne_zero (den_int p) (den_int q)) (wide_lt h1.num h2.num) (wide_lt h1.den' h2.den')
theorem Sz.div (h1 : Sz a p) (h2 : Sz b q) (z : q ≠ 0) : Sz (a + b) (p / q) := by
  rw [← rat_div z]
  exact sz_by (Int.mul_ne_zero (den_int p) (fun w => z (Rat.num_eq_zero.mp w))) (wide_lt h1.num h2.den') (wide_lt h1.den' h2.num)
end
/-! ### reduced(top, low) -/
section
variable {P : Program} {w : World} {K : PySem.W.Frag} {mg : Str → Option Value} {base : Heap}
def spReduced (K : PySem.W.Frag) : Sp := fun vs H Q _ => ∃ t l : Int, vs = [.int t, .int l] ∧ l ≠ 0 ∧ l.natAbs < 2 ^ 9000 ∧ RetP (Fr K ((t : Rat) / (l : Rat))) H Q
theorem scReduced : FnScope ["top", "low", "factor"] ["top", "low"] (defScope sReduced) := ⟨rfl, rfl, rfl, by decide +kernel, rfl, by decide +kernel, by decide +kernel⟩
theorem sv_common {x y : Int} {H : Hp} : SpV spCommon [.int x, .int y] H (.int (Int.gcd x y : Int)) := fun H1 e Q q E => ⟨x, y, rfl, q⟩
theorem eu_p {te : TE} {σ : L2.St} {H : Hp} {xs : List V} (h : EvU te σ H xs) : EvP te σ H (fun v H2 => ∃ p, v = .ref p ∧ H2 p = some (.tup xs)) := fun H1 e Q q => h H1 e Q fun p H2 _ e2 h2 => q _ H2 e2 ⟨p, rfl, h2⟩
theorem ok_reduced {f fC : Addr} {fd fdC : FuncData} (F : Fun K "reduced" "reduced" sReduced f fd) (kC : PySem.W.keepIn K (.ref fC) = true) (bC : Binds K fdC ["one", "other"] []) (mgC : mg "common" = some (.ref fC))
    (GC : FnOk P w K mg base CX0 1 fC fdC ["one", "other"] spCommon) : FnOk P w K mg base CX0 2 f fd ["top", "low"] (spReduced K) := by
  refine F.ok scReduced (fun vs H Q E h => ?_) (fun cdv A outer s H vs Q E hr h => ?_)
  · obtain ⟨t, l, rfl, _⟩ := h
    rfl
  · obtain ⟨t, l, rfl, hl, hL, k⟩ := h
    refine ⟨_, pss_cons (ps_set (i := 2) scReduced.nd rfl (.inl rfl) (pe_ifExp (pt_cmpR op_gt (pv 1) pe_int (nomark _)) (pe_call GC hr (by rfl) mgC kC bC .nil pass0 (pa_cons (pv 0) (pa_cons (pv 1) pa_nil))) (pe_op op_sub pe_int (pe_call GC hr (by rfl) mgC kC bC .nil pass0 (pa_cons (pv 0) (pa_cons (pv 1) pa_nil))))))
      (pss_one (ps_ret (pe_tup (pa_cons (pe_op op_fdivX (pv 0) (pv 2)) (pa_cons (pe_op op_fdivX (pv 1) (pv 2)) pa_nil))))), ?_⟩
    obtain ⟨f, hf, fn, f1, f2, fl⟩ := rat_parts t l hl
    have fc : ∀ i : Int, CDivX i f := fun i => ⟨fn, PySem.Flt.log2_lt_of (by decide) (Nat.lt_of_le_of_lt fl hL)⟩
    refine q_asg (v := .int f) ?_ fun H1 e1 => ?_
    · refine ev_if (b := decide (0 < l)) (et_test (ev_op (ev_var rfl) ev_c rv_I0)) (fun hb => ?_) fun hb => ?_
      · rw [hf, if_pos (of_decide_eq_true hb)]
        exact ev_call (ea_cons (ev_var rfl) (ea_cons (ev_var rfl) ea_nil)) sv_common
      · rw [hf, if_neg (of_decide_eq_false hb)]
        exact ev_op ev_c (ev_call (ea_cons (ev_var rfl) (ea_cons (ev_var rfl) ea_nil)) sv_common) rv_I0
    · refine sp_ret (ep_w (eu_p (eu_tup (ea_cons (ev_op (ev_var rfl) (ev_var rfl) (rv_I (fc t))) (ea_cons (ev_op (ev_var rfl) (ev_var rfl) (rv_I (fc l))) ea_nil)) (by show 2 ≤ 100000; decide))) fun v H2 e2 hv => ?_) (k.go e1)
      obtain ⟨p, rfl, hp⟩ := hv
      rw [f1, f2] at hp
      exact ⟨p, rfl, st_of hp⟩
end
end EW
set_option Elab.async false
set_option linter.all false
set_option maxRecDepth 100000
set_option maxHeartbeats 4000000
set_option exponentiation.threshold 10000
namespace EW
open PySem PySem.Spec PyProof.Rows L2 Evl
theorem at0 {x : V} {xs : List V} : atI (x :: xs) 0 = some x := by
  have := atI_nat (j := 0) (show (x :: xs)[0]? = some x from rfl)
  exact this
theorem at1 {x y : V} {xs : List V} : atI (x :: y :: xs) 1 = some y := by
  have := atI_nat (j := 1) (show (x :: y :: xs)[1]? = some y from rfl)
  exact this
section
variable {P : Program} {w : World} {K : PySem.W.Frag} {mg : Str → Option Value} {base : Heap}
/-- what stands behind the top of these -/
structure HasRed (P : Program) (w : World) (K : PySem.W.Frag) (mg : Str → Option Value) (base : Heap) (f : Addr) (fd : FuncData) : Prop where
  kp : PySem.W.keepIn K (.ref f) = true
  bd : Binds K fd ["top", "low"] []
  gl : mg "reduced" = some (.ref f)
  ok : FnOk P w K mg base CX0 2 f fd ["top", "low"] (spReduced K)
theorem sp_red {σ : L2.St} {H : Hp} {ta tb : TE} {t l : Int} {q : Rat} {E : XK} (ha : Ev ta σ H (.int t)) (hb : Ev tb σ H (.int l)) (hl : l ≠ 0) (hL : l.natAbs < 2 ^ 9000) (e : (t : Rat) / (l : Rat) = q) :
    EvP (tCall (spReduced K) [] E (tCons ta (tCons tb tNil))) σ H (Fr K q) := by
  subst e
  exact ep_callV (ea_cons ha (ea_cons hb ea_nil)) fun H1 e1 Q k => ⟨t, l, rfl, hl, hL, k⟩
theorem scAdded : FnScope ["one", "other"] ["one", "other"] (defScope sAdded) := ⟨rfl, rfl, rfl, by decide +kernel, rfl, by decide +kernel, by decide +kernel⟩
theorem scDifference : FnScope ["one", "other"] ["one", "other"] (defScope sDifference) := ⟨rfl, rfl, rfl, by decide +kernel, rfl, by decide +kernel, by decide +kernel⟩
theorem scProduct : FnScope ["one", "other"] ["one", "other"] (defScope sProduct) := ⟨rfl, rfl, rfl, by decide +kernel, rfl, by decide +kernel, by decide +kernel⟩
theorem scQuotient : FnScope ["one", "other"] ["one", "other"] (defScope sQuotient) := ⟨rfl, rfl, rfl, by decide +kernel, rfl, by decide +kernel, by decide +kernel⟩
theorem scLess : FnScope ["one", "other"] ["one", "other"] (defScope sLess) := ⟨rfl, rfl, rfl, by decide +kernel, rfl, by decide +kernel, by decide +kernel⟩
/-- two fractions, of told sizes, and what comes of them -/
def spFr2 (K : PySem.W.Frag) (C : Rat → Prop) (g : Rat → Rat → Rat) : Sp := fun vs H Q _ => ∃ (p q : Rat) (a b : Nat) (v u : V), vs = [v, u] ∧ Fr K p v H ∧ Fr K q u H ∧ Sz a p ∧ Sz b q ∧ (0 < a ∧ 0 < b ∧ a + b ≤ 8990) ∧ C q ∧ RetP (Fr K (g p q)) H Q
def spLess (K : PySem.W.Frag) : Sp := fun vs H Q _ => ∃ (p q : Rat) (a b : Nat) (v u : V), vs = [v, u] ∧ Fr K p v H ∧ Fr K q u H ∧ Sz a p ∧ Sz b q ∧ (0 < a ∧ 0 < b ∧ a + b ≤ 8990) ∧ RetV (.bl (decide (p < q))) H Q
theorem ep_fr2 {C : Rat → Prop} {g : Rat → Rat → Rat} {σ : L2.St} {H : Hp} {ta tb : TE} {p q : Rat} {E : XK} (a b : Nat) (ha : EvP ta σ H (Fr K p)) (hb : EvP tb σ H (Fr K q)) (hp : Sz a p) (hq : Sz b q) (hab : 0 < a ∧ 0 < b ∧ a + b ≤ 8990) (hc : C q) :
    EvP (tCall (spFr2 K C g) [] E (tCons ta (tCons tb tNil))) σ H (Fr K (g p q)) :=
  ep_call (ap_cons Fr.mono ha (ap_cons Fr.mono hb ap_nil)) fun vs H1 e1 ⟨x, xs, e, h1, y, ys, e', h2, e''⟩ Q k => by
    subst e e' e''
    exact ⟨p, q, a, b, x, y, rfl, h1, h2, hp, hq, hab, hc, k⟩
theorem ev_less {σ : L2.St} {H : Hp} {ta tb : TE} {p q : Rat} {E : XK} (a b : Nat) (ha : EvP ta σ H (Fr K p)) (hb : EvP tb σ H (Fr K q)) (hp : Sz a p) (hq : Sz b q) (hab : 0 < a ∧ 0 < b ∧ a + b ≤ 8990) :
    Ev (tCall (spLess K) [] E (tCons ta (tCons tb tNil))) σ H (.bl (decide (p < q))) := fun H1 e Q k =>
  (ap_cons Fr.mono ha (ap_cons Fr.mono hb ap_nil)) H1 e _ fun vs H2 e2 ⟨x, xs, e, h1, y, ys, e', h2, e''⟩ => by
    subst e e' e''
    exact ⟨p, q, a, b, x, y, rfl, h1, h2, hp, hq, hab, fun H3 e3 => k H3 (e2.trans e3)⟩
section
variable {σ : L2.St} {H : Hp} {i j : Nat} {a b : Addr} {p q : Rat}
theorem fr_num (h : σ[i]? = some (some (.ref a))) (s : SqT K H a [.int p.num, .int (p.den : Int)]) : Ev (tOp (rIxT K) (tVar i) (tC (.int 0))) σ H (.int p.num) := ev_op (ev_var h) ev_c (rv_ixT s at0)
theorem fr_den (h : σ[i]? = some (some (.ref a))) (s : SqT K H a [.int p.num, .int (p.den : Int)]) : Ev (tOp (rIxT K) (tVar i) (tC (.int 1))) σ H (.int (p.den : Int)) := ev_op (ev_var h) ev_c (rv_ixT s at1)
theorem ev_mulW {ta tb : TE} {x y : Int} {m n : Nat} (ha : Ev ta σ H (.int x)) (hb : Ev tb σ H (.int y)) (hx : x.natAbs < 2 ^ m) (hy : y.natAbs < 2 ^ n) (h0 : 0 < m) (h1 : 0 < n) (h : m + n ≤ 1000000) :
    Ev (tOp (rI CMulW fun i j => .int (i * j)) ta tb) σ H (.int (x * y)) := ev_op ha hb (rv_I (wide_mul hx hy h0 h1 h))
end
theorem pow_le9 {x : Nat} {n : Nat} (h : x < 2 ^ n) (l : n ≤ 9000) : x < 2 ^ 9000 := Nat.lt_of_lt_of_le h (Nat.pow_le_pow_right (by decide) l)
theorem ok_added {f fR : Addr} {fd fdR : FuncData} (F : Fun K "added" "added" sAdded f fd) (R : HasRed P w K mg base fR fdR) : FnOk P w K mg base CX0 3 f fd ["one", "other"] (spFr2 K (fun _ => True) (· + ·)) := by
  refine F.ok scAdded (fun vs H Q E h => ?_) (fun cdv A outer s H vs Q E hr h => ?_)
  · obtain ⟨p, q, a, b, v, u, rfl, _⟩ := h
    rfl
  · obtain ⟨p, q, a, b, v, u, rfl, ⟨x, rfl, hx⟩, ⟨y, rfl, hy⟩, sp, sq, ⟨a0, b0, ab⟩, _, k⟩ := h
    refine ⟨_, pss_one (ps_ret (pe_call R.ok hr (by rfl) R.gl R.kp R.bd .nil pass0 (pa_cons (pe_op op_add (pe_op op_mulW (pe_ix ix_tup (pv 0) pe_int (fun _ _ => rfl)) (pe_ix ix_tup (pv 1) pe_int (fun _ _ => rfl))) (pe_op op_mulW (pe_ix ix_tup (pv 1) pe_int (fun _ _ => rfl)) (pe_ix ix_tup (pv 0) pe_int (fun _ _ => rfl))))
      (pa_cons (pe_op op_mulW (pe_ix ix_tup (pv 0) pe_int (fun _ _ => rfl)) (pe_ix ix_tup (pv 1) pe_int (fun _ _ => rfl))) pa_nil)))), ?_⟩
    exact sp_ret (sp_red (ev_op (ev_mulW (fr_num rfl hx) (fr_den rfl hy) sp.num sq.den' a0 b0 (by omega)) (ev_mulW (fr_num rfl hy) (fr_den rfl hx) sq.num sp.den' b0 a0 (by omega)) rv_I0) (ev_mulW (fr_den rfl hx) (fr_den rfl hy) sp.den' sq.den' a0 b0 (by omega))
      (Int.mul_ne_zero (den_int p) (den_int q)) (pow_le9 (wide_lt sp.den' sq.den') (by omega)) (rat_add p q)) k
theorem ok_difference {f fR : Addr} {fd fdR : FuncData} (F : Fun K "difference" "difference" sDifference f fd) (R : HasRed P w K mg base fR fdR) : FnOk P w K mg base CX0 3 f fd ["one", "other"] (spFr2 K (fun _ => True) (· - ·)) := by
  refine F.ok scDifference (fun vs H Q E h => ?_) (fun cdv A outer s H vs Q E hr h => ?_)
  · obtain ⟨p, q, a, b, v, u, rfl, _⟩ := h
    rfl
  · obtain ⟨p, q, a, b, v, u, rfl, ⟨x, rfl, hx⟩, ⟨y, rfl, hy⟩, sp, sq, ⟨a0, b0, ab⟩, _, k⟩ := h
    refine ⟨_, pss_one (ps_ret (pe_call R.ok hr (by rfl) R.gl R.kp R.bd .nil pass0 (pa_cons (pe_op op_sub (pe_op op_mulW (pe_ix ix_tup (pv 0) pe_int (fun _ _ => rfl)) (pe_ix ix_tup (pv 1) pe_int (fun _ _ => rfl))) (pe_op op_mulW (pe_ix ix_tup (pv 1) pe_int (fun _ _ => rfl)) (pe_ix ix_tup (pv 0) pe_int (fun _ _ => rfl))))
      (pa_cons (pe_op op_mulW (pe_ix ix_tup (pv 0) pe_int (fun _ _ => rfl)) (pe_ix ix_tup (pv 1) pe_int (fun _ _ => rfl))) pa_nil)))), ?_⟩
    exact sp_ret (sp_red (ev_op (ev_mulW (fr_num rfl hx) (fr_den rfl hy) sp.num sq.den' a0 b0 (by omega)) (ev_mulW (fr_num rfl hy) (fr_den rfl hx) sq.num sp.den' b0 a0 (by omega)) rv_I0) (ev_mulW (fr_den rfl hx) (fr_den rfl hy) sp.den' sq.den' a0 b0 (by omega))
      (Int.mul_ne_zero (den_int p) (den_int q)) (pow_le9 (wide_lt sp.den' sq.den') (by omega)) (rat_sub p q)) k
theorem ok_product {f fR : Addr} {fd fdR : FuncData} (F : Fun K "product" "product" sProduct f fd) (R : HasRed P w K mg base fR fdR) : FnOk P w K mg base CX0 3 f fd ["one", "other"] (spFr2 K (fun _ => True) (· * ·)) := by
  refine F.ok scProduct (fun vs H Q E h => ?_) (fun cdv A outer s H vs Q E hr h => ?_)
  · obtain ⟨p, q, a, b, v, u, rfl, _⟩ := h
    rfl
  · obtain ⟨p, q, a, b, v, u, rfl, ⟨x, rfl, hx⟩, ⟨y, rfl, hy⟩, sp, sq, ⟨a0, b0, ab⟩, _, k⟩ := h
    refine ⟨_, pss_one (ps_ret (pe_call R.ok hr (by rfl) R.gl R.kp R.bd .nil pass0 (pa_cons (pe_op op_mulW (pe_ix ix_tup (pv 0) pe_int (fun _ _ => rfl)) (pe_ix ix_tup (pv 1) pe_int (fun _ _ => rfl)))
      (pa_cons (pe_op op_mulW (pe_ix ix_tup (pv 0) pe_int (fun _ _ => rfl)) (pe_ix ix_tup (pv 1) pe_int (fun _ _ => rfl))) pa_nil)))), ?_⟩
    exact sp_ret (sp_red (ev_mulW (fr_num rfl hx) (fr_num rfl hy) sp.num sq.num a0 b0 (by omega)) (ev_mulW (fr_den rfl hx) (fr_den rfl hy) sp.den' sq.den' a0 b0 (by omega))
      (Int.mul_ne_zero (den_int p) (den_int q)) (pow_le9 (wide_lt sp.den' sq.den') (by omega)) (rat_mul p q)) k
theorem ok_quotient {f fR : Addr} {fd fdR : FuncData} (F : Fun K "quotient" "quotient" sQuotient f fd) (R : HasRed P w K mg base fR fdR) : FnOk P w K mg base CX0 3 f fd ["one", "other"] (spFr2 K (fun q => q ≠ 0) (· / ·)) := by
  refine F.ok scQuotient (fun vs H Q E h => ?_) (fun cdv A outer s H vs Q E hr h => ?_)
  · obtain ⟨p, q, a, b, v, u, rfl, _⟩ := h
    rfl
  · obtain ⟨p, q, a, b, v, u, rfl, ⟨x, rfl, hx⟩, ⟨y, rfl, hy⟩, sp, sq, ⟨a0, b0, ab⟩, nz, k⟩ := h
    refine ⟨_, pss_one (ps_ret (pe_call R.ok hr (by rfl) R.gl R.kp R.bd .nil pass0 (pa_cons (pe_op op_mulW (pe_ix ix_tup (pv 0) pe_int (fun _ _ => rfl)) (pe_ix ix_tup (pv 1) pe_int (fun _ _ => rfl)))
      (pa_cons (pe_op op_mulW (pe_ix ix_tup (pv 0) pe_int (fun _ _ => rfl)) (pe_ix ix_tup (pv 1) pe_int (fun _ _ => rfl))) pa_nil)))), ?_⟩
    exact sp_ret (sp_red (ev_mulW (fr_num rfl hx) (fr_den rfl hy) sp.num sq.den' a0 b0 (by omega)) (ev_mulW (fr_den rfl hx) (fr_num rfl hy) sp.den' sq.num a0 b0 (by omega))
      (Int.mul_ne_zero (den_int p) (fun w => nz (Rat.num_eq_zero.mp w))) (pow_le9 (wide_lt sp.den' sq.num) (by omega)) (rat_div nz)) k
theorem ok_less {f : Addr} {fd : FuncData} (F : Fun K "less" "less" sLess f fd) : FnOk P w K mg base CX0 1 f fd ["one", "other"] (spLess K) := by
  refine F.ok scLess (fun vs H Q E h => ?_) (fun cdv A outer s H vs Q E hr h => ?_)
  · obtain ⟨p, q, a, b, v, u, rfl, _⟩ := h
    rfl
  · obtain ⟨p, q, a, b, v, u, rfl, ⟨x, rfl, hx⟩, ⟨y, rfl, hy⟩, sp, sq, ⟨a0, b0, ab⟩, k⟩ := h
    refine ⟨_, pss_one (ps_ret (pe_cmpR op_lt (pe_op op_mulW (pe_ix ix_tup (pv 0) pe_int (fun _ _ => rfl)) (pe_ix ix_tup (pv 1) pe_int (fun _ _ => rfl))) (pe_op op_mulW (pe_ix ix_tup (pv 1) pe_int (fun _ _ => rfl)) (pe_ix ix_tup (pv 0) pe_int (fun _ _ => rfl))) (nomark _))), ?_⟩
    have e : decide (p.num * (q.den : Int) < q.num * (p.den : Int)) = decide (p < q) := by
      rw [decide_eq_decide]
      exact (Rat.lt_iff p q).symm
    refine s_ret (v := .bl (decide (p < q))) ?_ k
    rw [← e]
    exact ev_op (ev_mulW (fr_num rfl hx) (fr_den rfl hy) sp.num sq.den' a0 b0 (by omega)) (ev_mulW (fr_num rfl hy) (fr_den rfl hx) sq.num sp.den' b0 a0 (by omega)) rv_I0
end
end EW
set_option Elab.async false
set_option linter.all false
set_option maxRecDepth 100000
set_option maxHeartbeats 4000000
set_option exponentiation.threshold 10000
namespace EW
open PySem PySem.Spec PyProof.Rows L2 Evl
/-! ### what a change elsewhere leaves -/
/-- an object that may change -/
def Mt (o : HO) : Prop := (∃ xs, o = .lst xs) ∨ ∃ C dx fs, o = .ins C dx fs
theorem mt_l {xs : List V} : Mt (.lst xs) := .inl ⟨xs, rfl⟩
theorem mt_i {C dx : Addr} {fs : List (Str × V)} : Mt (.ins C dx fs) := .inr ⟨C, dx, fs, rfl⟩
/-- P of v stands whatever D changes to -/
def StD (D : Addr) (P : V → Hp → Prop) (v : V) : Prop := ∀ H o o', H D = some o → Mt o → P v H → P v (upd H D o')
def Tst (P : V → Hp → Prop) : Prop := ∀ D v, StD D P v
def Lst (P : V → Hp → Prop) : Prop := ∀ D v, v ≠ .ref D → StD D P v
theorem Tst.lst {P : V → Hp → Prop} (t : Tst P) : Lst P := fun D v _ => t D v
def EvN (te : TE) (σ : L2.St) (H : Hp) (P : V → Hp → Prop) : Prop := ∀ H1, Ex H H1 → ∀ Q : VK, (∀ p H2, H1 p = none → Ex H1 H2 → P (.ref p) H2 → Q (.ref p) H2) → te σ H1 Q
def EvD (te : TE) (σ : L2.St) (H : Hp) (P : V → Hp → Prop) : Prop := ∀ H1, Ex H H1 → ∀ D o, H1 D = some o → Mt o → ∀ Q : VK, (∀ v H2, Ex H1 H2 → P v H2 → StD D P v → Q v H2) → te σ H1 Q
/-- a list of n things, the i-th with P i -/
def LsP (n : Nat) (P : Nat → V → Hp → Prop) : V → Hp → Prop := fun v H => ∃ p xs, v = .ref p ∧ H p = some (.lst xs) ∧ xs.length = n ∧ ∀ i x, xs[i]? = some x → P i x H
/-- a walk of n things, the i-th with X, as long as F stands -/
def WkX (J : It) (F : Hp) (n : Nat) (X : Nat → V → Hp → Prop) : Prop := ∃ G Y, Walk J n G Y ∧ (∀ H, Ex F H → G H) ∧ ∀ i H x H', i < n → Ex F H → Y i H x H' → Ex H H' ∧ X i x H'
def SrF (wi : TI) (σ : L2.St) (F H : Hp) (n : Nat) (X : Nat → V → Hp → Prop) : Prop := ∀ H1, Ex H H1 → ∀ R : It → Hp → Prop, (∀ J H2, Ex H1 H2 → WkX J F n X → R J H2) → wi σ H1 R
def SrP (wi : TI) (σ : L2.St) (H : Hp) (n : Nat) (X : Nat → V → Hp → Prop) : Prop := ∀ H1, Ex H H1 → ∀ R : It → Hp → Prop, (∀ J H2, Ex H1 H2 → WkX J H2 n X → R J H2) → wi σ H1 R
section
variable {K : PySem.W.Frag} {σ : L2.St} {H H' F : Hp} {ta tb te tx tl : TE} {t u : TT} {x y z v : V} {r : R2} {P P' : V → Hp → Prop} {n : Nat} {X : Nat → V → Hp → Prop} {wi : TI}
theorem wk_mono {J : It} {F' : Hp} (e : Ex F F') (h : WkX J F n X) : WkX J F' n X := by
  obtain ⟨G, Y, w, g, y⟩ := h
  exact ⟨G, Y, w, fun H q => g H (e.trans q), fun i H x H' hi q => y i H x H' hi (e.trans q)⟩
theorem SrF.p (h : SrF wi σ H H n X) : SrP wi σ H n X := fun H1 e R k => h H1 e R fun J H2 e2 w => k J H2 e2 (wk_mono (e.trans e2) w)
theorem tst_fr {q : Rat} : Tst (Fr K q) := by
  rintro D v H o o' hD m ⟨a, e, s⟩
  refine ⟨a, e, ?_⟩
  rcases s with s | s
  · have ne : a ≠ D := fun z => by
      subst z
      rcases s with s | ⟨ob, s⟩
      · rw [hD] at s; cases s; rcases m with ⟨_, m⟩ | ⟨_, _, _, m⟩ <;> cases m
      · rw [hD] at s; cases s; rcases m with ⟨_, m⟩ | ⟨_, _, _, m⟩ <;> cases m
    rcases s with s | ⟨ob, s⟩
    · exact .inl (.inl (by rw [upd_ne ne]; exact s))
    · exact .inl (.inr ⟨ob, by rw [upd_ne ne]; exact s⟩)
  · exact .inr s
theorem tst_eq : Tst (fun x _ => x = y) := fun _ _ _ _ _ _ _ p => p
theorem mono_eq : Mono (fun x _ => x = y) := fun _ _ _ _ p => p
theorem tst_imp {a : Prop} (h : a → Tst P) : Tst (fun v H => a → P v H) := fun D v H o o' hD m p q => h q D v H o o' hD m (p q)
theorem mono_imp {a : Prop} (h : a → Mono P) : Mono (fun v H => a → P v H) := fun v H H' e p q => h q v H H' e (p q)
theorem lst_ls {Pi : Nat → V → Hp → Prop} (h : ∀ i, Tst (Pi i)) : Lst (LsP n Pi) := by
  rintro D v ne H o o' hD m ⟨p, xs, rfl, hp, hl, hx⟩
  have np : p ≠ D := fun z => ne (by rw [z])
  exact ⟨p, xs, rfl, by rw [upd_ne np]; exact hp, hl, fun i x e => h i D x H o o' hD m (hx i x e)⟩
theorem mono_ls {Pi : Nat → V → Hp → Prop} (h : ∀ i, Mono (Pi i)) : Mono (LsP n Pi) := by
  rintro v H H' e ⟨p, xs, rfl, hp, hl, hx⟩
  exact ⟨p, xs, rfl, e _ _ hp, hl, fun i x q => h i x H H' e (hx i x q)⟩
theorem EvN.p (h : EvN te σ H P) : EvP te σ H P := fun H1 e Q k => h H1 e Q fun p H2 _ e2 q => k _ H2 e2 q
theorem EvN.d (l : Lst P) (h : EvN te σ H P) : EvD te σ H P := fun H1 e D o hD m Q k => h H1 e Q fun p H2 np e2 q => k _ H2 e2 q (l D _ fun z => by cases z; rw [hD] at np; cases np)
theorem EvP.d (l : Tst P) (h : EvP te σ H P) : EvD te σ H P := fun H1 e D o hD m Q k => h H1 e Q fun v H2 e2 q => k v H2 e2 q (l D v)
theorem EvD.p (h : EvD te σ H P) (D : Addr) (o : HO) (hD : H D = some o) (m : Mt o) : EvP te σ H P := fun H1 e Q k => h H1 e D o (e _ _ hD) m Q fun v H2 e2 p _ => k v H2 e2 p
theorem ev_p (h : Ev te σ H v) : EvP te σ H (fun x _ => x = v) := ep_of h fun _ _ => rfl
theorem p_ev (h : EvP te σ H (fun x _ => x = v)) : Ev te σ H v := fun H1 e Q k => h H1 e Q fun x H2 e2 q => by subst q; exact k H2 e2
theorem n_mono (e : Ex H H') (h : EvN te σ H P) : EvN te σ H' P := fun H1 a Q q => h H1 (e.trans a) Q q
theorem d_mono (e : Ex H H') (h : EvD te σ H P) : EvD te σ H' P := fun H1 a => h H1 (e.trans a)
theorem en_w (h : EvN te σ H P) (p : ∀ v H2, Ex H H2 → P v H2 → P' v H2) : EvN te σ H P' := fun H1 e Q q => h H1 e Q fun v H2 np e2 k => q v H2 np e2 (p _ H2 (e.trans e2) k)
theorem en_l {xs : List V} (h : EvL te σ H xs) : EvN te σ H (fun v H => ∃ p, v = .ref p ∧ H p = some (.lst xs)) := fun H1 e Q q => h H1 e Q fun p H2 np e2 k => q p H2 np e2 ⟨p, rfl, k⟩
theorem en_u {xs : List V} (h : EvU te σ H xs) : EvN te σ H (fun v H => ∃ p, v = .ref p ∧ H p = some (.tup xs)) := fun H1 e Q q => h H1 e Q fun p H2 np e2 k => q p H2 np e2 ⟨p, rfl, k⟩
/-- exact items: a list -/
theorem el_of {g : Nat → V} (h : EvN te σ H (LsP n fun i x _ => x = g i)) : EvL te σ H ((List.range n).map g) := fun H1 e Q q => h H1 e Q fun p H2 np e2 ⟨p', xs, z, hp, hl, hx⟩ => by
  cases z
  have : xs = (List.range n).map g := by
    apply List.ext_getElem?
    intro i
    rw [List.getElem?_map]
    by_cases hi : i < n
    · have := hx i xs[i] (by simp [hl, hi])
      simp [hl, hi, this]
    · simp [hl, hi]
  rw [this] at hp
  exact q p H2 np e2 hp
/-- a comprehension without a test -/
theorem en_lc {g : TG} {vs : List Nat} {Pi : Nat → V → Hp → Prop} (hs : SrP wi σ H n X) (hz : n ≤ 40000) (mP : ∀ i, Mono (Pi i))
    (he : ∀ i x H1, i < n → Ex H H1 → X i x H1 → ∃ σ2, (∀ Q : L2.St → Hp → Prop, Q σ2 H1 → g x (wipe σ vs) H1 Q) ∧ wipe σ2 vs = wipe σ vs ∧ EvD te σ2 H1 (Pi i)) : EvN (tLc wi g tYes te vs) σ H (LsP n Pi) := fun H0 e Q k => hs H0 e _ fun J H1 e1 w D hD => by
  obtain ⟨G, Y, wk, hG, hY⟩ := w
  refine lc_it (n := n) wk (fun i H' => H1 D = none ∧ Ex H1 H' ∧ ∃ acc, H' D = some (.lst acc) ∧ acc.length = i ∧ ∀ j x, acc[j]? = some x → Pi j x H' ∧ StD D (Pi j) x) ⟨hD, Ex.new hD, [], upd_same, rfl, fun j x q => by simp at q⟩ (fun i H' _ p => hG H' p.2.1) ?_ ?_
  · rintro i x H2 H3 hi ⟨_, p2, acc, ha, hl, hx⟩ y
    obtain ⟨e3, hX⟩ := hY i H2 x H3 hi p2 y
    obtain ⟨σ2, hg, hw, hd⟩ := he i x H3 hi (((e.trans e1).trans p2).trans e3) hX
    refine hg _ ⟨hw, ?_⟩
    show te σ2 H3 _
    refine hd H3 (Ex.refl _) D _ (e3 _ _ ha) mt_l _ fun v H4 e4 pv st => ⟨acc, e4 _ _ (e3 _ _ ha), sz_lt (by omega), hD, Ex.mut (((p2.trans e3).trans e4)) hD, acc ++ [v], upd_same, by simp [hl], fun j z q => ?_⟩
    have h4 : H4 D = some (.lst acc) := e4 _ _ (e3 _ _ ha)
    rw [List.getElem?_append] at q
    split at q
    · obtain ⟨a, b⟩ := hx j z q
      exact ⟨b H4 _ _ h4 mt_l (mP j _ _ _ (e3.trans e4) a), b⟩
    · have hj : j = i := by
        have := (List.getElem?_eq_some_iff.mp q).1
        simp at this
        omega
      subst hj
      rw [hl] at q
      simp at q
      subst q
      exact ⟨st H4 _ _ h4 mt_l pv, st⟩
  · rintro H' ⟨_, p2, acc, ha, hl, hx⟩
    exact k D H' (fresh_back e1 hD) (e1.trans p2) ⟨D, acc, rfl, ha, hl, fun i x q => (hx i x q).1⟩
/-! ### what is walked -/
theorem sf_range {ta : TA} {m : Int} {F : Hp} (h : EvA ta σ H [.int m]) (hm : m ≤ 2 ^ 61) (h0 : -(2 ^ 61) ≤ m) : SrF (iRng1 ta) σ F H m.toNat (fun i x _ => x = .int i) := fun H1 e R k => h H1 e _ fun H2 e2 => ⟨m, rfl, by omega, by omega, k _ H2 e2 ⟨_, _, walk_range, fun _ _ => trivial, fun i H x H' _ _ y => by
  obtain ⟨rfl, rfl⟩ := y
  exact ⟨Ex.refl _, by show V.int (0 + (i : Int)) = V.int i; rw [Int.zero_add]⟩⟩⟩
theorem sr_range {ta : TA} {m : Int} (h : EvA ta σ H [.int m]) (hm : m ≤ 2 ^ 61) (h0 : -(2 ^ 61) ≤ m) : SrP (iRng1 ta) σ H m.toNat (fun i x _ => x = .int i) := fun H1 e R k => sf_range (F := H) h hm h0 H1 e R fun J H2 e2 w => k J H2 e2 (wk_mono (e.trans e2) w)
theorem sr_rangeN {ta : TA} {m : Nat} (h : EvA ta σ H [.int (m : Int)]) (hm : m ≤ 2 ^ 61) : SrP (iRng1 ta) σ H m (fun i x _ => x = .int i) := by
  have := sr_range h (by omega) (by omega)
  rwa [Int.toNat_natCast] at this
theorem sf_rangeN {ta : TA} {m : Nat} {F : Hp} (h : EvA ta σ H [.int (m : Int)]) (hm : m ≤ 2 ^ 61) : SrF (iRng1 ta) σ F H m (fun i x _ => x = .int i) := by
  have := sf_range (F := F) h (by omega) (by omega)
  rwa [Int.toNat_natCast] at this
theorem sr_list {a : Addr} {xs : List V} {Pi : Nat → V → Hp → Prop} (h : Ev tl σ H (.ref a)) (hx : SqL K H a xs) (hl : xs.length = n) (mP : ∀ i, Mono (Pi i)) (hp : ∀ i x, xs[i]? = some x → Pi i x H) : SrP (iList K tl) σ H n Pi := fun H1 e R k => h H1 e _ fun H2 e2 =>
  ⟨a, rfl, ⟨xs, ex_l (e.trans e2) hx⟩, k _ H2 e2 ⟨_, _, hl ▸ walk_list (xs := xs), fun H3 e3 => ex_l ((e.trans e2).trans e3) hx, fun i H3 x H4 _ e3 y => by
    obtain ⟨rfl, y⟩ := y
    exact ⟨Ex.refl _, mP i _ _ _ ((e.trans e2).trans e3) (hp i x y)⟩⟩⟩
theorem sr_tup {a : Addr} {xs : List V} {Pi : Nat → V → Hp → Prop} (h : Ev tl σ H (.ref a)) (hx : SqT K H a xs) (hl : xs.length = n) (mP : ∀ i, Mono (Pi i)) (hp : ∀ i x, xs[i]? = some x → Pi i x H) : SrP (iTup K tl) σ H n Pi := fun H1 e R k => h H1 e _ fun H2 e2 =>
  ⟨a, rfl, ⟨xs, ex_t (e.trans e2) hx⟩, k _ H2 e2 ⟨_, _, hl ▸ walk_tup (xs := xs), fun H3 e3 => ex_t ((e.trans e2).trans e3) hx, fun i H3 x H4 _ e3 y => by
    obtain ⟨rfl, y⟩ := y
    exact ⟨Ex.refl _, mP i _ _ _ ((e.trans e2).trans e3) (hp i x y)⟩⟩⟩
/-- a list that comes of a reading -/
theorem sr_listP {Pi : Nat → V → Hp → Prop} (h : EvP tl σ H (LsP n Pi)) (mP : ∀ i, Mono (Pi i)) : SrP (iList K tl) σ H n Pi := fun H1 e R k => h H1 e _ fun v H2 e2 ⟨p, xs, ev, hp, hl, hx⟩ =>
  ⟨p, ev, ⟨xs, sq_of hp⟩, k _ H2 e2 ⟨_, _, hl ▸ walk_list (xs := xs), fun H3 e3 => sq_of (e3 _ _ hp), fun i H3 x H4 _ e3 y => by
    obtain ⟨rfl, y⟩ := y
    exact ⟨Ex.refl _, mP i _ _ _ e3 (hx i x y)⟩⟩⟩
/-- a pair, new -/
def PrP (A B : V → Hp → Prop) : V → Hp → Prop := fun v H => ∃ T x y, v = .ref T ∧ SqT K H T [x, y] ∧ A x H ∧ B y H
theorem sr_enumP {ta : TA} {Pi : Nat → V → Hp → Prop} (h : EaP ta σ H (fun vs H => ∃ v, vs = [v] ∧ LsP n Pi v H)) (mP : ∀ i, Mono (Pi i)) : SrP (iEnum K ta) σ H n (fun i => PrP (K := K) (fun x _ => x = .int i) (Pi i)) := fun H1 e R k => h H1 e _ fun vs H2 e2 ⟨v, e3, p, xs, ev, hp, hl, hx⟩ =>
  ⟨p, xs, by rw [e3, ev], sq_of hp, k _ H2 e2 ⟨_, _, hl ▸ walk_enum (xs := xs), fun H3 e3 => sq_of (e3 _ _ hp), fun i H3 x H4 _ e3 y => by
    obtain ⟨T, a, b, rfl, hT, rfl, ha, hb⟩ := y
    cases ha
    have e4 : Ex H3 (upd H3 T (.tup [.int (i : Nat), b])) := Ex.new hT
    exact ⟨e4, T, _, b, rfl, st_of upd_same, rfl, mP i _ _ _ (e3.trans e4) (hx i b hb)⟩⟩⟩
theorem sr_zipP {ta : TA} {Pi Pj : Nat → V → Hp → Prop} (h : EaP ta σ H (fun vs H => ∃ v w, vs = [v, w] ∧ LsP n Pi v H ∧ LsP n Pj w H)) (mP : ∀ i, Mono (Pi i)) (mJ : ∀ i, Mono (Pj i)) : SrP (iZip K ta) σ H n (fun i => PrP (K := K) (Pi i) (Pj i)) := fun H1 e R k =>
  h H1 e _ fun vs H2 e2 ⟨v, w, e3, ⟨p, xs, ev, hp, hl, hx⟩, ⟨q, ys, ew, hq, hm, hy⟩⟩ =>
  ⟨p, q, xs, ys, by rw [e3, ev, ew], sq_of hp, sq_of hq, k _ H2 e2 ⟨_, _, walk_zip (xs := xs) (ys := ys) (n := n) (by omega), fun H3 e3 => ⟨sq_of (e3 _ _ hp), sq_of (e3 _ _ hq)⟩, fun i H3 x H4 _ e3 y => by
    obtain ⟨T, a, b, rfl, hT, rfl, ha, hb⟩ := y
    have e4 : Ex H3 (upd H3 T (.tup [a, b])) := Ex.new hT
    exact ⟨e4, T, a, b, rfl, st_of upd_same, mP i _ _ _ (e3.trans e4) (hx i a ha), mJ i _ _ _ (e3.trans e4) (hy i b hb)⟩⟩⟩
/-- a pair's names -/
theorem g_pair {i j : Nat} {T : Addr} {Q : L2.St → Hp → Prop} (h : SqT K H T [x, y]) (q : Q ((σ.set i (some x)).set j (some y)) H) : gTup K 2 (gCons (gName i) (gCons (gName j) gNil)) (.ref T) σ H Q :=
  ⟨T, _, rfl, h, rfl, x, [y], rfl, y, [], rfl, rfl, q⟩
/-- a loop over it -/
theorem s_forX {g : TG} {tb : TS} {D : Ends} (hs : SrF wi σ F H n X) (Pv : Nat → L2.St → Hp → Prop) (h0 : ∀ H1, Ex H H1 → Pv 0 σ H1) (hF : ∀ i σ H, i ≤ n → Pv i σ H → Ex F H)
    (hb : ∀ i x σ H H', i < n → Pv i σ H → Ex H H' → X i x H' → g x σ H' fun σ2 H2 => tb { D with nx := Pv (i + 1), ct := Pv (i + 1), bk := D.nx } σ2 H2) (hd : ∀ σ H, Pv n σ H → D.nx σ H) : tFor wi g tb D σ H := hs H (Ex.refl H) _ fun J H1 e1 w => by
  obtain ⟨G, Y, wk, hG, hY⟩ := w
  refine for_it wk Pv (h0 H1 e1) (fun i σ H hi p => hG H (hF i σ H hi p)) (fun i x σ H H' hi p y => ?_) hd
  obtain ⟨e3, hX⟩ := hY i H x H' hi (hF i σ H (Nat.le_of_lt hi) p) y
  exact hb i x σ H H' hi p e3 hX
theorem q_forX {g : TG} {tb tz : TS} {D : Ends} (hs : SrF wi σ F H n X) (Pv : Nat → L2.St → Hp → Prop) (h0 : ∀ H1, Ex H H1 → Pv 0 σ H1) (hF : ∀ i σ H, i ≤ n → Pv i σ H → Ex F H)
    (hb : ∀ i x σ H H', i < n → Pv i σ H → Ex H H' → X i x H' → g x σ H' fun σ2 H2 => tb { D with nx := Pv (i + 1), ct := Pv (i + 1), bk := tz D } σ2 H2) (hd : ∀ σ H, Pv n σ H → tz D σ H) : tSeq (tFor wi g tb) tz D σ H := s_forX (D := { D with nx := tz D }) hs Pv h0 hF hb hd
/-- a loop over it, nothing that it walks over changed; B: the heap at the loop's begin -/
theorem s_forP {g : TG} {tb : TS} {D : Ends} (hs : SrP wi σ H n X) (Pv : Hp → Nat → L2.St → Hp → Prop) (h0 : ∀ H1, Ex H H1 → Pv H1 0 σ H1) (hF : ∀ B i σ H, i ≤ n → Pv B i σ H → Ex B H)
    (hb : ∀ B i x σ H1 H', i < n → Ex H B → Pv B i σ H1 → Ex H1 H' → X i x H' → g x σ H' fun σ2 H2 => tb { D with nx := Pv B (i + 1), ct := Pv B (i + 1), bk := D.nx } σ2 H2) (hd : ∀ B σ H1, Ex H B → Pv B n σ H1 → D.nx σ H1) : tFor wi g tb D σ H := hs H (Ex.refl H) _ fun J H1 e1 w => by
  obtain ⟨G, Y, wk, hG, hY⟩ := w
  refine for_it wk (Pv H1) (h0 H1 e1) (fun i σ H hi p => hG H (hF H1 i σ H hi p)) (fun i x σ H H' hi p y => ?_) (fun σ H p => hd H1 σ H e1 p)
  obtain ⟨e3, hX⟩ := hY i H x H' hi (hF H1 i σ H (Nat.le_of_lt hi) p) y
  exact hb H1 i x σ H H' hi e1 p e3 hX
theorem q_forP {g : TG} {tb tz : TS} {D : Ends} (hs : SrP wi σ H n X) (Pv : Hp → Nat → L2.St → Hp → Prop) (h0 : ∀ H1, Ex H H1 → Pv H1 0 σ H1) (hF : ∀ B i σ H, i ≤ n → Pv B i σ H → Ex B H)
    (hb : ∀ B i x σ H1 H', i < n → Ex H B → Pv B i σ H1 → Ex H1 H' → X i x H' → g x σ H' fun σ2 H2 => tb { D with nx := Pv B (i + 1), ct := Pv B (i + 1), bk := tz D } σ2 H2) (hd : ∀ B σ H1, Ex H B → Pv B n σ H1 → tz D σ H1) : tSeq (tFor wi g tb) tz D σ H :=
  s_forP (D := { D with nx := tz D }) hs Pv h0 hF hb hd
end
end EW
set_option Elab.async false
set_option linter.all false
set_option maxRecDepth 100000
set_option maxHeartbeats 4000000
set_option exponentiation.threshold 10000
namespace EW
open PySem PySem.Spec PyProof.Rows L2 Evl
/-! ### reading by places, with marks -/
section
variable {K : PySem.W.Frag} {σ : L2.St} {H H' F : Hp} {ta tb te tx tl : TE} {t u : TT} {x y z v : V} {r : R2} {P P' : V → Hp → Prop} {n : Nat} {Pi Pj : Nat → V → Hp → Prop}
theorem ls_congr (h : ∀ i x H, i < n → Pi i x H → Pj i x H) (p : LsP n Pi v H) : LsP n Pj v H := by
  obtain ⟨a, xs, rfl, hp, hl, hx⟩ := p
  exact ⟨a, xs, rfl, hp, hl, fun i x e => h i x H (by have := (List.getElem?_eq_some_iff.mp e).1; omega) (hx i x e)⟩
theorem ep_op (ha : EvP ta σ H P) (hb : EvP tb σ H P') (m : Mono P) (hr : ∀ x y H1, Ex H H1 → P x H1 → P' y H1 → EvP (fun _ H Q => r x y H Q) σ H1 Pz) : EvP (tOp r ta tb) σ H Pz := fun H1 e Q q =>
  ha H1 e _ fun x H2 e2 px => hb H2 (e.trans e2) _ fun y H3 e3 py => hr x y H3 ((e.trans e2).trans e3) (m _ _ _ e3 px) py H3 (Ex.refl _) Q fun v H4 e4 => q v H4 ((e2.trans e3).trans e4)
/-- xs[j] of a list with marks -/
theorem ep_ixL {j : Nat} (ha : EvP ta σ H (LsP n Pi)) (hb : Ev tb σ H (.int (j : Int))) (hj : j < n) (m : ∀ i, Mono (Pi i)) : EvP (tOp (rIxL K) ta tb) σ H (Pi j) := fun H1 e Q q =>
  ha H1 e _ fun x H2 e2 ⟨p, xs, ex, hp, hl, hx⟩ => hb H2 (e.trans e2) _ fun H3 e3 => by
    subst ex
    have hj' : j < xs.length := by omega
    have hv : xs[j]? = some xs[j] := by simp [hj']
    exact ⟨p, xs, (j : Int), xs[j], rfl, rfl, sq_of (e3 _ _ hp), atI_nat hv, q _ H3 (e2.trans e3) (m _ _ _ _ e3 (hx j _ hv))⟩
/-- xs[-1] -/
theorem ep_ixZ (ha : EvP ta σ H (LsP (n + 1) Pi)) (m : ∀ i, Mono (Pi i)) : EvP (tOp (rIxL K) ta (tUn (rU fun i => .int (-i)) (tC (.int 1)))) σ H (Pi n) := fun H1 e Q q =>
  ha H1 e _ fun x H2 e2 ⟨p, xs, ex, hp, hl, hx⟩ => ⟨1, rfl, by
    subst ex
    have hj' : n < xs.length := by omega
    have hv : xs[n]? = some xs[n] := by simp [hj']
    have ha : atI xs (-1) = some xs[n] := by
      unfold atI
      have : ixN xs.length (-1) = some n := by
        unfold ixN
        simp [hl]
        omega
      rw [this]
      exact hv
    exact ⟨p, xs, -1, xs[n], rfl, rfl, sq_of hp, ha, q _ H2 e2 (hx n _ hv)⟩⟩
/-- a fraction's top, its low -/
theorem ev_num {q : Rat} (ha : EvP ta σ H (Fr K q)) : Ev (tOp (rIxT K) ta (tC (.int 0))) σ H (.int q.num) := fun H1 e Q k =>
  ha H1 e _ fun x H2 e2 ⟨a, ex, s⟩ => ⟨a, _, 0, _, ex, rfl, s, at0, k H2 e2⟩
theorem ev_den {q : Rat} (ha : EvP ta σ H (Fr K q)) : Ev (tOp (rIxT K) ta (tC (.int 1))) σ H (.int (q.den : Int)) := fun H1 e Q k =>
  ha H1 e _ fun x H2 e2 ⟨a, ex, s⟩ => ⟨a, _, 1, _, ex, rfl, s, at1, k H2 e2⟩
theorem ep_varM {i : Nat} (h : σ[i]? = some (some v)) (p : P v H) (m : Mono P) : EvP (tVar i) σ H P := ep_of (ev_var h) fun H2 e => m _ _ _ e p
theorem sn_ret {D : Ends} (h : EvN te σ H P) (k : ∀ p H2, H p = none → Ex H H2 → P (.ref p) H2 → D.rt (.ref p) H2) : tRet te D σ H := h H (Ex.refl H) _ fun p H2 hp e q => k p H2 hp e q
theorem ap_two (m : Mono P) (ha : EvP ta σ H P) (hb : EvP tb σ H P') : EaP (tCons ta (tCons tb tNil)) σ H (fun vs H => ∃ v w, vs = [v, w] ∧ P v H ∧ P' w H) := fun H1 e Q q => ha H1 e _ fun x H2 e2 p => hb H2 (e.trans e2) _ fun y H3 e3 p' => q [x, y] H3 (e2.trans e3) ⟨x, y, rfl, m _ _ _ e3 p, p'⟩
theorem ap_1 (ha : EvP ta σ H P) : EaP (tCons ta tNil) σ H (fun vs H => ∃ v, vs = [v] ∧ P v H) := fun H1 e Q q => ha H1 e _ fun x H2 e2 p => q [x] H2 e2 ⟨x, rfl, p⟩
theorem fr_cast {q q' : Rat} (e : q = q') (h : Fr K q v H) : Fr K q' v H := e ▸ h
theorem num_zero {q : Rat} : decide (V.int q.num = .int 0) = decide (q = 0) := by
  rw [decide_eq_decide]
  constructor
  · intro z
    cases q
    injection z with z
    exact Rat.num_eq_zero.mp z
  · intro z
    subst z
    rfl
end
theorem ixT {X : Cx} (K : PySem.W.Frag) (h : X.K = K) : IxR X (rIxT K) := h ▸ ix_tup
theorem ixL {X : Cx} (K : PySem.W.Frag) (h : X.K = K) : IxR X (rIxL K) := h ▸ ix_list
theorem pgT {X : Cx} (K : PySem.W.Frag) {es : List Expr} {k : Nat} {t : TGs} {n : Nat} {pos : Pos} (hK : X.K = K) (hc : X.calm = true) (h : PGs X es t)
    (hn : (assignEach es X.env).length = n := by rfl) (hst : (assignEach es X.env).findIdx? (·.1) = none := by rfl) : PG X (.Tuple es k pos) (gTup K n t) := hK ▸ pg_tup hc h hn hst
/-! ### a def that is known -/
structure Has (P : Program) (w : World) (K : PySem.W.Frag) (mg : Str → Option Value) (base : Heap) (x : Str) (k : Nat) (ps : List Str) (sp : Sp) (f : Addr) (fd : FuncData) : Prop where
  kp : PySem.W.keepIn K (.ref f) = true
  bd : Binds K fd ps []
  gl : mg x = some (.ref f)
  ok : FnOk P w K mg base CX0 k f fd ps sp
theorem pe_cl {X : Cx} {x : Str} {k : Nat} {ps : List Str} {sp : Sp} {f : Addr} {fd : FuncData} {e : Expr} {es : List Expr} {t : TA} {p pos : Pos} {E : XK} (D : Has X.prog X.w X.K X.mg X.base x k ps sp f fd) (hr : Room k X.A) (ha : PA X (e :: es) t) (hx : Passes CX0 X E := by exact pass0)
    (hg : Gl X x := by rfl) (hdb : (x == ("__debug__" : Str)) = false := by decide) (he : starEach (e :: es) X.env = (false, eval e X.env) :: starEach es X.env := by rfl) (hpl : (backTo pos (starEach es X.env)).any (·.1) = false := by rfl) :
    PE X (.Call (.Name x p) (e :: es) [] pos) (tCall sp [] E t) := pe_call D.ok hr hg D.gl D.kp D.bd .nil hx ha hdb he hpl
abbrev f2N : List Str := ["one", "other"]
section
variable {P : Program} {w : World} {K : PySem.W.Frag} {mg : Str → Option Value} {base : Heap}
/-! ### a row less so many times another one -/
abbrev sLessBy : Stmt := top 19
abbrev nLessBy : List Str := ["row", "other", "place", "by", "one", "its"]
abbrev RowP (K : PySem.W.Frag) (W : Nat) (f : Nat → Rat) : V → Hp → Prop := LsP W fun j => Fr K (f j)
theorem row_mono {W : Nat} {f : Nat → Rat} : Mono (RowP K W f) := mono_ls fun _ => Fr.mono
theorem row_lst {W : Nat} {f : Nat → Rat} : Lst (RowP K W f) := lst_ls fun _ => tst_fr
def spLessBy (K : PySem.W.Frag) : Sp := fun vs H Q _ => ∃ (x y : V) (W place : Nat) (f g : Nat → Rat) (a : Nat), vs = [x, y, .int (place : Int)] ∧ RowP K W f x H ∧ RowP K W g y H ∧ place < W ∧ W ≤ 40000 ∧ (∀ j, j < W → Sz a (f j) ∧ Sz a (g j)) ∧ 0 < a ∧ a ≤ 2000 ∧
  ∀ v H2, Ex H H2 → RowP K W (fun j => f j - f place * g j) v H2 → (v = x ∨ ∃ p, v = .ref p ∧ H p = none) → Q v H2
theorem scLessBy : FnScope nLessBy ["row", "other", "place"] (defScope sLessBy) := ⟨rfl, rfl, rfl, by decide +kernel, rfl, by decide +kernel, by decide +kernel⟩
theorem ok_lessBy {f fD fP : Addr} {fd fdD fdP : FuncData} (F : Fun K "less_by" "less_by" sLessBy f fd) (mz : mg "zip" = none) (D : Has P w K mg base "difference" 3 f2N (spFr2 K (fun _ => True) (· - ·)) fD fdD) (Pr : Has P w K mg base "product" 3 f2N (spFr2 K (fun _ => True) (· * ·)) fP fdP) :
    FnOk P w K mg base CX0 4 f fd ["row", "other", "place"] (spLessBy K) := by
  refine F.ok scLessBy (fun vs H Q E h => ?_) (fun cdv A outer s H vs Q E hr h => ?_)
  · obtain ⟨x, y, W, place, f, g, a, rfl, _⟩ := h
    rfl
  · obtain ⟨x, y, W, place, f, g, a, rfl, hx, hy, hp, hW, hs, a0, a1, k⟩ := h
    refine ⟨_, pss_cons (ps_set (i := 3) scLessBy.nd rfl (.inr rfl) (pe_ix ix_list (pv 0) (pv 2) (fun _ _ => rfl)))
      (pss_cons (ps_if (pt_cmpR op_eq (pe_ix ix_tup (pv 3) pe_int (fun _ _ => rfl)) pe_int (nomark _)) (pss_one (ps_ret (pv 0))) pss_nil)
      (pss_one (ps_ret (pe_lc (own := [("one", 4), ("its", 5)]) (g := gTup K 2 (gCons (gName 4) (gCons (gName 5) gNil))) (tt := tYes) rfl scLessBy.nd (pi_zip (by rfl) mz (pa_cons (pv 0) (pa_cons (pv 1) pa_nil))) (blkOk_by (N := nLessBy) (sc := defScope sLessBy) (by decide +kernel))
        (fun _ _ _ _ _ => pgT K rfl rfl (pgs_cons (pg_name (i := 4) scLessBy.nd rfl (.inl rfl)) (pgs_cons (pg_name (i := 5) scLessBy.nd rfl (.inl rfl)) pgs_nil))) (fun _ _ _ _ _ => pts_nil)
        (fun _ _ _ _ _ => pe_ifExp (pt_cmpR op_ne (pe_ix (ixT K rfl) (pv 5) pe_int (fun _ _ => rfl)) pe_int (nomark _)) (pe_cl D hr (pa_cons (pv 4) (pa_cons (pe_cl Pr hr (pa_cons (pv 3) (pa_cons (pv 5) pa_nil))) pa_nil))) (pv 4)))))), ?_⟩
    refine qp_asg (ep_ixL (ep_varM rfl hx row_mono) (ev_var rfl) hp fun _ => Fr.mono) fun v H1 e1 hv => ?_
    have hx1 := row_mono _ _ _ e1 hx
    have hy1 := row_mono _ _ _ e1 hy
    refine q_when (b := decide (f place = 0)) (num_zero ▸ et_test (ev_op (ev_num (ep_varM rfl hv Fr.mono)) ev_c (rv_eq rfl))) (fun hb H2 e2 => ?_) fun hb H2 e2 => ?_
    · have z : f place = 0 := of_decide_eq_true hb
      refine s_ret (ev_var rfl) fun H3 e3 => k x H3 ((e1.trans e2).trans e3) (ls_congr (fun i y H _ p => fr_cast (by rw [z]; grind) p) (row_mono _ _ _ ((e1.trans e2).trans e3) hx)) (.inl rfl)
    · have hx2 := row_mono _ _ _ (e1.trans e2) hx
      have hy2 := row_mono _ _ _ (e1.trans e2) hy
      have hv2 := Fr.mono _ _ _ e2 hv
      refine sn_ret (en_lc (sr_zipP (ap_two row_mono (ep_varM rfl hx2 row_mono) (ep_varM rfl hy2 row_mono)) (fun _ => Fr.mono) fun _ => Fr.mono) hW (Pi := fun j => Fr K (f j - f place * g j)) (fun _ => Fr.mono) ?_) fun p H3 hp e3 q => k _ H3 ((e1.trans e2).trans e3) q (.inr ⟨p, rfl, fresh_back (e1.trans e2) hp⟩)
      rintro i pr H3 hi e3 ⟨T, p1, p2, rfl, hT, h1, h2⟩
      refine ⟨_, fun Q q => g_pair hT q, rfl, EvP.d tst_fr (ep_if (b := !decide (g i = 0)) (by
        rw [← num_zero]
        exact et_test (ev_op (ev_num (ep_varM rfl h2 Fr.mono)) ev_c (rv_ne rfl))) (fun hb => ?_) fun hb => ?_)⟩
      · refine ep_fr2 a (a + a) (ep_varM rfl h1 Fr.mono) (ep_fr2 a a (ep_varM rfl (Fr.mono _ _ _ e3 hv2) Fr.mono) (ep_varM rfl h2 Fr.mono) (hs place hp).1 (hs i hi).2 ⟨a0, a0, by omega⟩ trivial) (hs i hi).1 ((hs place hp).1.mul (hs i hi).2) ⟨a0, by omega, by omega⟩ trivial
      · have z : g i = 0 := by simpa using hb
        exact ep_varM rfl (fr_cast (by rw [z]; grind) h1) Fr.mono
end
end EW
set_option Elab.async false
set_option linter.all false
set_option maxRecDepth 100000
set_option maxHeartbeats 4000000
set_option exponentiation.threshold 10000
namespace EW
open PySem PySem.Spec PyProof.Rows L2 Evl
/-! ### fields by names in sequence -/
theorem look_zip : ∀ {nm : List Str} {vs : List V} {i : Nat} {g : Str}, nm.Nodup → nm[i]? = some g → (nm.zip vs).lookup g = vs[i]?
  | [], _, _, _, _, h => by simp at h
  | a :: nm, [], i, g, _, _ => by simp
  | a :: nm, v :: vs, 0, g, _, h => by
    simp at h
    subst h
    simp [List.lookup]
  | a :: nm, v :: vs, i + 1, g, nd, h => by
    have h' : nm[i]? = some g := by simpa using h
    have ne : ¬ (g == a) = true := by
      intro z
      have : g = a := by simpa using z
      subst this
      exact (List.nodup_cons.mp nd).1 (List.mem_of_getElem? h')
    show List.lookup g ((a, v) :: nm.zip vs) = _
    rw [List.lookup_cons]
    simp only [Bool.not_eq_true] at ne
    rw [ne]
    simpa using look_zip (vs := vs) (List.nodup_cons.mp nd).2 h'
theorem look_none : ∀ {nm : List Str} {vs : List V} {g : Str}, g ∉ nm → (nm.zip vs).lookup g = none
  | [], _, _, _ => rfl
  | a :: nm, [], g, _ => by simp
  | a :: nm, v :: vs, g, h => by
    have ne : (g == a) = false := by
      simp at h ⊢
      exact h.1
    show List.lookup g ((a, v) :: nm.zip vs) = _
    rw [List.lookup_cons, ne]
    exact look_none fun z => h (List.mem_cons_of_mem _ z)
theorem put_set : ∀ {nm : List Str} {vs : List V} {i : Nat} {g : Str} {v : V}, nm.Nodup → nm[i]? = some g → i < vs.length → putF g v (nm.zip vs) = nm.zip (vs.set i v)
  | [], _, _, _, _, _, h, _ => by simp at h
  | a :: nm, [], i, g, _, _, _, hl => by simp at hl
  | a :: nm, w :: vs, 0, g, v, _, h, _ => by
    simp at h
    subst h
    simp [putF]
  | a :: nm, w :: vs, i + 1, g, v, nd, h, hl => by
    have h' : nm[i]? = some g := by simpa using h
    have ne : ¬ a = g := by
      rintro rfl
      exact (List.nodup_cons.mp nd).1 (List.mem_of_getElem? h')
    show putF g v ((a, w) :: nm.zip vs) = _
    unfold putF
    rw [if_neg ne, put_set (List.nodup_cons.mp nd).2 h' (by simpa using hl)]
    rfl
theorem put_app : ∀ {nm : List Str} {vs : List V} {g : Str} {v : V}, nm.Nodup → nm[vs.length]? = some g → putF g v (nm.zip vs) = nm.zip (vs ++ [v])
  | [], vs, _, _, _, h => by simp at h
  | a :: nm, [], g, v, _, h => by
    simp at h
    subst h
    simp [putF]
  | a :: nm, w :: vs, g, v, nd, h => by
    have h' : nm[vs.length]? = some g := by simpa using h
    have ne : ¬ a = g := by
      rintro rfl
      exact (List.nodup_cons.mp nd).1 (List.mem_of_getElem? h')
    show putF g v ((a, w) :: nm.zip vs) = _
    unfold putF
    rw [if_neg ne, put_app (List.nodup_cons.mp nd).2 h']
    rfl
abbrev nmT : List Str := ["own_many", "own_high", "own_signs", "own_rows", "own_basis", "own_cost"]
theorem nd_T : nmT.Nodup := by decide +kernel
def flT (vs : List V) : List (Str × V) := nmT.zip vs
theorem flT_len (vs : List V) : (flT vs).length ≤ 6 := by
  unfold flT
  rw [List.length_zip]
  exact Nat.min_le_left _ _
theorem flT_nil : flT [] = [] := rfl
theorem flT_at {vs : List V} {i : Nat} {g : Str} {v : V} (h : nmT[i]? = some g) (hv : vs[i]? = some v) : (flT vs).lookup g = some v := (look_zip nd_T h).trans hv
theorem flT_no {vs : List V} {g : Str} (h : g ∉ nmT) : (flT vs).lookup g = none := look_none h
/-! ### the class -/
abbrev sTab : Stmt := top 18
abbrev sInit : Stmt := inClass sTab 0
abbrev sFirstRow : Stmt := inClass sTab 1
abbrev sFirstCost : Stmt := inClass sTab 2
abbrev sSolve : Stmt := inClass sTab 3
abbrev sEntering : Stmt := inClass sTab 4
abbrev sLeaving : Stmt := inClass sTab 5
abbrev sTurn : Stmt := inClass sTab 6
abbrev sSolved : Stmt := inClass sTab 7
abbrev sParts : Stmt := inClass sTab 8
abbrev sPrices : Stmt := inClass sTab 9
structure TbC (K : PySem.W.Frag) (C : Addr) : Prop where
  cl : Cls K C
  no : ∀ g ∈ nmT, NoAttr K C g
section
variable {K : PySem.W.Frag} {σ : L2.St} {H : Hp} {ta te : TE} {p C dx : Addr} {vs : List V} {v : V} {i : Nat} {g : Str} {P : V → Hp → Prop}
theorem ev_fldT (T : TbC K C) (ha : Ev ta σ H (.ref p)) (hp : H p = some (.ins C dx (flT vs))) (h : nmT[i]? = some g) (hv : vs[i]? = some v) : Ev (tFld K ta g) σ H v := fun H1 e Q q =>
  ha H1 e _ fun H2 e2 => ⟨p, C, dx, _, v, rfl, e2 _ _ (e _ _ hp), T.cl, T.no g (List.mem_of_getElem? h), flT_at h hv, q H2 e2⟩
/-- a method without a change: as a call -/
theorem ep_meth {sp : Sp} {dvs : List V} {E : XK} {m : Str} {t : TA} {Pa : List V → Hp → Prop} (ha : Ev ta σ H (.ref p)) (hp : H p = some (.ins C dx (flT vs))) (hm : m ∉ nmT) (ht : EaP t σ H Pa) (hs : ∀ ws H1, Ex H H1 → Pa ws H1 → ∀ Q : VK, RetP P H1 Q → sp (.ref p :: (ws ++ dvs)) H1 Q E) :
    EvP (tMeth C m sp dvs E ta t) σ H P := fun H1 e Q q => ha H1 e _ fun H2 e2 => ⟨p, dx, _, rfl, e2 _ _ (e _ _ hp), flT_no hm, ht H2 (e.trans e2) _ fun ws H3 e3 pa => hs ws H3 ((e.trans e2).trans e3) pa Q fun v H4 e4 k => q v H4 ((e2.trans e3).trans e4) k⟩
theorem en_meth {sp : Sp} {dvs : List V} {E : XK} {m : Str} {t : TA} {Pa : List V → Hp → Prop} (ha : Ev ta σ H (.ref p)) (hp : H p = some (.ins C dx (flT vs))) (hm : m ∉ nmT) (ht : EaP t σ H Pa) (hs : ∀ ws H1, Ex H H1 → Pa ws H1 → ∀ Q : VK, (∀ q H2, H1 q = none → Ex H1 H2 → P (.ref q) H2 → Q (.ref q) H2) → sp (.ref p :: (ws ++ dvs)) H1 Q E) :
    EvN (tMeth C m sp dvs E ta t) σ H P := fun H1 e Q q => ha H1 e _ fun H2 e2 => ⟨p, dx, _, rfl, e2 _ _ (e _ _ hp), flT_no hm, ht H2 (e.trans e2) _ fun ws H3 e3 pa => hs ws H3 ((e.trans e2).trans e3) pa Q fun v H4 hv e4 k => q v H4 (fresh_back (e2.trans e3) hv) ((e2.trans e3).trans e4) k⟩
/-- self.f = e -/
theorem s_fldT {D : Ends} (T : TbC K C) (h : EvP te σ H P) (ha : ∀ H1, Ex H H1 → Ev ta σ H1 (.ref p)) (hp : H p = some (.ins C dx (flT vs))) (hg : g ∈ nmT) (k : ∀ v H1, Ex H H1 → P v H1 → (Ex H H1 → True) → D.nx σ (upd H1 p (.ins C dx (putF g v (flT vs))))) (mP : Mono P) : sFld K ta te g D σ H := h H (Ex.refl H) _ fun v H1 e1 pv => ha H1 e1 H1 (Ex.refl H1) _ fun H2 e2 =>
  ⟨p, C, dx, _, rfl, e2 _ _ (e1 _ _ hp), T.cl, T.no g hg, by have := flT_len vs; omega, k v H2 (e1.trans e2) (mP _ _ _ e2 pv) fun _ => trivial⟩
end
end EW
set_option Elab.async false
set_option linter.all false
set_option maxRecDepth 100000
set_option maxHeartbeats 4000000
set_option exponentiation.threshold 10000
namespace EW
open PySem PySem.Spec PyProof.Rows L2 Evl
section
variable {K : PySem.W.Frag} {σ : L2.St} {H H' F : Hp} {ta tb te tx tl : TE} {t u : TT} {x y z v : V} {r : R2} {P P' : V → Hp → Prop} {n m : Nat} {Pi Pj : Nat → V → Hp → Prop} {D : Ends} {tz : TS}
theorem qn_asg {i : Nat} (h : EvN te σ H P) (k : ∀ p H1, H p = none → Ex H H1 → P (.ref p) H1 → tz D (σ.set i (some (.ref p))) H1) : tSeq (tAsg te (gName i)) tz D σ H := h H (Ex.refl H) _ fun p H1 hp e q => k p H1 hp e q
/-- xs.extend of a new list -/
theorem q_ext {l : Addr} {xs : List V} (hl : H l = some (.lst xs)) (ha : Ev ta σ H (.ref l)) (h : EvN te σ H (LsP n Pj)) (hz : xs.length + n ≤ 80000) (k : ∀ H1 zs, Ex H H1 → H1 l = some (.lst xs) → zs.length = n → (∀ i x, zs[i]? = some x → Pj i x H1) → tz D σ (upd H1 l (.lst (xs ++ zs)))) :
    tSeq (tDrop (tBM K "list" rExtend ta (tCons te tNil))) tz D σ H := ha H (Ex.refl H) _ fun H1 e1 =>
  ⟨Or.inl ⟨rfl, xs, sq_of (e1 l _ hl)⟩, h H1 e1 _ fun p H2 hp e2 ⟨p', zs, ep, hp2, hlen, hx⟩ => by
    cases ep
    exact ⟨l, p, xs, zs, rfl, rfl, e2 l _ (e1 l _ hl), hp2, sz_of (by omega), k H2 zs (e1.trans e2) (e2 l _ (e1 l _ hl)) hlen hx⟩⟩
theorem fr_int {a : Addr} {z : Int} (h : H a = some (.tup [.int z, .int 1])) : Fr K (z : Rat) (.ref a) H := ⟨a, rfl, st_of h⟩
/-- (e, 1) -/
theorem ep_int1 {i : Int} (ha : Ev ta σ H (.int i)) : EvP (tTup (tCons ta (tCons (tC (.int 1)) tNil))) σ H (Fr K (i : Rat)) := ep_w (eu_p (eu_tup (ea_cons ha (ea_cons ev_c ea_nil)) (by show 2 ≤ 100000; decide))) fun v H2 e ⟨p, ev, hp⟩ => by
  subst ev
  exact fr_int hp
theorem ev_intB {b : Bool} (ha : Ev ta σ H (.bl b)) : Ev (tCB (fun xs H Q => (∃ i, xs = [V.int i] ∧ Q (.int i) H) ∨ ∃ k, xs = [V.bl k] ∧ Q (.int (if k then 1 else 0)) H) (tCons ta tNil)) σ H (.int (if b then 1 else 0)) :=
  ev_cb (ea_cons ha ea_nil) fun H1 _ Q q => .inr ⟨b, rfl, q H1 (Ex.refl H1)⟩
theorem ev_intI {i : Int} (ha : Ev ta σ H (.int i)) : Ev (tCB (fun xs H Q => (∃ i, xs = [V.int i] ∧ Q (.int i) H) ∨ ∃ k, xs = [V.bl k] ∧ Q (.int (if k then 1 else 0)) H) (tCons ta tNil)) σ H (.int i) :=
  ev_cb (ea_cons ha ea_nil) fun H1 _ Q q => .inl ⟨i, rfl, q H1 (Ex.refl H1)⟩
theorem ev_lenP (ha : EvP ta σ H (LsP n Pi)) : Ev (tCB (fun xs H Q => ∃ p ys, xs = [V.ref p] ∧ (SqL K H p ys ∨ SqT K H p ys) ∧ Q (.int ys.length) H) (tCons ta tNil)) σ H (.int (n : Int)) := fun H1 e Q q =>
  ha H1 e _ fun v H2 e2 ⟨p, xs, ev, hp, hl, _⟩ => ⟨p, xs, by rw [ev], .inl (sq_of hp), by rw [hl]; exact q H2 e2⟩
end
section
variable {P : Program} {w : World} {K : PySem.W.Frag} {mg : Str → Option Value} {base : Heap}
abbrev IntsP (n : Nat) (f : Nat → Int) : V → Hp → Prop := LsP n fun i x _ => x = .int (f i)
abbrev ColsP (n h : Nat) (c : Nat → Nat → Int) : V → Hp → Prop := LsP n fun j => IntsP h (c j)
theorem ints_mono {n : Nat} {f : Nat → Int} : Mono (IntsP n f) := mono_ls fun _ => mono_eq
theorem ints_lst {n : Nat} {f : Nat → Int} : Lst (IntsP n f) := lst_ls fun _ => tst_eq
theorem cols_mono {n h : Nat} {c : Nat → Nat → Int} : Mono (ColsP n h c) := mono_ls fun _ => ints_mono
structure Bl2 (mg : Str → Option Value) : Prop where
  len : mg "len" = none
  range : mg "range" = none
  int : mg "int" = none
  zip : mg "zip" = none
  enum : mg "enumerate" = none
  all : mg "all" = none
  tuple : mg "tuple" = none
/-! ### first_row -/
abbrev nFirstRow : List Str := ["self", "columns", "goal", "at", "sign", "row", "column", "to"]
def spFirstRow (K : PySem.W.Frag) (C : Addr) : Sp := fun vs H Q _ => ∃ (p dx : Addr) (fs : List V) (x y : V) (n h at_ a : Nat) (col : Nat → Nat → Int) (goal : Nat → Int) (s : V), vs = [.ref p, x, y, .int (at_ : Int)] ∧ H p = some (.ins C dx (flT fs)) ∧ fs[2]? = some s ∧ IntsP h (SX.sg goal) s H ∧
  ColsP n h col x H ∧ IntsP h goal y H ∧ at_ < h ∧ n ≤ 1000 ∧ h ≤ 1000 ∧ (∀ j i, j < n → i < h → (col j i).natAbs < 2 ^ a) ∧ (∀ i, i < h → (goal i).natAbs < 2 ^ a) ∧ 0 < a ∧ a ≤ 1000 ∧
  ∀ q H2, H q = none → Ex H H2 → RowP K (n + h + 1) (SX.A0 n h col goal at_) (.ref q) H2 → Q (.ref q) H2
theorem scFirstRow : FnScope nFirstRow ["self", "columns", "goal", "at"] (defScope sFirstRow) := ⟨rfl, rfl, rfl, by decide +kernel, rfl, by decide +kernel, by decide +kernel⟩
theorem ok_firstRow {f C : Addr} {fd : FuncData} (F : Fun K "first_row" "Tableau.first_row" sFirstRow f fd) (B : Bl2 mg) (T : TbC K C) : FnOk P w K mg base CX0 1 f fd ["self", "columns", "goal", "at"] (spFirstRow K C) := by
  refine F.ok scFirstRow (fun vs H Q E h => ?_) (fun cdv A outer s H vs Q E hr h => ?_)
  · obtain ⟨p, dx, fs, x, y, n, h, at_, a, col, goal, s, rfl, _⟩ := h
    rfl
  · obtain ⟨p, dx, fs, x, y, n, h, at_, a, col, goal, s, rfl, hp, hs, hsg, hc, hg, hat, hn, hh, bc, bg, a0, a1, k⟩ := h
    refine ⟨_, pss_cons (ps_set (i := 4) scFirstRow.nd rfl (.inr rfl) (pe_ix ix_list (pe_fld (pv 0) rfl) (pv 3) (fun _ _ => rfl)))
      (pss_cons (ps_setLc (i := 5) (own := [("column", 6)]) (g := gName 6) (tt := tYes) rfl scFirstRow.nd rfl rfl (sw_true rfl rfl rfl (by decide +kernel)) (pi_list (pv 1)) (blkOk_by (N := nFirstRow) (sc := defScope sFirstRow) (by decide +kernel))
        (fun _ _ _ _ _ => pg_name (i := 6) scFirstRow.nd rfl (.inl rfl)) (fun _ _ _ _ _ => pts_nil) (fun _ _ _ _ _ => pe_tup (pa_cons (pe_op op_mulW (pv 4) (pe_ix (ixL K rfl) (pv 6) (pv 3) (fun _ _ => rfl))) (pa_cons pe_int pa_nil))))
      (pss_cons (ps_expr (pe_bm PySem.F.plainAttrs_list PySem.F.slot_list_extend PySem.F.type_list_extend mt_extend (pv 5) (pa_cons (pe_lc (own := [("to", 7)]) (g := gName 7) (tt := tYes) rfl scFirstRow.nd (pi_range1 rfl B.range (pa_cons (pe_callB call_len_seq (by rfl) B.len PySem.boot_len (pa_cons (pv 2) pa_nil)) pa_nil)) (blkOk_by (N := nFirstRow) (sc := defScope sFirstRow) (by decide +kernel))
        (fun _ _ _ _ _ => pg_name (i := 7) scFirstRow.nd rfl (.inl rfl)) (fun _ _ _ _ _ => pts_nil) (fun _ _ _ _ _ => pe_tup (pa_cons (pe_callTy call_int1 (by rfl) B.int (by decide +kernel) (pa_cons (pe_cmpR op_eq (pv 7) (pv 3) (nomark _)) pa_nil)) (pa_cons pe_int pa_nil)))) pa_nil)))
      (pss_one (ps_ret (pe_lst (StX.pa_star (pv 5) (pa_cons (pe_tup (pa_cons (pe_op op_mulW (pv 4) (pe_ix ix_list (pv 2) (pv 3) (fun _ _ => rfl))) (pa_cons pe_int pa_nil))) pa_nil))))))), ?_⟩
    have f1 : ∀ {H1}, Ex H H1 → H1 p = some (.ins C dx (flT fs)) := fun e => e _ _ hp
    refine qp_asg (P := fun v _ => v = .int (SX.sg goal at_)) (ep_ixL (ep_of (ev_fldT T (ev_var rfl) hp rfl hs) fun H2 e => ints_mono _ _ _ e hsg) (ev_var rfl) hat fun _ => mono_eq) fun v H1 e1 hv => ?_
    subst hv
    have sgb : (SX.sg goal at_).natAbs < 2 ^ 1 := by
      unfold SX.sg
      split <;> decide
    refine qn_asg (en_lc (Pi := fun j => Fr K (SX.A0 n h col goal at_ j)) (sr_listP (ep_varM rfl (cols_mono _ _ _ e1 hc) cols_mono) fun _ => ints_mono) (by omega) (fun _ => Fr.mono) ?_) fun l H2 l0 e2 hl => ?_
    · intro j c H3 hj e3 hX
      refine ⟨_, fun Q q => q, rfl, EvP.d tst_fr ?_⟩
      rw [SX.A0_col hj]
      exact ep_int1 (ev_mulW (ev_var rfl) (p_ev (ep_ixL (ep_varM rfl hX ints_mono) (ev_var rfl) hat fun _ => mono_eq)) sgb (bc j at_ hj hat) (by decide) a0 (by omega))
    · obtain ⟨l', xs, el, hl, xl, hx⟩ := hl
      cases el
      refine q_ext (n := h) (Pj := fun i => Fr K (if i = at_ then 1 else 0)) hl (ev_var rfl) (en_lc (sr_rangeN (ea_cons (ev_lenP (ep_varM rfl (ints_mono _ _ _ (e1.trans e2) hg) ints_mono)) ea_nil) (by omega)) (by omega) (fun _ => Fr.mono) ?_) (by omega) ?_
      · intro i v H3 hi e3 hX
        subst hX
        refine ⟨_, fun Q q => q, rfl, EvP.d tst_fr (ep_w (ep_int1 (ev_intB (ev_op (ev_var rfl) (ev_var rfl) (rv_eq rfl)))) fun v H4 e4 hv => fr_cast ?_ hv)⟩
        by_cases z : i = at_
        · subst z
          simp
        · have : ¬ (i : Int) = at_ := by omega
          simp [z, this]
      · intro H3 zs e3 hl3 zl hz
        have ex : Ex H (upd H3 l (.lst (xs ++ zs))) := Ex.mut ((e1.trans e2).trans e3) (fresh_back e1 l0)
        have hrow : ∀ i v, (xs ++ zs)[i]? = some v → Fr K (SX.A0 n h col goal at_ i) v (upd H3 l (.lst (xs ++ zs))) := fun i v q => by
          rw [List.getElem?_append] at q
          split at q
          · exact tst_fr _ _ _ _ _ hl3 mt_l (Fr.mono _ _ _ e3 (hx i v q))
          · have hi : i - xs.length < zs.length := (List.getElem?_eq_some_iff.mp q).1
            have hk : i - n < h := by omega
            have e : SX.A0 n h col goal at_ i = if i - n = at_ then 1 else 0 := by
              have := SX.A0_art (n := n) (col := col) (goal := goal) (i := at_) hk
              rw [show n + (i - n) = i by omega] at this
              rw [this]
            rw [e, ← xl]
            exact tst_fr _ _ _ _ _ hl3 mt_l (hz _ v q)
        have hupd : (upd H3 l (.lst (xs ++ zs))) l = some (.lst (xs ++ zs)) := upd_same
        generalize upd H3 l (.lst (xs ++ zs)) = H4 at ex hrow hupd
        have last : EvP (tTup (tCons (tOp (rI CMulW fun i j => .int (i * j)) (tVar 4) (tOp (rIxL K) (tVar 2) (tVar 3))) (tCons (tC (.int 1)) tNil))) [some (.ref p), some x, some y, some (.int (at_ : Int)), some (.int (SX.sg goal at_)), some (.ref l), none, none] H4 (Fr K (SX.A0 n h col goal at_ (n + h))) := by
          rw [SX.A0_goal]
          exact ep_int1 (ev_mulW (ev_var rfl) (p_ev (ep_ixL (ep_varM rfl (ints_mono _ _ _ ex hg) ints_mono) (ev_var rfl) hat fun _ => mono_eq)) sgb (bg at_ hat) (by decide) a0 (by omega))
        refine ⟨.ref l, rfl, l, xs ++ zs, rfl, .inr (sq_of hupd), last H4 (Ex.refl _) _ fun v H5 e5 hv => ⟨?_, fun q hq => k q _ (fresh_back (ex.trans e5) hq) ((ex.trans e5).trans (Ex.new hq)) ⟨q, _, rfl, upd_same, ?_, ?_⟩⟩⟩
        · show (xs ++ zs ++ [v]).length ≤ sizeLine
          refine sz_of ?_
          simp
          omega
        · simp
          omega
        · intro i x hi
          refine Fr.mono _ _ _ (Ex.new hq) ?_
          rw [List.getElem?_append] at hi
          split at hi
          · exact Fr.mono _ _ _ e5 (hrow i x hi)
          · rename_i hni
            have h0 : i - (xs ++ zs).length < 1 := by have := (List.getElem?_eq_some_iff.mp hi).1; simpa using this
            have h1 : i = n + h := by simp at h0 hni; omega
            have h2 : i - (xs ++ zs).length = 0 := by omega
            rw [h2] at hi
            simp at hi
            subst hi h1
            exact hv
end
end EW
set_option Elab.async false
set_option linter.all false
set_option maxRecDepth 100000
set_option maxHeartbeats 4000000
set_option exponentiation.threshold 10000
namespace EW
open PySem PySem.Spec PyProof.Rows L2 Evl
section
variable {K : PySem.W.Frag} {σ : L2.St} {H : Hp} {ta tb te : TE} {p q : Rat}
theorem num_lt {q : Rat} : decide (q.num < 0) = decide (q < 0) := by
  rw [decide_eq_decide, Rat.lt_iff]
  simp
theorem num_gt {q : Rat} : decide (0 < q.num) = decide (0 < q) := by
  rw [decide_eq_decide, Rat.lt_iff]
  simp
theorem dp_fr {v : V} (h : Fr K p v H) : Dp K H v (.tuple [.int p.num, .int (p.den : Int)]) := by
  obtain ⟨a, rfl, s⟩ := h
  exact .tup s (.cons (.int _) (.cons (.int _) .nil))
/-- equality of two fractions -/
theorem ev_eqFr (ha : EvP ta σ H (Fr K p)) (hb : EvP tb σ H (Fr K q)) : Ev (tOp (rEqD K) ta tb) σ H (.bl (decide (p = q))) := fun H1 e Q k =>
  ha H1 e _ fun x H2 e2 h1 => hb H2 (e.trans e2) _ fun y H3 e3 h2 => ⟨_, _, dp_fr (Fr.mono _ _ _ e3 h1), dp_fr h2, rfl, rfl, by
    have : PyData.eqv (.tuple [.int p.num, .int (p.den : Int)]) (.tuple [.int q.num, .int (q.den : Int)]) = decide (p = q) := by
      show ((p.num == q.num) && (((p.den : Int) == (q.den : Int)) && true)) = decide (p = q)
      rw [Bool.eq_iff_iff]
      simp
      constructor
      · rintro ⟨h1, h2⟩
        exact Rat.ext h1 (by exact_mod_cast h2)
      · rintro rfl
        exact ⟨rfl, rfl⟩
    rw [this]
    exact k H3 (e2.trans e3)⟩
theorem et_isN {v : V} (ha : Ev ta σ H v) : EvT (tTest (tOp rIsN ta (tC .non))) σ H (decide (v = .non)) := et_test (ev_op ha ev_c fun H1 _ Q k => ⟨rfl, k H1 (Ex.refl H1)⟩)
theorem et_notN {v : V} (ha : Ev ta σ H v) : EvT (tTest (tOp rNotN ta (tC .non))) σ H (!decide (v = .non)) := et_test (ev_op ha ev_c fun H1 _ Q k => ⟨rfl, k H1 (Ex.refl H1)⟩)
/-- (a fraction, an int, an int) -/
def TrP (K : PySem.W.Frag) (q : Rat) (b k : Nat) (v : V) (H : Hp) : Prop := ∃ T f, v = .ref T ∧ SqT K H T [f, .int (b : Int), .int (k : Int)] ∧ Fr K q f H
theorem tr_mono {q : Rat} {b k : Nat} : Mono (TrP K q b k) := fun v H H' e ⟨T, f, h1, h2, h3⟩ => ⟨T, f, h1, ex_t e h2, Fr.mono _ _ _ e h3⟩
theorem ep_tr {tc : TE} {b k : Nat} (ha : EvP ta σ H (Fr K q)) (hb : Ev tb σ H (.int (b : Int))) (hc : Ev tc σ H (.int (k : Int))) : EvP (tTup (tCons ta (tCons tb (tCons tc tNil)))) σ H (TrP K q b k) := fun H1 e Q q =>
  ha H1 e _ fun x H2 e2 h1 => hb H2 (e.trans e2) _ fun H3 e3 => hc H3 ((e.trans e2).trans e3) _ fun H4 e4 => ⟨by show 3 ≤ sizeLine; decide, fun p hp => q _ _ (((e2.trans e3).trans e4).trans (Ex.new hp)) ⟨p, x, rfl, st_of upd_same, Fr.mono _ _ _ ((e3.trans e4).trans (Ex.new hp)) h1⟩⟩
theorem at0' {x : V} {xs : List V} : atI (x :: xs) 0 = some x := at0
theorem at2 {x y z : V} {xs : List V} : atI (x :: y :: z :: xs) 2 = some z := by
  have := atI_nat (j := 2) (show (x :: y :: z :: xs)[2]? = some z from rfl)
  exact this
theorem ep_tr0 {b k : Nat} (ha : EvP ta σ H (TrP K q b k)) : EvP (tOp (rIxT K) ta (tC (.int 0))) σ H (Fr K q) := fun H1 e Q c => ha H1 e _ fun x H2 e2 ⟨T, f, h1, h2, h3⟩ => ⟨T, _, 0, _, h1, rfl, h2, at0, c _ H2 e2 h3⟩
theorem ev_tr1 {b k : Nat} (ha : EvP ta σ H (TrP K q b k)) : Ev (tOp (rIxT K) ta (tC (.int 1))) σ H (.int (b : Int)) := fun H1 e Q c => ha H1 e _ fun x H2 e2 ⟨T, f, h1, h2, h3⟩ => ⟨T, _, 1, _, h1, rfl, h2, at1, c H2 e2⟩
theorem ev_tr2 {b k : Nat} (ha : EvP ta σ H (TrP K q b k)) : Ev (tOp (rIxT K) ta (tC (.int 2))) σ H (.int (k : Int)) := fun H1 e Q c => ha H1 e _ fun x H2 e2 ⟨T, f, h1, h2, h3⟩ => ⟨T, _, 2, _, h1, rfl, h2, at2, c H2 e2⟩
end
theorem enter_at {n i : Nat} {c : Nat → Rat} (h : ∀ j, j < i → ¬ c j < 0) (hi : i < n) (q : c i < 0) : SX.enter n c = some i := by
  unfold SX.enter
  rw [List.find?_eq_some_iff_getElem]
  refine ⟨by simpa using q, i, by simpa using hi, by simp, fun j hj => ?_⟩
  simpa using h j hj
theorem enter_no {n : Nat} {c : Nat → Rat} (h : ∀ j, j < n → ¬ c j < 0) : SX.enter n c = none := by
  unfold SX.enter
  rw [List.find?_eq_none]
  intro j hj
  simpa using h j (List.mem_range.mp hj)
theorem sz0 {a : Nat} (h : 0 < a) : Sz a 0 := (Sz.mono (a := 1) ⟨by decide, by decide⟩ h)
theorem sz1 {a : Nat} (h : 1 < a) : Sz a 1 := (Sz.mono (a := 2) ⟨by decide, by decide⟩ h)
section
variable {P : Program} {w : World} {K : PySem.W.Frag} {mg : Str → Option Value} {base : Heap}
abbrev MatP (K : PySem.W.Frag) (h W : Nat) (T : Nat → Nat → Rat) : V → Hp → Prop := LsP h fun i => RowP K W (T i)
theorem mat_mono {h W : Nat} {T : Nat → Nat → Rat} : Mono (MatP K h W T) := mono_ls fun _ => row_mono
/-- a constant that is a fraction -/
structure FrC (K : PySem.W.Frag) (mg : Str → Option Value) (x : Str) (q : Rat) (a : Addr) : Prop where
  gl : mg x = some (.ref a)
  fr : ∀ H, Fr K q (.ref a) H
/-! ### first_cost -/
abbrev nFirstCost : List Str := ["self", "place", "total", "row"]
def spFirstCost (K : PySem.W.Frag) (C : Addr) : Sp := fun vs H Q _ => ∃ (p dx : Addr) (fs : List V) (n h place a : Nat) (T : Nat → Nat → Rat) (r : V), vs = [.ref p, .int (place : Int)] ∧ H p = some (.ins C dx (flT fs)) ∧ fs[0]? = some (.int (n : Int)) ∧ fs[1]? = some (.int (h : Int)) ∧ fs[3]? = some r ∧
  MatP K h (n + h + 1) T r H ∧ place < n + h + 1 ∧ n ≤ 1000 ∧ h ≤ 1000 ∧ (∀ i j, i < h → j < n + h + 1 → Sz a (T i j)) ∧ 0 < a ∧ (h + 1) * (a + 1) ≤ 8000 ∧
  RetP (Fr K (if n ≤ place ∧ place < n + h then 0 else - SX.sm h (fun i => T i place))) H Q
theorem scFirstCost : FnScope nFirstCost ["self", "place"] (defScope sFirstCost) := ⟨rfl, rfl, rfl, by decide +kernel, rfl, by decide +kernel, by decide +kernel⟩
theorem ok_firstCost {f C fD aN : Addr} {fd fdD : FuncData} (F : Fun K "first_cost" "Tableau.first_cost" sFirstCost f fd) (T : TbC K C) (N : FrC K mg "NOTHING" 0 aN) (D : Has P w K mg base "difference" 3 f2N (spFr2 K (fun _ => True) (· - ·)) fD fdD) : FnOk P w K mg base CX0 4 f fd ["self", "place"] (spFirstCost K C) := by
  refine F.ok scFirstCost (fun vs H Q E h => ?_) (fun cdv A outer s H vs Q E hr h => ?_)
  · obtain ⟨p, dx, fs, n, h, place, a, T, r, rfl, _⟩ := h
    rfl
  · obtain ⟨p, dx, fs, n, h, place, a, M, r, rfl, hp, h0, h1, h3, hM, hpl, hn, hh, hs, a0, ha, k⟩ := h
    refine ⟨_, pss_cons (ps_if (pt_chain op_le op_lt (pe_fld (pv 0) rfl) (pv 1) (pe_op op_add (pe_fld (pv 0) rfl) (pe_fld (pv 0) rfl))) (pss_one (ps_ret (pe_glob (v := .ref aN) rfl N.gl rfl))) pss_nil)
      (pss_cons (ps_set (i := 2) scFirstCost.nd rfl (.inl rfl) (pe_glob (v := .ref aN) rfl N.gl rfl))
      (pss_cons (ps_for PassesOwn.never rfl (pi_list (pe_fld (pv 0) rfl)) (pg_name (i := 3) scFirstCost.nd rfl (.inl rfl))
        (pss_one (ps_set (i := 2) scFirstCost.nd rfl (.inl rfl) (pe_cl D hr (pa_cons (pv 2) (pa_cons (pe_ix ix_list (pv 3) (pv 1) (fun _ _ => rfl)) pa_nil))))))
      (pss_one (ps_ret (pv 2))))), ?_⟩
    refine q_when (b := decide ((n : Int) ≤ place) && decide ((place : Int) < n + h)) (et_test (ev_chain (ev_fldT T (ev_var rfl) hp rfl h0) (ev_var rfl) rv_I0 (fun _ => ev_op (ev_fldT T (ev_var rfl) hp rfl h0) (ev_fldT T (ev_var rfl) hp rfl h1) rv_I0) fun _ => rv_I0)) (fun hb H1 e1 => ?_) fun hb H1 e1 => ?_
    · have z : n ≤ place ∧ place < n + h := by
        simp at hb
        omega
      rw [if_pos z] at k
      exact sp_ret (ep_of ev_c fun H2 e2 => N.fr H2) (k.go e1)
    · have z : ¬ (n ≤ place ∧ place < n + h) := by
        simp at hb
        omega
      rw [if_neg z] at k
      have hp1 := e1 _ _ hp
      refine q_asg ev_c fun H2 e2 => ?_
      refine q_forP (sr_listP (ep_of (ev_fldT T (ev_var rfl) (e2 _ _ hp1) rfl h3) fun H3 e3 => mat_mono _ _ _ ((e1.trans e2).trans e3) hM) fun _ => row_mono)
        (fun B i σ H' => Ex B H' ∧ ∃ v x, σ = [some (.ref p), some (.int (place : Int)), some v, x] ∧ Fr K (- SX.sm i (fun i => M i place)) v H' ∧ Sz (1 + i * (a + 1)) (- SX.sm i (fun i => M i place)))
        (fun H3 e3 => ⟨Ex.refl _, _, _, rfl, fr_cast (by simp [SX.sm]) (N.fr H3), by simpa [SX.sm] using sz0 (a := 1) (by decide)⟩) (fun B i σ H _ p => p.1) ?_ ?_
      · rintro B i x σ H3 H4 hi eB ⟨e3, v, x', rfl, hv, sv⟩ e4 hX
        have sM : Sz a (M i place) := hs i place hi hpl
        have le : (i + 1) * (a + 1) ≤ (h + 1) * (a + 1) := Nat.mul_le_mul_right _ (by omega)
        have eq : (i + 1) * (a + 1) = i * (a + 1) + (a + 1) := Nat.succ_mul ..
        refine sp_asg (ep_fr2 (1 + i * (a + 1)) a (ep_varM rfl (Fr.mono _ _ _ e4 hv) Fr.mono) (ep_ixL (ep_varM rfl hX row_mono) (ev_var rfl) hpl fun _ => Fr.mono) sv sM ⟨by omega, a0, by omega⟩ trivial) fun v2 H5 e5 hv2 => ?_
        have q : - SX.sm i (fun i => M i place) - M i place = - SX.sm (i + 1) (fun i => M i place) := by
          simp only [SX.sm]
          grind
        have sq := sv.sub sM
        rw [q] at hv2 sq
        exact ⟨(e3.trans e4).trans e5, v2, _, rfl, hv2, sq.mono (by omega)⟩
      · rintro B σ H3 eB ⟨e3, v, x', rfl, hv, sv⟩
        exact sp_ret (ep_varM rfl hv Fr.mono) (k.go (((e1.trans e2).trans eB).trans e3))
/-! ### entering -/
abbrev nEntering : List Str := ["self", "place"]
def optV : Option Nat → V
  | none => .non
  | some e => .int (e : Int)
def spEntering (K : PySem.W.Frag) (C : Addr) : Sp := fun vs H Q _ => ∃ (p dx : Addr) (fs : List V) (n W : Nat) (c : Nat → Rat) (r : V), vs = [.ref p] ∧ H p = some (.ins C dx (flT fs)) ∧ fs[0]? = some (.int (n : Int)) ∧ fs[5]? = some r ∧ RowP K W c r H ∧ n ≤ W ∧ n ≤ 1000 ∧ RetV (optV (SX.enter n c)) H Q
theorem scEntering : FnScope nEntering ["self"] (defScope sEntering) := ⟨rfl, rfl, rfl, by decide +kernel, rfl, by decide +kernel, by decide +kernel⟩
theorem ok_entering {f C : Addr} {fd : FuncData} (F : Fun K "entering" "Tableau.entering" sEntering f fd) (T : TbC K C) (B : Bl2 mg) : FnOk P w K mg base CX0 1 f fd ["self"] (spEntering K C) := by
  refine F.ok scEntering (fun vs H Q E h => ?_) (fun cdv A outer s H vs Q E hr h => ?_)
  · obtain ⟨p, dx, fs, n, W, c, r, rfl, _⟩ := h
    rfl
  · obtain ⟨p, dx, fs, n, W, c, r, rfl, hp, h0, h5, hc, hW, hn, k⟩ := h
    refine ⟨_, pss_cons (ps_for PassesOwn.never rfl (pi_range1 rfl B.range (pa_cons (pe_fld (pv 0) rfl) pa_nil)) (pg_name (i := 1) scEntering.nd rfl (.inl rfl))
        (pss_one (ps_if (pt_cmpR op_lt (pe_ix ix_tup (pe_ix ix_list (pe_fld (pv 0) rfl) (pv 1) (fun _ _ => rfl)) pe_int (fun _ _ => rfl)) pe_int (nomark _)) (pss_one (ps_ret (pv 1))) pss_nil)))
      (pss_one (ps_ret pe_non)), ?_⟩
    refine q_forP (sr_rangeN (ea_cons (ev_fldT T (ev_var rfl) hp rfl h0) ea_nil) (by omega)) (fun B i σ H' => Ex B H' ∧ (∃ x, σ = [some (.ref p), x]) ∧ ∀ j, j < i → ¬ c j < 0) (fun H1 e1 => ⟨Ex.refl _, ⟨_, rfl⟩, fun j hj => absurd hj (Nat.not_lt_zero _)⟩) (fun _ _ _ _ _ p => p.1) ?_ ?_
    · rintro B i x σ H3 H4 hi eB ⟨e3, ⟨z, rfl⟩, hj⟩ e4 hX
      subst hX
      have e := (eB.trans e3).trans e4
      refine s_when (b := decide (c i < 0)) (num_lt ▸ et_test (ev_op (ev_num (ep_ixL (ep_of (ev_fldT T (ev_var rfl) (e _ _ hp) rfl h5) fun H3 e3 => row_mono _ _ _ (e.trans e3) hc) (ev_var rfl) (by omega) fun _ => Fr.mono)) ev_c rv_I0)) (fun hb H5 e5 => ?_) fun hb H5 e5 => ?_
      · refine s_ret (ev_var rfl) fun H6 e6 => ?_
        rw [enter_at hj hi (of_decide_eq_true hb)] at k
        exact k _ ((e.trans e5).trans e6)
      · refine ⟨(e3.trans e4).trans e5, ⟨_, rfl⟩, fun j hj' => ?_⟩
        by_cases z : j = i
        · subst z
          exact of_decide_eq_false hb
        · exact hj j (by omega)
    · rintro B σ H3 eB ⟨e3, ⟨z, rfl⟩, hj⟩
      rw [enter_no hj] at k
      exact s_ret ev_c (fun H4 e4 => k _ ((eB.trans e3).trans e4))
/-! ### leaving -/
abbrev nLeaving : List Str := ["self", "place", "best", "at", "row", "own"]
def spLeaving (K : PySem.W.Frag) (C : Addr) : Sp := fun vs H Q _ => ∃ (p dx : Addr) (fs : List V) (n h e a : Nat) (T : Nat → Nat → Rat) (B : Nat → Nat) (r b : V), vs = [.ref p, .int (e : Int)] ∧ H p = some (.ins C dx (flT fs)) ∧ fs[3]? = some r ∧ fs[4]? = some b ∧ MatP K h (n + h + 1) T r H ∧
  IntsP h (fun i => (B i : Int)) b H ∧ e < n + h + 1 ∧ n ≤ 1000 ∧ h ≤ 1000 ∧ (∀ i j, i < h → j < n + h + 1 → Sz a (T i j)) ∧ 0 < a ∧ a ≤ 2000 ∧ (∃ i, i < h ∧ 0 < T i e) ∧ RetV (.int (SX.leave n h T B e : Int)) H Q
def BestV (K : PySem.W.Frag) : Option (Rat × Nat × Nat) → V → Hp → Prop
  | none, v, _ => v = .non
  | some b, v, H => TrP K b.1 b.2.1 b.2.2 v H
theorem scLeaving : FnScope nLeaving ["self", "place"] (defScope sLeaving) := ⟨rfl, rfl, rfl, by decide +kernel, rfl, by decide +kernel, by decide +kernel⟩
theorem ok_leaving {f C fQ fL : Addr} {fd fdQ fdL : FuncData} (F : Fun K "leaving" "Tableau.leaving" sLeaving f fd) (T : TbC K C) (B : Bl2 mg) (Qu : Has P w K mg base "quotient" 3 f2N (spFr2 K (fun q => q ≠ 0) (· / ·)) fQ fdQ) (Le : Has P w K mg base "less" 1 f2N (spLess K) fL fdL) :
    FnOk P w K mg base CX0 4 f fd ["self", "place"] (spLeaving K C) := by
  refine F.ok scLeaving (fun vs H Q E h => ?_) (fun cdv A outer s H vs Q E hr h => ?_)
  · obtain ⟨p, dx, fs, n, h, e, a, M, Bs, r, b, rfl, _⟩ := h
    rfl
  · obtain ⟨p, dx, fs, n, h, e, a, M, Bs, r, b, rfl, hp, h3, h4, hM, hB, he, hn, hh, hs, a0, a1, hex, k⟩ := h
    refine ⟨_, pss_cons (ps_set (i := 2) scLeaving.nd rfl (.inl rfl) pe_non)
      (pss_cons (ps_for PassesOwn.never rfl (pi_enum (by rfl) B.enum (pa_cons (pe_fld (pv 0) rfl) pa_nil)) (pg_tup rfl (pgs_cons (pg_name (i := 3) scLeaving.nd rfl (.inl rfl)) (pgs_cons (pg_name (i := 4) scLeaving.nd rfl (.inl rfl)) pgs_nil)))
        (pss_one (ps_if (pt_cmpR op_gt (pe_ix ix_tup (pe_ix ix_list (pv 4) (pv 1) (fun _ _ => rfl)) pe_int (fun _ _ => rfl)) pe_int (nomark _))
          (pss_cons (ps_set (i := 5) scLeaving.nd rfl (.inl rfl) (pe_tup (pa_cons (pe_cl Qu hr (pa_cons (pe_ix ix_list (pv 4) (pe_un un_neg pe_int) (fun _ _ => rfl)) (pa_cons (pe_ix ix_list (pv 4) (pv 1) (fun _ _ => rfl)) pa_nil))) (pa_cons (pe_ix ix_list (pe_fld (pv 0) rfl) (pv 3) (fun _ _ => rfl)) (pa_cons (pv 3) pa_nil)))))
          (pss_one (ps_if (pw_or (pt_cmpR op_isN1 (pv 2) pe_non (nomark _)) (pw_or (pt_val (pe_cl Le (hr.mono (by decide)) (pa_cons (pe_ix ix_tup (pv 5) pe_int (fun _ _ => rfl)) (pa_cons (pe_ix ix_tup (pv 2) pe_int (fun _ _ => rfl)) pa_nil))))
              (pw_or1 (pw_and (pt_cmpR (op_eqD hr.units) (pe_ix ix_tup (pv 5) pe_int (fun _ _ => rfl)) (pe_ix ix_tup (pv 2) pe_int (fun _ _ => rfl)) (nomark _)) (pw_and1 (pt_cmpR op_lt (pe_ix ix_tup (pv 5) pe_int (fun _ _ => rfl)) (pe_ix ix_tup (pv 2) pe_int (fun _ _ => rfl)) (nomark _)))).pt))).pt
            (pss_one (ps_set (i := 2) scLeaving.nd rfl (.inl rfl) (pv 5))) pss_nil))) pss_nil)))
      (pss_one (ps_ret (pe_ix ix_tup (pv 2) pe_int (fun _ _ => rfl))))), ?_⟩
    refine q_asg ev_c fun H1 e1 => ?_
    have f3 : ∀ {H2 σ}, Ex H1 H2 → σ[0]? = some (some (V.ref p)) → EvP (tFld K (tVar 0) "own_rows") σ H2 (MatP K h (n + h + 1) M) := fun e2 hσ => ep_of (ev_fldT T (ev_var hσ) (e2 _ _ (e1 _ _ hp)) rfl h3) fun H3 e3 => mat_mono _ _ _ ((e1.trans e2).trans e3) hM
    have f4 : ∀ {H2 σ}, Ex H1 H2 → σ[0]? = some (some (V.ref p)) → EvP (tFld K (tVar 0) "own_basis") σ H2 (IntsP h fun i => (Bs i : Int)) := fun e2 hσ => ep_of (ev_fldT T (ev_var hσ) (e2 _ _ (e1 _ _ hp)) rfl h4) fun H3 e3 => ints_mono _ _ _ ((e1.trans e2).trans e3) hB
    refine q_forP (sr_enumP (ap_1 (f3 (Ex.refl _) rfl)) fun _ => row_mono) (fun B i σ H' => Ex B H' ∧ ∃ v x y z, σ = [some (.ref p), some (.int (e : Int)), some v, x, y, z] ∧ BestV K (SX.leaveUp n h M Bs e i) v H' ∧ ∀ b, SX.leaveUp n h M Bs e i = some b → Sz (a + a) b.1)
      (fun H2 e2 => ⟨Ex.refl _, _, _, _, _, rfl, rfl, fun b z => by cases z⟩) (fun _ _ _ _ _ p => p.1) ?_ ?_
    · rintro B' i x σ H2 H3 hi eB ⟨e2, v, x1, x2, x3, rfl, hv, sv⟩ e3 ⟨T', x4, row, rfl, hT, rfl, hrow⟩
      refine g_pair hT ?_
      have eX : Ex H1 H3 := (eB.trans e2).trans e3
      have hv3 : BestV K (SX.leaveUp n h M Bs e i) v H3 := by
        revert hv
        cases SX.leaveUp n h M Bs e i with
        | none => exact id
        | some b => exact tr_mono _ _ _ e3
      refine s_when (b := decide (0 < M i e)) (num_gt ▸ et_test (ev_op (ev_num (ep_ixL (ep_varM rfl hrow row_mono) (ev_var rfl) he fun _ => Fr.mono)) ev_c rv_I0)) (fun hb H4 e4 => ?_) fun hb H4 e4 => ?_
      · have pos : 0 < M i e := of_decide_eq_true hb
        have hrow4 := row_mono _ _ _ e4 hrow
        refine qp_asg (P := TrP K (M i (n + h) / M i e) (Bs i) i) (ep_tr (ep_fr2 a a (ep_ixZ (ep_varM rfl hrow4 row_mono) fun _ => Fr.mono) (ep_ixL (ep_varM rfl hrow4 row_mono) (ev_var rfl) he fun _ => Fr.mono) (hs i _ hi (by omega)) (hs i e hi he) ⟨a0, a0, by omega⟩ (by grind))
          (p_ev (ep_ixL (f4 (eX.trans e4) rfl) (ev_var rfl) hi fun _ => mono_eq)) (ev_var rfl)) fun o H5 e5 ho => ?_
        have sq : Sz (a + a) (M i (n + h) / M i e) := (hs i _ hi (by omega)).div (hs i e hi he) (by grind)
        have up : SX.leaveUp n h M Bs e (i + 1) = (match SX.leaveUp n h M Bs e i with
          | none => some (SX.own n h M Bs e i)
          | some b => if (SX.own n h M Bs e i).1 < b.1 ∨ ((SX.own n h M Bs e i).1 = b.1 ∧ (SX.own n h M Bs e i).2.1 < b.2.1) then some (SX.own n h M Bs e i) else some b) := by
          show (if 0 < M i e then _ else _) = _
          rw [if_pos pos]
          try (cases SX.leaveUp n h M Bs e i <;> rfl)
        revert hv3 sv up
        cases hL : SX.leaveUp n h M Bs e i with
        | none =>
          intro sv hv3 up
          have hv3 : v = .non := hv3
          subst hv3
          refine s_when (b := true) (et_is (et_or (et_isN (ev_var rfl)) (b := false) fun z => absurd z (by decide)) rfl) (fun _ H6 e6 => ?_) fun z => absurd z (by decide)
          refine s_asg (ev_var rfl) fun H7 e7 => ⟨((((e2.trans e3).trans e4).trans e5).trans e6).trans e7, _, _, _, _, rfl, ?_, ?_⟩
          · rw [up]
            exact tr_mono _ _ _ (e6.trans e7) ho
          · rw [up]
            rintro b ⟨⟩
            exact sq
        | some b =>
          intro sv hv3 up
          have hv3 : TrP K b.1 b.2.1 b.2.2 v H3 := hv3
          have up : SX.leaveUp n h M Bs e (i + 1) = if (SX.own n h M Bs e i).1 < b.1 ∨ ((SX.own n h M Bs e i).1 = b.1 ∧ (SX.own n h M Bs e i).2.1 < b.2.1) then some (SX.own n h M Bs e i) else some b := up
          have hv5 := tr_mono _ _ _ (e4.trans e5) hv3
          have nn : v ≠ .non := by
            obtain ⟨T, f, h1, _⟩ := hv3
            rw [h1]
            exact fun z => by cases z
          have sb := sv b rfl
          refine s_when (b := decide (M i (n + h) / M i e < b.1) || (decide (M i (n + h) / M i e = b.1) && decide ((Bs i : Int) < (b.2.1 : Int)))) (et_is (et_or (et_isN (ev_var rfl)) fun _ => et_or (et_B (ev_less (a + a) (a + a) (ep_tr0 (ep_varM rfl ho tr_mono)) (ep_tr0 (ep_varM rfl hv5 tr_mono)) sq sb ⟨by omega, by omega, by omega⟩)) fun _ =>
            et_and (et_test (ev_eqFr (ep_tr0 (ep_varM rfl ho tr_mono)) (ep_tr0 (ep_varM rfl hv5 tr_mono)))) fun _ => et_test (ev_op (ev_tr1 (ep_varM rfl ho tr_mono)) (ev_tr1 (ep_varM rfl hv5 tr_mono)) rv_I0)) (by rw [decide_eq_false nn]; rfl)) (fun hc H6 e6 => ?_) fun hc H6 e6 => ?_
          · have c : (SX.own n h M Bs e i).1 < b.1 ∨ ((SX.own n h M Bs e i).1 = b.1 ∧ (SX.own n h M Bs e i).2.1 < b.2.1) := by
              simp at hc
              exact hc
            refine s_asg (ev_var rfl) fun H7 e7 => ⟨((((e2.trans e3).trans e4).trans e5).trans e6).trans e7, _, _, _, _, rfl, ?_, ?_⟩
            · rw [up, if_pos c]
              exact tr_mono _ _ _ (e6.trans e7) ho
            · rw [up, if_pos c]
              rintro b ⟨⟩
              exact sq
          · have c : ¬ ((SX.own n h M Bs e i).1 < b.1 ∨ ((SX.own n h M Bs e i).1 = b.1 ∧ (SX.own n h M Bs e i).2.1 < b.2.1)) := by
              intro z
              have : (M i (n + h) / M i e < b.1) ∨ (M i (n + h) / M i e = b.1 ∧ Bs i < b.2.1) := z
              rw [Bool.eq_false_iff] at hc
              apply hc
              simpa using this
            refine ⟨(((e2.trans e3).trans e4).trans e5).trans e6, _, _, _, _, rfl, ?_, ?_⟩
            · rw [up, if_neg c]
              exact tr_mono _ _ _ e6 hv5
            · rw [up, if_neg c]
              rintro b ⟨⟩
              exact sb
      · have up : SX.leaveUp n h M Bs e (i + 1) = SX.leaveUp n h M Bs e i := by
          show (if 0 < M i e then _ else _) = _
          rw [if_neg (of_decide_eq_false hb)]
        refine ⟨(e2.trans e3).trans e4, _, _, _, _, rfl, ?_, ?_⟩
        · rw [up]
          revert hv3
          cases SX.leaveUp n h M Bs e i with
          | none => exact id
          | some b => exact tr_mono _ _ _ e4
        · rw [up]
          exact sv
    · rintro B' σ H2 eB ⟨e2, v, x1, x2, x3, rfl, hv, sv⟩
      obtain ⟨r0, hr0, _⟩ := SX.leaveUp_some (n := n) (B := Bs) hex
      have hl : SX.leave n h M Bs e = r0 := by
        unfold SX.leave
        rw [hr0]
        rfl
      rw [hr0] at hv
      rw [hl] at k
      exact s_ret (ev_tr2 (ep_varM rfl hv tr_mono)) fun H3 e3 => k _ (((e1.trans eB).trans e2).trans e3)
end
end EW
set_option Elab.async false
set_option linter.all false
set_option maxRecDepth 100000
set_option maxHeartbeats 4000000
set_option exponentiation.threshold 10000
namespace EW
open PySem PySem.Spec PyProof.Rows L2 Evl
/-! ### the tableau as it stands -/
def RowQ (K : PySem.W.Frag) (L : List Addr) (W : Nat) (f : Nat → Rat) : V → Hp → Prop := fun v H => RowP K W f v H ∧ ∀ D ∈ L, v ≠ .ref D
theorem rowQ_mono {K : PySem.W.Frag} {L : List Addr} {W : Nat} {f : Nat → Rat} : Mono (RowQ K L W f) := fun v H H' e p => ⟨row_mono _ _ _ e p.1, p.2⟩
theorem rowQ_up {K : PySem.W.Frag} {L : List Addr} {W : Nat} {f : Nat → Rat} {D : Addr} {v : V} {H : Hp} {o o' : HO} (h : RowQ K L W f v H) (hD : D ∈ L ∨ v ≠ .ref D) (e : H D = some o) (m : Mt o) : RowQ K L W f v (upd H D o') :=
  ⟨row_lst D v (hD.elim (h.2 D) id) H o o' e m h.1, h.2⟩
theorem ls_ne_ins {K : PySem.W.Frag} {W : Nat} {Pi : Nat → V → Hp → Prop} {p C dx : Addr} {fs : List (Str × V)} {v : V} {H : Hp} (h : LsP W Pi v H) (hp : H p = some (.ins C dx fs)) : v ≠ .ref p := by
  rintro rfl
  obtain ⟨a, xs, e, ha, _⟩ := h
  cases e
  rw [hp] at ha
  cases ha
structure TabSt (K : PySem.W.Frag) (C : Addr) (n h : Nat) (goal : Nat → Int) (H0 : Hp) (p dx r b : Addr) (S : SX.Tab) (H : Hp) : Prop where
  ex : Ex H0 H
  p0 : H0 p = none
  r0 : H0 r = none
  b0 : H0 b = none
  rb : r ≠ b
  ob : ∃ s ca, H p = some (.ins C dx (flT [.int (n : Int), .int (h : Int), s, .ref r, .ref b, ca])) ∧ (IntsP h (SX.sg goal) s H ∧ s ≠ .ref r ∧ s ≠ .ref b) ∧ RowQ K [r, b] (n + h + 1) S.c ca H
  rows : LsP h (fun i => RowQ K [r, b] (n + h + 1) (S.T i)) (.ref r) H
  bas : IntsP h (fun i => (S.B i : Int)) (.ref b) H
section
variable {K : PySem.W.Frag} {C : Addr} {n h : Nat} {goal : Nat → Int} {H0 H H' : Hp} {p dx r b : Addr} {S : SX.Tab}
theorem TabSt.mono (t : TabSt K C n h goal H0 p dx r b S H) (e : Ex H H') : TabSt K C n h goal H0 p dx r b S H' := by
  obtain ⟨s, ca, h1, ⟨h2, h3, h4⟩, h5⟩ := t.ob
  exact ⟨t.ex.trans e, t.p0, t.r0, t.b0, t.rb, ⟨s, ca, e _ _ h1, ⟨ints_mono _ _ _ e h2, h3, h4⟩, rowQ_mono _ _ _ e h5⟩, mono_ls (fun _ => rowQ_mono) _ _ _ e t.rows, ints_mono _ _ _ e t.bas⟩
theorem TabSt.row (t : TabSt K C n h goal H0 p dx r b S H) {j : Nat} {v : V} {f : Nat → Rat} {xs : List V} (hr : H r = some (.lst xs)) (hv : RowQ K [r, b] (n + h + 1) f v H) :
    TabSt K C n h goal H0 p dx r b { S with T := fun i => if i = j then f else S.T i } (upd H r (.lst (xs.set j v))) := by
  obtain ⟨s, ca, h1, ⟨h2, h3, h4⟩, h5⟩ := t.ob
  have pr : p ≠ r := fun z => by
    subst z
    rw [h1] at hr
    cases hr
  refine ⟨Ex.mut t.ex t.r0, t.p0, t.r0, t.b0, t.rb, ⟨s, ca, by rw [upd_ne pr]; exact h1, ⟨ints_lst r s h3 _ _ _ hr mt_l h2, h3, h4⟩, rowQ_up h5 (.inl (by simp)) hr mt_l⟩, ?_, ints_lst r _ (fun z => t.rb (by cases z; rfl)) _ _ _ hr mt_l t.bas⟩
  obtain ⟨r', xs', e, hr', hl, hx⟩ := t.rows
  cases e
  rw [hr] at hr'
  cases hr'
  refine ⟨r, _, rfl, upd_same, by simp [hl], fun i x q => ?_⟩
  rw [List.getElem?_set] at q
  split at q
  · rename_i z
    subst z
    split at q
    · cases q
      simp only [if_true]
      exact rowQ_up hv (.inl (by simp)) hr mt_l
    · cases q
  · rename_i z
    have : ¬ i = j := fun w => z w.symm
    simp only [this, if_false]
    exact rowQ_up (hx i x q) (.inl (by simp)) hr mt_l
theorem TabSt.cost (t : TabSt K C n h goal H0 p dx r b S H) {v s ca : V} {f : Nat → Rat} (hp : H p = some (.ins C dx (flT [.int (n : Int), .int (h : Int), s, .ref r, .ref b, ca]))) (hv : RowQ K [r, b] (n + h + 1) f v H) :
    TabSt K C n h goal H0 p dx r b { S with c := f } (upd H p (.ins C dx (putF "own_cost" v (flT [.int (n : Int), .int (h : Int), s, .ref r, .ref b, ca])))) := by
  obtain ⟨s', ca', h1, ⟨h2, h3, h4⟩, h5⟩ := t.ob
  rw [hp] at h1
  have e6 : ([V.int (n : Int), V.int (h : Int), s, V.ref r, V.ref b, ca] : List V) = [V.int (n : Int), V.int (h : Int), s', V.ref r, V.ref b, ca'] := by
    have h1 := Option.some.inj h1
    injection h1 with _ _ h1
    have g2 : (flT [V.int (n : Int), V.int (h : Int), s, V.ref r, V.ref b, ca]).lookup ("own_signs" : Str) = some s := flT_at (i := 2) rfl rfl
    have g2' : (flT [V.int (n : Int), V.int (h : Int), s', V.ref r, V.ref b, ca']).lookup ("own_signs" : Str) = some s' := flT_at (i := 2) rfl rfl
    have g5 : (flT [V.int (n : Int), V.int (h : Int), s, V.ref r, V.ref b, ca]).lookup ("own_cost" : Str) = some ca := flT_at (i := 5) rfl rfl
    have g5' : (flT [V.int (n : Int), V.int (h : Int), s', V.ref r, V.ref b, ca']).lookup ("own_cost" : Str) = some ca' := flT_at (i := 5) rfl rfl
    rw [h1, g2'] at g2
    rw [h1, g5'] at g5
    cases g2
    cases g5
    rfl
  cases e6
  have pr : p ≠ r := fun z => by
    subst z
    obtain ⟨r', xs', e, hr', _⟩ := t.rows
    cases e
    rw [hp] at hr'
    cases hr'
  have pb : p ≠ b := fun z => by
    subst z
    obtain ⟨r', xs', e, hr', _⟩ := t.bas
    cases e
    rw [hp] at hr'
    cases hr'
  have ef : putF "own_cost" v (flT [V.int (n : Int), V.int (h : Int), s, V.ref r, V.ref b, ca]) = flT [V.int (n : Int), V.int (h : Int), s, V.ref r, V.ref b, v] := put_set (i := 5) nd_T rfl (by show 5 < 6; decide)
  rw [ef]
  refine ⟨Ex.mut t.ex t.p0, t.p0, t.r0, t.b0, t.rb, ⟨s, v, upd_same, ⟨ints_lst p s (ls_ne_ins (K := K) h2 hp) _ _ _ hp mt_i h2, h3, h4⟩, rowQ_up hv (.inr (ls_ne_ins (K := K) hv.1 hp)) hp mt_i⟩, ?_, ints_lst p _ (fun z => pb (by cases z; rfl)) _ _ _ hp mt_i t.bas⟩
  obtain ⟨r', xs', e, hr', hl, hx⟩ := t.rows
  cases e
  exact ⟨r, xs', rfl, by rw [upd_ne pr.symm]; exact hr', hl, fun i x q => rowQ_up (hx i x q) (.inr (ls_ne_ins (K := K) (hx i x q).1 hp)) hp mt_i⟩
theorem TabSt.basis (t : TabSt K C n h goal H0 p dx r b S H) {j e : Nat} {ys : List V} (hb : H b = some (.lst ys)) :
    TabSt K C n h goal H0 p dx r b { S with B := fun i => if i = j then e else S.B i } (upd H b (.lst (ys.set j (.int (e : Int))))) := by
  obtain ⟨s, ca, h1, ⟨h2, h3, h4⟩, h5⟩ := t.ob
  have pb : p ≠ b := fun z => by
    subst z
    rw [h1] at hb
    cases hb
  refine ⟨Ex.mut t.ex t.b0, t.p0, t.r0, t.b0, t.rb, ⟨s, ca, by rw [upd_ne pb]; exact h1, ⟨ints_lst b s h4 _ _ _ hb mt_l h2, h3, h4⟩, rowQ_up h5 (.inl (by simp)) hb mt_l⟩, ?_, ?_⟩
  · obtain ⟨r', xs', e', hr', hl, hx⟩ := t.rows
    cases e'
    exact ⟨r, xs', rfl, by rw [upd_ne t.rb]; exact hr', hl, fun i x q => rowQ_up (hx i x q) (.inl (by simp)) hb mt_l⟩
  · obtain ⟨b', ys', e', hb', hl, hx⟩ := t.bas
    cases e'
    rw [hb] at hb'
    cases hb'
    refine ⟨b, _, rfl, upd_same, by simp [hl], fun i x q => ?_⟩
    rw [List.getElem?_set] at q
    split at q
    · rename_i z
      subst z
      split at q
      · cases q
        simp
      · cases q
    · rename_i z
      have : ¬ i = j := fun w => z w.symm
      simp only [this, if_false]
      exact hx i x q
end
section
variable {K : PySem.W.Frag} {σ : L2.St} {H : Hp} {ta tb tc te : TE} {P : V → Hp → Prop} {W place a : Nat} {f g : Nat → Rat} {L : List Addr} {E : XK}
theorem ep_lessBy (hL : ∀ D ∈ L, ∃ o, H D = some o) (ha : EvP ta σ H (RowQ K L W f)) (hb : EvP tb σ H (RowP K W g)) (hc : Ev tc σ H (.int (place : Int))) (hp : place < W) (hW : W ≤ 40000) (hs : ∀ j, j < W → Sz a (f j) ∧ Sz a (g j)) (a0 : 0 < a) (a1 : a ≤ 2000) :
    EvP (tCall (spLessBy K) [] E (tCons ta (tCons tb (tCons tc tNil)))) σ H (RowQ K L W fun j => f j - f place * g j) := fun H1 e Q q =>
  ha H1 e _ fun x H2 e2 h1 => hb H2 (e.trans e2) _ fun y H3 e3 h2 => hc H3 ((e.trans e2).trans e3) _ fun H4 e4 => ⟨x, y, W, place, f, g, a, rfl, row_mono _ _ _ (e3.trans e4) h1.1, row_mono _ _ _ e4 h2, hp, hW, hs, a0, a1, fun v H5 e5 hv hor => q v H5 (((e2.trans e3).trans e4).trans e5) ⟨hv, fun D hD z => by
    rcases hor with hor | ⟨q, hq, hn⟩
    · exact h1.2 D hD (hor ▸ z)
    · obtain ⟨o, ho⟩ := hL D hD
      rw [hq] at z
      cases z
      rw [(((e.trans e2).trans e3).trans e4) _ _ ho] at hn
      cases hn⟩⟩
theorem en_rowQ (hL : ∀ D ∈ L, ∃ o, H D = some o) (h : EvN te σ H (RowP K W f)) : EvP te σ H (RowQ K L W f) := fun H1 e Q q => h H1 e Q fun p H2 hp e2 hv => q _ H2 e2 ⟨hv, fun D hD z => by
  obtain ⟨o, ho⟩ := hL D hD
  cases z
  rw [e _ _ ho] at hp
  cases hp⟩
theorem s_setP {D : Ends} {l : Addr} {j : Nat} (h : EvP te σ H P) (mP : Mono P) (ho : ∀ H1, Ex H H1 → Ev ta σ H1 (.ref l)) (hi : ∀ H1, Ex H H1 → Ev tb σ H1 (.int (j : Int))) (k : ∀ v H1, Ex H H1 → P v H1 → ∃ xs, H1 l = some (.lst xs) ∧ j < xs.length ∧ D.nx σ (upd H1 l (.lst (xs.set j v)))) :
    tAsg te (gSub ta tb rSetL) D σ H := h H (Ex.refl H) _ fun v H1 e1 pv => ho H1 e1 H1 (Ex.refl H1) _ fun H2 e2 => hi H2 (e1.trans e2) H2 (Ex.refl H2) _ fun H3 e3 => by
  obtain ⟨xs, h1, h2, h3⟩ := k v H3 ((e1.trans e2).trans e3) (mP _ _ _ (e2.trans e3) pv)
  refine ⟨l, xs, (j : Int), j, rfl, rfl, h1, ?_, h3⟩
  unfold ixN
  simp
  omega
end
end EW
set_option Elab.async false
set_option linter.all false
set_option maxRecDepth 100000
set_option maxHeartbeats 4000000
set_option exponentiation.threshold 10000
namespace EW
open PySem PySem.Spec PyProof.Rows L2 Evl
structure HasM (P : Program) (w : World) (K : PySem.W.Frag) (mg : Str → Option Value) (base : Heap) (C : Addr) (m : Str) (k : Nat) (ps : List Str) (sp : Sp) (f : Addr) (fd : FuncData) : Prop where
  mt : Meth K C m f
  bd : Binds K fd ps []
  ok : FnOk P w K mg base CX0 k f fd ps sp
section
variable {K : PySem.W.Frag} {C : Addr} {n h : Nat} {goal : Nat → Int} {H0 H H' : Hp} {p dx r b : Addr} {S : SX.Tab} {σ : L2.St}
theorem TabSt.congr {T' : Nat → Nat → Rat} (t : TabSt K C n h goal H0 p dx r b S H) (q : ∀ i, i < h → S.T i = T' i) : TabSt K C n h goal H0 p dx r b { S with T := T' } H :=
  ⟨t.ex, t.p0, t.r0, t.b0, t.rb, t.ob, ls_congr (fun i x H hi p => by show RowQ K [r, b] (n + h + 1) (T' i) x H; rw [← q i hi]; exact p) t.rows, t.bas⟩
theorem TabSt.to {S' : SX.Tab} (t : TabSt K C n h goal H0 p dx r b S H) (q : S = S') : TabSt K C n h goal H0 p dx r b S' H := q ▸ t
theorem TabSt.er (t : TabSt K C n h goal H0 p dx r b S H) : ∀ D ∈ [r, b], ∃ o, H D = some o := fun D hD => by
  obtain ⟨_, xs, e, h1, _⟩ := t.rows
  obtain ⟨_, ys, e', h2, _⟩ := t.bas
  cases e
  cases e'
  simp at hD
  rcases hD with rfl | rfl
  · exact ⟨_, h1⟩
  · exact ⟨_, h2⟩
theorem TabSt.gRows (t : TabSt K C n h goal H0 p dx r b S H) (T : TbC K C) (hσ : σ[0]? = some (some (V.ref p))) : Ev (tFld K (tVar 0) "own_rows") σ H (.ref r) := by
  obtain ⟨s, ca, h1, _⟩ := t.ob
  exact ev_fldT T (ev_var hσ) h1 (i := 3) rfl rfl
theorem TabSt.gBasis (t : TabSt K C n h goal H0 p dx r b S H) (T : TbC K C) (hσ : σ[0]? = some (some (V.ref p))) : Ev (tFld K (tVar 0) "own_basis") σ H (.ref b) := by
  obtain ⟨s, ca, h1, _⟩ := t.ob
  exact ev_fldT T (ev_var hσ) h1 (i := 4) rfl rfl
theorem TabSt.gHigh (t : TabSt K C n h goal H0 p dx r b S H) (T : TbC K C) (hσ : σ[0]? = some (some (V.ref p))) : Ev (tFld K (tVar 0) "own_high") σ H (.int (h : Int)) := by
  obtain ⟨s, ca, h1, _⟩ := t.ob
  exact ev_fldT T (ev_var hσ) h1 (i := 1) rfl rfl
theorem TabSt.gMany (t : TabSt K C n h goal H0 p dx r b S H) (T : TbC K C) (hσ : σ[0]? = some (some (V.ref p))) : Ev (tFld K (tVar 0) "own_many") σ H (.int (n : Int)) := by
  obtain ⟨s, ca, h1, _⟩ := t.ob
  exact ev_fldT T (ev_var hσ) h1 (i := 0) rfl rfl
theorem TabSt.gCost (t : TabSt K C n h goal H0 p dx r b S H) (T : TbC K C) (hσ : σ[0]? = some (some (V.ref p))) : EvP (tFld K (tVar 0) "own_cost") σ H (RowQ K [r, b] (n + h + 1) S.c) := by
  obtain ⟨s, ca, h1, _, h5⟩ := t.ob
  exact ep_of (ev_fldT T (ev_var hσ) h1 (i := 5) rfl rfl) fun H2 e => rowQ_mono _ _ _ e h5
theorem TabSt.gSigns (t : TabSt K C n h goal H0 p dx r b S H) (T : TbC K C) (hσ : σ[0]? = some (some (V.ref p))) : EvP (tFld K (tVar 0) "own_signs") σ H (IntsP h (SX.sg goal)) := by
  obtain ⟨s, ca, h1, h2, h5⟩ := t.ob
  exact ep_of (ev_fldT T (ev_var hσ) h1 (i := 2) rfl rfl) fun H2 e => ints_mono _ _ _ e h2.1
theorem TabSt.pRows (t : TabSt K C n h goal H0 p dx r b S H) (T : TbC K C) (hσ : σ[0]? = some (some (V.ref p))) : EvP (tFld K (tVar 0) "own_rows") σ H (LsP h fun i => RowQ K [r, b] (n + h + 1) (S.T i)) := ep_of (t.gRows T hσ) fun H2 e => mono_ls (fun _ => rowQ_mono) _ _ _ e t.rows
theorem TabSt.pBasis (t : TabSt K C n h goal H0 p dx r b S H) (T : TbC K C) (hσ : σ[0]? = some (some (V.ref p))) : EvP (tFld K (tVar 0) "own_basis") σ H (IntsP h fun i => (S.B i : Int)) := ep_of (t.gBasis T hσ) fun H2 e => ints_mono _ _ _ e t.bas
theorem ep_row {te : TE} {L : List Addr} {W : Nat} {f : Nat → Rat} (h : EvP te σ H (RowQ K L W f)) : EvP te σ H (RowP K W f) := ep_w h fun _ _ _ p => p.1
end
section
variable {P : Program} {w : World} {K : PySem.W.Frag} {mg : Str → Option Value} {base : Heap}
/-! ### turn -/
abbrev nTurn : List Str := ["self", "at", "place", "by", "to", "one"]
def SzT (a n h : Nat) (S : SX.Tab) : Prop := (∀ i j, i < h → j < n + h + 1 → Sz a (S.T i j)) ∧ ∀ j, j < n + h + 1 → Sz a (S.c j)
def spTurn (K : PySem.W.Frag) (C : Addr) : Sp := fun vs H Q _ => ∃ (n h : Nat) (goal : Nat → Int) (H0 : Hp) (p dx r b : Addr) (S : SX.Tab) (at_ e a : Nat), vs = [.ref p, .int (at_ : Int), .int (e : Int)] ∧ TabSt K C n h goal H0 p dx r b S H ∧ at_ < h ∧ e < n + h + 1 ∧ n ≤ 1000 ∧ h ≤ 1000 ∧ S.T at_ e ≠ 0 ∧ SzT a n h S ∧ 0 < a ∧ a ≤ 1000 ∧
  ∀ H2, TabSt K C n h goal H0 p dx r b ⟨SX.pivT S.T at_ e, SX.pivC S.T S.c at_ e, SX.pivB S.B at_ e⟩ H2 → Q .non H2
theorem scTurn : FnScope nTurn ["self", "at", "place"] (defScope sTurn) := ⟨rfl, rfl, rfl, by decide +kernel, rfl, by decide +kernel, by decide +kernel⟩
theorem ok_turn {f C fQ fL : Addr} {fd fdQ fdL : FuncData} (F : Fun K "turn" "Tableau.turn" sTurn f fd) (T : TbC K C) (B : Bl2 mg) (Qu : Has P w K mg base "quotient" 3 f2N (spFr2 K (fun q => q ≠ 0) (· / ·)) fQ fdQ) (Lb : Has P w K mg base "less_by" 4 ["row", "other", "place"] (spLessBy K) fL fdL) :
    FnOk P w K mg base CX0 5 f fd ["self", "at", "place"] (spTurn K C) := by
  refine F.ok scTurn (fun vs H Q E h => ?_) (fun cdv A outer s H vs Q E hr h => ?_)
  · obtain ⟨n, h, goal, H0, p, dx, r, b, S, at_, e, a, rfl, _⟩ := h
    rfl
  · obtain ⟨n, h, goal, H0, p, dx, r, b, S, at_, e, a, rfl, t, hat, he, hn, hh, nz, sz, a0, a1, k⟩ := h
    refine ⟨_, pss_cons (ps_set (i := 3) scTurn.nd rfl (.inr rfl) (pe_ix ix_list (pe_ix ix_list (pe_fld (pv 0) rfl) (pv 1) (fun _ _ => rfl)) (pv 2) (fun _ _ => rfl)))
      (pss_cons (ps_asg (pe_lc (own := [("one", 5)]) (g := gName 5) (tt := tYes) rfl scTurn.nd (pi_list (pe_ix ix_list (pe_fld (pv 0) rfl) (pv 1) (fun _ _ => rfl))) (blkOk_by (N := nTurn) (sc := defScope sTurn) (by decide +kernel))
          (fun _ _ _ _ _ => pg_name (i := 5) scTurn.nd rfl (.inl rfl)) (fun _ _ _ _ _ => pts_nil) (fun _ _ _ _ _ => pe_ifExp (pt_cmpR op_ne (pe_ix (ixT K rfl) (pv 5) pe_int (fun _ _ => rfl)) pe_int (nomark _)) (pe_cl Qu (hr.mono (by decide)) (pa_cons (pv 5) (pa_cons (pv 3) pa_nil))) (pv 5)))
        (pg_sub (pe_fld (pv 0) rfl) (pv 1) set_list))
      (pss_cons (ps_for PassesOwn.never rfl (pi_range1 rfl B.range (pa_cons (pe_fld (pv 0) rfl) pa_nil)) (pg_name (i := 4) scTurn.nd rfl (.inl rfl))
        (pss_one (ps_if (pt_cmpR op_ne (pv 4) (pv 1) (nomark _)) (pss_one (ps_asg (pe_cl Lb hr (pa_cons (pe_ix ix_list (pe_fld (pv 0) rfl) (pv 4) (fun _ _ => rfl)) (pa_cons (pe_ix ix_list (pe_fld (pv 0) rfl) (pv 1) (fun _ _ => rfl)) (pa_cons (pv 2) pa_nil)))) (pg_sub (pe_fld (pv 0) rfl) (pv 4) set_list))) pss_nil)))
      (pss_cons (ps_fld (pv 0) (pe_cl Lb hr (pa_cons (pe_fld (pv 0) rfl) (pa_cons (pe_ix ix_list (pe_fld (pv 0) rfl) (pv 1) (fun _ _ => rfl)) (pa_cons (pv 2) pa_nil)))) rfl)
      (pss_one (ps_asg (pv 2) (pg_sub (pe_fld (pv 0) rfl) (pv 1) set_list)))))), ?_⟩
    have szb : Sz a (S.T at_ e) := sz.1 at_ e hat he
    refine qp_asg (ep_ixL (ep_row (ep_ixL (t.pRows T rfl) (ev_var rfl) hat fun _ => rowQ_mono)) (ev_var rfl) he fun _ => Fr.mono) fun byv H1 e1 hby => ?_
    have t1 := t.mono e1
    have c2 : ∀ (H2 : Hp) (v : V), Ex H1 H2 → RowQ K [r, b] (n + h + 1) (fun j => S.T at_ j / S.T at_ e) v H2 → ∃ xs, H2 r = some (.lst xs) ∧ at_ < xs.length ∧ TabSt K C n h goal H0 p dx r b { S with T := fun k => if k = at_ ∨ k < 0 then SX.pivT S.T at_ e k else S.T k } (upd H2 r (.lst (xs.set at_ v))) := fun H2 v e2 hv => by
      have t2 := t1.mono e2
      obtain ⟨r', xs, er, hr', hl, hx⟩ := id t2.rows
      cases er
      refine ⟨xs, hr', by omega, (t2.row (j := at_) hr' hv).congr fun i hi => ?_⟩
      show (if i = at_ then _ else S.T i) = (if i = at_ ∨ i < 0 then SX.pivT S.T at_ e i else S.T i)
      by_cases z : i = at_
      · simp only [z, true_or, if_true]
        funext j
        unfold SX.pivT
        rw [if_pos rfl]
      · simp [z]
    refine s_setP (D := { nx := _, rt := _, bk := _, ct := _ }) (en_rowQ t1.er (en_lc (Pi := fun j => Fr K (S.T at_ j / S.T at_ e)) (sr_listP (ep_row (ep_ixL (t1.pRows T rfl) (ev_var rfl) hat fun _ => rowQ_mono)) fun _ => Fr.mono) (by omega) (fun _ => Fr.mono) ?_)) rowQ_mono (fun H2 e2 => (t1.mono e2).gRows T rfl) (fun H2 e2 => ev_var rfl) fun v H2 e2 hv => ?_
    · intro j x H2 hj e2 hX
      refine ⟨_, fun Q q => q, rfl, EvP.d tst_fr (ep_if (b := !decide (S.T at_ j = 0)) (by
        rw [← num_zero]
        exact et_test (ev_op (ev_num (ep_varM rfl hX Fr.mono)) ev_c (rv_ne rfl))) (fun hb => ?_) fun hb => ?_)⟩
      · exact ep_fr2 a a (ep_varM rfl hX Fr.mono) (ep_varM rfl (Fr.mono _ _ _ e2 hby) Fr.mono) (sz.1 at_ j hat hj) szb ⟨a0, a0, by omega⟩ nz
      · have z : S.T at_ j = 0 := by simpa using hb
        exact ep_varM rfl (fr_cast (by rw [z]; grind) hX) Fr.mono
    obtain ⟨xs, h2, hlt, t3⟩ := c2 H2 v e2 hv
    refine ⟨xs, h2, hlt, ?_⟩
    have s2 : ∀ j, j < n + h + 1 → Sz (a + a) (S.T at_ j / S.T at_ e) := fun j hj => (sz.1 at_ j hat hj).div szb nz
    have pat : SX.pivT S.T at_ e at_ = fun j => S.T at_ j / S.T at_ e := by
      funext j
      unfold SX.pivT
      rw [if_pos rfl]
    have pne : ∀ i, i ≠ at_ → SX.pivT S.T at_ e i = fun j => S.T i j - S.T i e * (S.T at_ j / S.T at_ e) := fun i z => by
      funext j
      unfold SX.pivT
      rw [if_neg z]
    generalize upd H2 r (.lst (xs.set at_ v)) = H3 at t3 ⊢
    refine q_forX (F := fun _ => none) (sf_rangeN (ea_cons (t3.gHigh T rfl) ea_nil) (by omega)) (fun i σ H' => (∃ y z, σ = [some (.ref p), some (.int (at_ : Int)), some (.int (e : Int)), some byv, y, z]) ∧ TabSt K C n h goal H0 p dx r b { S with T := fun k => if k = at_ ∨ k < i then SX.pivT S.T at_ e k else S.T k } H')
      (fun H4 e4 => ⟨⟨_, _, rfl⟩, t3.mono e4⟩) (fun _ _ _ _ _ _ _ q => by cases q) ?_ ?_
    · rintro i x σ H4 H5 hi ⟨⟨y, z, rfl⟩, t4⟩ e5 hX
      subst hX
      have t5 := t4.mono e5
      have prow : ∀ H6, Ex H5 H6 → EvP (tOp (rIxL K) (tFld K (tVar 0) "own_rows") (tVar 1)) [some (.ref p), some (.int (at_ : Int)), some (.int (e : Int)), some byv, some (.int (i : Int)), z] H6 (RowP K (n + h + 1) fun j => S.T at_ j / S.T at_ e) := fun H6 e6 => by
        have q := ep_row (ep_ixL (K := K) ((t5.mono e6).pRows T (σ := [some (.ref p), some (.int (at_ : Int)), some (.int (e : Int)), some byv, some (.int (i : Int)), z]) rfl) (ev_var (i := 1) rfl) hat fun _ => rowQ_mono)
        simp only [true_or, if_true, pat] at q
        exact q
      refine s_when (b := !decide ((V.int (i : Int)) = .int (at_ : Int))) (et_test (ev_op (ev_var rfl) (ev_var rfl) (rv_ne rfl))) (fun hb H6 e6 => ?_) fun hb H6 e6 => ?_
      · have ni : i ≠ at_ := by
          rintro rfl
          simp at hb
        have t6 := t5.mono e6
        have pi : EvP (tOp (rIxL K) (tFld K (tVar 0) "own_rows") (tVar 4)) [some (.ref p), some (.int (at_ : Int)), some (.int (e : Int)), some byv, some (.int (i : Int)), z] H6 (RowQ K [r, b] (n + h + 1) (S.T i)) := by
          have q := ep_ixL (K := K) (t6.pRows T (σ := [some (.ref p), some (.int (at_ : Int)), some (.int (e : Int)), some byv, some (.int (i : Int)), z]) rfl) (ev_var (i := 4) rfl) hi fun _ => rowQ_mono
          have : (if i = at_ ∨ i < i then SX.pivT S.T at_ e i else S.T i) = S.T i := by simp [ni]
          simp only [this] at q
          exact q
        refine s_setP (ep_lessBy (a := a + a) t6.er pi (prow H6 e6) (ev_var rfl) he (by omega) (fun j hj => ⟨(sz.1 i j hi hj).mono (by omega), s2 j hj⟩) (by omega) (by omega)) rowQ_mono (fun H7 e7 => (t6.mono e7).gRows T rfl) (fun H7 e7 => ev_var rfl) fun v H7 e7 hv => ?_
        have t7 := t6.mono e7
        obtain ⟨r', xs, er, hr', hl, hx⟩ := id t7.rows
        cases er
        refine ⟨xs, hr', by omega, ⟨_, _, rfl⟩, (t7.row (j := i) hr' hv).congr fun k hk => ?_⟩
        show (if k = i then _ else (if k = at_ ∨ k < i then SX.pivT S.T at_ e k else S.T k)) = (if k = at_ ∨ k < i + 1 then SX.pivT S.T at_ e k else S.T k)
        by_cases z : k = i
        · subst z
          rw [if_pos rfl, if_pos (.inr (by omega)), pne k ni]
        · rw [if_neg z]
          have : (k = at_ ∨ k < i) ↔ (k = at_ ∨ k < i + 1) := by omega
          simp only [this]
      · have ni : i = at_ := by
          have : ((V.int (i : Int)) = .int (at_ : Int)) := by simpa using hb
          injection this with this
          omega
        refine ⟨⟨_, _, rfl⟩, (t5.mono e6).congr fun k hk => ?_⟩
        show (if k = at_ ∨ k < i then SX.pivT S.T at_ e k else S.T k) = (if k = at_ ∨ k < i + 1 then SX.pivT S.T at_ e k else S.T k)
        have : (k = at_ ∨ k < i) ↔ (k = at_ ∨ k < i + 1) := by omega
        simp only [this]
    · rintro σ H4 ⟨⟨y, z, rfl⟩, t4⟩
      have t5 : TabSt K C n h goal H0 p dx r b { S with T := SX.pivT S.T at_ e } H4 := t4.congr fun k hk => by
        show (if k = at_ ∨ k < h then SX.pivT S.T at_ e k else S.T k) = _
        rw [if_pos (.inr hk)]
      have prow := ep_row (ep_ixL (K := K) (t5.pRows T (σ := [some (.ref p), some (.int (at_ : Int)), some (.int (e : Int)), some byv, y, z]) rfl) (ev_var (i := 1) rfl) hat fun _ => rowQ_mono)
      simp only [pat] at prow
      refine (ep_lessBy (a := a + a) t5.er (t5.gCost T rfl) prow (ev_var rfl) he (by omega) (fun j hj => ⟨(sz.2 j hj).mono (by omega), s2 j hj⟩) (by omega) (by omega)) H4 (Ex.refl _) _ fun v H5 e5 hv => ?_
      have t6 := t5.mono e5
      obtain ⟨s, ca, h1, _⟩ := id t6.ob
      refine ⟨_, rfl, p, C, dx, _, rfl, h1, T.cl, T.no _ (by decide +kernel), by have := flT_len [.int (n : Int), .int (h : Int), s, .ref r, .ref b, ca]; omega, ?_⟩
      have t7 := t6.cost h1 hv
      generalize (upd H5 p _) = H6 at t7 ⊢
      refine s_setP (ep_of (P := fun v _ => v = .int (e : Int)) (ev_var rfl) fun _ _ => rfl) mono_eq (fun H7 e7 => (t7.mono e7).gBasis T rfl) (fun H7 e7 => ev_var rfl) fun v H7 e7 hv => ?_
      subst hv
      have t8 := t7.mono e7
      obtain ⟨b', ys, eb, hb', hl, hx⟩ := id t8.bas
      cases eb
      exact ⟨ys, hb', by omega, k _ (t8.basis hb')⟩
end
end EW
set_option Elab.async false
set_option linter.all false
set_option maxRecDepth 100000
set_option maxHeartbeats 4000000
set_option exponentiation.threshold 10000
namespace EW
open PySem PySem.Spec PyProof.Rows L2 Evl
section
variable {K : PySem.W.Frag} {σ : L2.St} {H F : Hp} {te : TE}
theorem sf_enum {a : Addr} {xs : List V} {n : Nat} {Pi : Nat → V → Hp → Prop} (h : Ev te σ H (.ref a)) (e0 : Ex F H) (ha : F a = some (.lst xs)) (hl : xs.length = n) (mP : ∀ i, Mono (Pi i)) (hp : ∀ i x, xs[i]? = some x → Pi i x F) :
    SrF (iEnum K (tCons te tNil)) σ F H n (fun i => PrP (K := K) (fun x _ => x = .int i) (Pi i)) := fun H1 e R k => h H1 e _ fun H2 e2 => ⟨a, xs, rfl, sq_of (e2 _ _ (e _ _ (e0 _ _ ha))), k _ H2 e2 ⟨_, _, hl ▸ walk_enum (xs := xs), fun H3 e3 => sq_of (e3 _ _ ha), fun i H3 x H4 _ e3 y => by
    obtain ⟨T, u, v, rfl, hT, rfl, hu, hv⟩ := y
    cases hu
    have e4 : Ex H3 (upd H3 T (.tup [.int (i : Nat), v])) := Ex.new hT
    exact ⟨e4, T, _, v, rfl, st_of upd_same, rfl, mP i _ _ _ (e3.trans e4) (hp i v hv)⟩⟩⟩
end
section
variable {P : Program} {w : World} {K : PySem.W.Frag} {mg : Str → Option Value} {base : Heap}
/-! ### solve -/
abbrev nSolve : List Str := ["self", "place"]
def spSolve (K : PySem.W.Frag) (C : Addr) : Sp := fun vs H Q _ => ∃ (n h : Nat) (goal : Nat → Int) (H0 : Hp) (p dx r b : Addr) (S : SX.Tab) (A : Nat → Nat → Rat) (a : Nat), vs = [.ref p] ∧ TabSt K C n h goal H0 p dx r b S H ∧ SX.Inv n h A S.T S.c S.B ∧ n ≤ 1000 ∧ h ≤ 1000 ∧
  (∀ k, SzT a n h (S.up n h k)) ∧ 0 < a ∧ a ≤ 1000 ∧ ∀ H2 N, SX.enter n (S.up n h N).c = none → TabSt K C n h goal H0 p dx r b (S.up n h N) H2 → Q .non H2
theorem scSolve : FnScope nSolve ["self"] (defScope sSolve) := ⟨rfl, rfl, rfl, by decide +kernel, rfl, by decide +kernel, by decide +kernel⟩
theorem ok_solve {f C fE fL fT : Addr} {fd fdE fdL fdT : FuncData} (F : Fun K "solve" "Tableau.solve" sSolve f fd) (T : TbC K C) (En : HasM P w K mg base C "entering" 1 ["self"] (spEntering K C) fE fdE) (Le : HasM P w K mg base C "leaving" 4 ["self", "place"] (spLeaving K C) fL fdL)
    (Tu : HasM P w K mg base C "turn" 5 ["self", "at", "place"] (spTurn K C) fT fdT) : FnOk P w K mg base CX0 6 f fd ["self"] (spSolve K C) := by
  refine F.ok scSolve (fun vs H Q E h => ?_) (fun cdv A outer s H vs Q E hr h => ?_)
  · obtain ⟨n, h, goal, H0, p, dx, r, b, S, A, a, rfl, _⟩ := h
    rfl
  · obtain ⟨n, h, goal, H0, p, dx, r, b, S, A', a, rfl, t, I, hn, hh, sz, a0, a1, k⟩ := h
    refine ⟨_, pss_cons (ps_set (i := 1) scSolve.nd rfl (.inl rfl) (pe_meth0 (pv 0) T.cl En.mt En.ok (hr.mono (by decide)) En.bd .nil pass0))
      (pss_one (ps_while PassesOwn.never (pt_cmpR op_notN1 (pv 1) pe_non (nomark _))
        (pss_cons (ps_expr (pe_meth (pv 0) T.cl Tu.mt Tu.ok hr Tu.bd .nil pass0 (pa_cons (pe_meth (pv 0) T.cl Le.mt Le.ok (hr.mono (by decide)) Le.bd .nil pass0 (pa_cons (pv 1) pa_nil)) (pa_cons (pv 1) pa_nil))))
        (pss_one (ps_set (i := 1) scSolve.nd rfl (.inl rfl) (pe_meth0 (pv 0) T.cl En.mt En.ok (hr.mono (by decide)) En.bd .nil pass0)))))), ?_⟩
    have go : ∀ (S : SX.Tab) (H : Hp) (σ : L2.St) (E : XK), TabSt K C n h goal H0 p dx r b S H → σ[0]? = some (some (V.ref p)) → Ev (tMeth C "entering" (spEntering K C) [] E (tVar 0) tNil) σ H (optV (SX.enter n S.c)) := fun S H σ E t hσ => by
      obtain ⟨s, ca, h1, h2, h5⟩ := id t.ob
      refine p_ev (ep_meth (ev_var hσ) h1 (by decide +kernel) ap_nil fun ws H1 e1 hw Q q => ?_)
      subst hw
      exact ⟨p, dx, _, n, n + h + 1, S.c, ca, rfl, e1 _ _ h1, rfl, rfl, row_mono _ _ _ e1 h5.1, by omega, hn, fun H2 e2 => q _ H2 e2 rfl⟩
    obtain ⟨N0, hN0⟩ := SX.Tab.ends I
    refine q_asg (go S H _ _ t rfl) fun H1 e1 => ?_
    refine s_while (fun m σ H' => ∃ i, i ≤ N0 ∧ m = N0 - i ∧ σ = [some (.ref p), some (optV (SX.enter n (S.up n h i).c))] ∧ TabSt K C n h goal H0 p dx r b (S.up n h i) H') N0 ⟨0, by omega, by omega, rfl, t.mono e1⟩ ?_
    rintro m σ H2 ⟨i, hi, rfl, rfl, t2⟩
    refine ⟨_, et_notN (ev_var rfl), fun hb H3 e3 => ?_, fun hb H3 e3 => ?_⟩
    · cases he : SX.enter n (S.up n h i).c with
      | none =>
        rw [he] at hb
        simp [optV] at hb
      | some e =>
        have hne : i ≠ N0 := by
          rintro rfl
          rw [hN0] at he
          cases he
        have en := SX.enter_some he
        have I2 := SX.Tab.up_inv I i
        have ex := I2.some_pos en.lt en.neg
        have lv := SX.leave_spec (n := n) (B := (S.up n h i).B) ex
        have t3 := t2.mono e3
        refine ⟨fun σ2 H2 => ∃ i', N0 - i' < N0 - i ∧ i' ≤ N0 ∧ σ2 = [some (.ref p), some (optV (SX.enter n (S.up n h i').c))] ∧ TabSt K C n h goal H0 p dx r b (S.up n h i') H2, fun σ2 H2 ⟨i', h1, h2, h3, h4⟩ => ⟨N0 - i', h1, i', h2, rfl, h3, h4⟩, ?_⟩
        have up : S.up n h (i + 1) = ⟨SX.pivT (S.up n h i).T (SX.leave n h (S.up n h i).T (S.up n h i).B e) e, SX.pivC (S.up n h i).T (S.up n h i).c (SX.leave n h (S.up n h i).T (S.up n h i).B e) e, SX.pivB (S.up n h i).B (SX.leave n h (S.up n h i).T (S.up n h i).B e) e⟩ := SX.Tab.next_some he
        obtain ⟨s1, ca, h1, h2, h5⟩ := id t3.ob
        have lev : ∀ E, Ev (tMeth C "leaving" (spLeaving K C) [] E (tVar 0) (tCons (tVar 1) tNil)) [some (.ref p), some (optV (some e))] H3 (.int (SX.leave n h (S.up n h i).T (S.up n h i).B e : Int)) := fun E => by
          refine p_ev (ep_meth (Pa := fun vs _ => vs = [.int (e : Int)]) (ev_var rfl) h1 (by decide +kernel) (fun H1 _ Q q => ?_) fun ws H4 e4 hw Q q => ?_)
          · exact ea_cons (ev_var rfl) ea_nil H1 (by assumption) Q fun H2 e2 => q _ H2 e2 rfl
          · subst hw
            refine ⟨p, dx, _, n, h, e, a, (S.up n h i).T, (S.up n h i).B, .ref r, .ref b, rfl, e4 _ _ h1, rfl, rfl, ?_, ints_mono _ _ _ e4 t3.bas, by have := en.lt; omega, hn, hh, (sz i).1, a0, by omega, ex, fun H5 e5 => q _ H5 e5 rfl⟩
            exact mat_mono _ _ _ e4 (ls_congr (fun _ _ _ _ q => q.1) t3.rows)
        refine ⟨_, rfl, p, dx, _, rfl, h1, flT_no (by decide +kernel), lev _ H3 (Ex.refl _) _ fun H4 e4 => ⟨_, rfl, n, h, goal, H0, p, dx, r, b, S.up n h i, _, e, a, rfl, t3.mono e4, lv.lt, by have := en.lt; omega, hn, hh, by have := lv.pos; grind, sz i, a0, a1, fun H5 t5 => ?_⟩⟩
        rw [← up] at t5
        refine s_asg (go _ _ _ _ t5 rfl) fun H6 e6 => ⟨i + 1, by omega, by omega, rfl, t5.mono e6⟩
    · cases he : SX.enter n (S.up n h i).c with
      | some e =>
        rw [he] at hb
        simp [optV] at hb
      | none => exact k _ i he (t2.mono e3)
/-! ### is_solved, parts, prices -/
def spSolved (K : PySem.W.Frag) (C : Addr) : Sp := fun vs H Q _ => ∃ (n h : Nat) (goal : Nat → Int) (H0 : Hp) (p dx r b : Addr) (S : SX.Tab), vs = [.ref p] ∧ TabSt K C n h goal H0 p dx r b S H ∧ RetV (.bl (decide (S.c (n + h) = 0))) H Q
theorem scSolved : FnScope ["self"] ["self"] (defScope sSolved) := ⟨rfl, rfl, rfl, by decide +kernel, rfl, by decide +kernel, by decide +kernel⟩
theorem ok_solved {f C : Addr} {fd : FuncData} (F : Fun K "is_solved" "Tableau.is_solved" sSolved f fd) (T : TbC K C) : FnOk P w K mg base CX0 1 f fd ["self"] (spSolved K C) := by
  refine F.ok scSolved (fun vs H Q E h => ?_) (fun cdv A outer s H vs Q E hr h => ?_)
  · obtain ⟨n, h, goal, H0, p, dx, r, b, S, rfl, _⟩ := h
    rfl
  · obtain ⟨n, h, goal, H0, p, dx, r, b, S, rfl, t, k⟩ := h
    refine ⟨_, pss_one (ps_ret (pe_cmpR op_eq (pe_ix ix_tup (pe_ix ix_list (pe_fld (pv 0) rfl) (pe_un un_neg pe_int) (fun _ _ => rfl)) pe_int (fun _ _ => rfl)) pe_int (nomark _))), ?_⟩
    refine s_ret (v := .bl (decide (S.c (n + h) = 0))) ?_ k
    rw [← num_zero]
    exact ev_op (ev_num (ep_ixZ (ep_row (t.gCost T rfl)) fun _ => Fr.mono)) ev_c (rv_eq rfl)
abbrev nParts : List Str := ["self", "found", "at", "place"]
def spParts (K : PySem.W.Frag) (C : Addr) : Sp := fun vs H Q _ => ∃ (n h : Nat) (goal : Nat → Int) (H0 : Hp) (p dx r b : Addr) (S : SX.Tab), vs = [.ref p] ∧ TabSt K C n h goal H0 p dx r b S H ∧ n ≤ 1000 ∧ h ≤ 1000 ∧ (∀ i j, i < h → j < h → S.B i = S.B j → i = j) ∧
  ∀ q H2, H q = none → Ex H H2 → RowP K n (SX.parts n h S.T S.B) (.ref q) H2 → Q (.ref q) H2
theorem scParts : FnScope nParts ["self"] (defScope sParts) := ⟨rfl, rfl, rfl, by decide +kernel, rfl, by decide +kernel, by decide +kernel⟩
theorem ok_parts {f C aN : Addr} {fd : FuncData} (F : Fun K "parts" "Tableau.parts" sParts f fd) (T : TbC K C) (B : Bl2 mg) (N : FrC K mg "NOTHING" 0 aN) : FnOk P w K mg base CX0 1 f fd ["self"] (spParts K C) := by
  refine F.ok scParts (fun vs H Q E h => ?_) (fun cdv A outer s H vs Q E hr h => ?_)
  · obtain ⟨n, h, goal, H0, p, dx, r, b, S, rfl, _⟩ := h
    rfl
  · obtain ⟨n, h, goal, H0, p, dx, r, b, S, rfl, t, hn, hh, inj, k⟩ := h
    refine ⟨_, pss_cons (ps_set (i := 1) scParts.nd rfl (.inl rfl) (pe_op op_rep (pe_lst (pa_cons (pe_glob (v := .ref aN) rfl N.gl rfl) pa_nil)) (pe_fld (pv 0) rfl)))
      (pss_cons (ps_for PassesOwn.never rfl (pi_enum (by rfl) B.enum (pa_cons (pe_fld (pv 0) rfl) pa_nil)) (pg_tup rfl (pgs_cons (pg_name (i := 2) scParts.nd rfl (.inl rfl)) (pgs_cons (pg_name (i := 3) scParts.nd rfl (.inl rfl)) pgs_nil)))
        (pss_one (ps_if (pt_cmpR op_lt (pv 3) (pe_fld (pv 0) rfl) (nomark _)) (pss_one (ps_asg (pe_ix ix_list (pe_ix ix_list (pe_fld (pv 0) rfl) (pv 2) (fun _ _ => rfl)) (pe_un un_neg pe_int) (fun _ _ => rfl)) (pg_sub (pv 1) (pv 3) set_list))) pss_nil)))
      (pss_one (ps_ret (pv 1)))), ?_⟩
    refine qn_asg (P := RowP K n fun _ => 0) (fun H1 e Q q => ?_) fun l H1 l0 e1 hl => ?_
    · refine el_lst (vs := [.ref aN]) (ea_cons ev_c ea_nil) (by show 1 ≤ 100000; decide) H1 e _ fun l H2 l0 e2 hl => (t.gMany T rfl) H2 (e.trans e2) _ fun H3 e3 => ⟨l, (n : Int), [.ref aN], rfl, rfl, e3 _ _ hl, by omega, by omega, sz_of (by simp; omega), fun q' hq => q q' _ (fresh_back (e2.trans e3) hq) ((e2.trans e3).trans (Ex.new hq)) ⟨q', _, rfl, upd_same, ?_, ?_⟩⟩
      · simp
      · intro i x hx
        have : x = .ref aN := by
          have := List.mem_of_getElem? hx
          simp at this
          exact this.2
        subst this
        exact N.fr _
    · have t1 := t.mono e1
      obtain ⟨b', ys, eb, hb, yl, hy⟩ := id t.bas
      cases eb
      obtain ⟨l', zs, el, hzs, zl, hz⟩ := hl
      cases el
      refine q_forX (F := H) (sf_enum (n := h) (Pi := fun i x _ => x = .int (S.B i : Int)) (t1.gBasis T rfl) e1 hb yl (fun _ => mono_eq) hy) (fun i σ H' => Ex H H' ∧ (∃ x y, σ = [some (.ref p), some (.ref l), x, y]) ∧ ∃ xs, H' l = some (.lst xs) ∧ xs.length = n ∧ ∀ j x, xs[j]? = some x → Fr K (SX.sm i fun k => if S.B k = j then S.T k (n + h) else 0) x H')
        (fun H2 e2 => ⟨e1.trans e2, ⟨_, _, rfl⟩, zs, e2 _ _ hzs, zl, fun j x q => Fr.mono _ _ _ e2 (hz j x q)⟩) (fun _ _ _ _ p => p.1) ?_ ?_
      · rintro i x σ H2 H3 hi ⟨e2, ⟨y1, y2, rfl⟩, xs, hx1, xl, hx2⟩ e3 ⟨T', x5, x6, rfl, hT, rfl, rfl⟩
        refine g_pair hT ?_
        have e := e2.trans e3
        have t3 := t.mono e
        have c : (if (S.B i : Int) < (n : Int) then true else false) = decide (S.B i < n) := by simp
        refine s_when (b := decide ((S.B i : Int) < (n : Int))) (et_test (ev_op (ev_var rfl) (t3.gMany T rfl) rv_I0)) (fun hb H4 e4 => ?_) fun hb H4 e4 => ?_
        · have hlt : S.B i < n := by simpa using hb
          have t4 := t3.mono e4
          refine s_setP (P := Fr K (S.T i (n + h))) (ep_ixZ (n := n + h) (ep_row (ep_ixL (t4.pRows T rfl) (ev_var rfl) hi fun _ => rowQ_mono)) fun _ => Fr.mono) Fr.mono (fun H5 e5 => ev_var rfl) (fun H5 e5 => ev_var rfl) fun v H5 e5 hv => ?_
          have hl5 : H5 l = some (.lst xs) := e5 _ _ (e4 _ _ (e3 _ _ hx1))
          refine ⟨xs, hl5, by omega, Ex.mut ((e.trans e4).trans e5) l0, ⟨_, _, rfl⟩, _, upd_same, by simpa using xl, fun j x q => ?_⟩
          rw [List.getElem?_set] at q
          split at q
          · rename_i z
            subst z
            split at q
            · cases q
              refine tst_fr _ _ _ _ _ hl5 mt_l (fr_cast ?_ hv)
              have z0 : (SX.sm i fun k => if S.B k = S.B i then S.T k (n + h) else 0) = 0 := SX.sm_zero fun k hk => by
                have : ¬ S.B k = S.B i := fun z => by
                  have := inj k i (by omega) hi z
                  omega
                simp [this]
              simp only [SX.sm, if_true]
              rw [z0]
              grind
            · cases q
          · rename_i z
            have : ¬ S.B i = j := z
            refine tst_fr _ _ _ _ _ hl5 mt_l (fr_cast ?_ (Fr.mono _ _ _ ((e3.trans e4).trans e5) (hx2 j x q)))
            simp only [SX.sm, this, if_false]
            grind
        · have hge : ¬ S.B i < n := by simpa using hb
          refine ⟨e.trans e4, ⟨_, _, rfl⟩, xs, e4 _ _ (e3 _ _ hx1), xl, fun j x q => fr_cast ?_ (Fr.mono _ _ _ (e3.trans e4) (hx2 j x q))⟩
          have : ¬ S.B i = j := by
            have := (List.getElem?_eq_some_iff.mp q).1
            omega
          simp only [SX.sm, this, if_false]
          grind
      · rintro σ H2 ⟨e2, ⟨y1, y2, rfl⟩, xs, hx1, xl, hx2⟩
        exact s_ret (ev_var rfl) fun H3 e3 => k l _ l0 (e2.trans e3) ⟨l, xs, rfl, e3 _ _ hx1, xl, fun j x q => Fr.mono _ _ _ e3 (hx2 j x q)⟩
theorem s_appP {σ : L2.St} {H : Hp} {ta te : TE} {Pv : V → Hp → Prop} {D : Ends} {l : Addr} {xs : List V} (hl : H l = some (.lst xs)) (ha : Ev ta σ H (.ref l)) (h : EvP te σ H Pv) (hz : xs.length < 100000) (k : ∀ v H1, Ex H H1 → H1 l = some (.lst xs) → Pv v H1 → D.nx σ (upd H1 l (.lst (xs ++ [v])))) :
    tDrop (tBM K "list" rAppend ta (tCons te tNil)) D σ H := ha H (Ex.refl H) _ fun H1 e1 =>
  ⟨Or.inl ⟨rfl, xs, sq_of (e1 l _ hl)⟩, h H1 e1 _ fun v H2 e2 pv => ⟨l, xs, v, rfl, rfl, e2 l _ (e1 l _ hl), sz_lt hz, k v H2 (e1.trans e2) (e2 l _ (e1 l _ hl)) pv⟩⟩
theorem app_at {Pi : Nat → V → Hp → Prop} {H : Hp} {l : Addr} {xs : List V} {v : V} {i : Nat} (hl : H l = some (.lst xs)) (hn : xs.length = i) (t : ∀ j, Tst (Pi j)) (hx : ∀ j x, xs[j]? = some x → Pi j x H) (hv : Pi i v H) :
    ∀ j x, (xs ++ [v])[j]? = some x → Pi j x (upd H l (.lst (xs ++ [v]))) := fun j x q => by
  rw [List.getElem?_append] at q
  split at q
  · exact t j _ _ _ _ _ hl mt_l (hx j x q)
  · have hj : j - xs.length < 1 := by have := (List.getElem?_eq_some_iff.mp q).1; simpa using this
    have : j = i := by omega
    subst this
    rw [hn] at q
    simp at q
    subst q
    exact t j _ _ _ _ _ hl mt_l hv
abbrev nPrices : List Str := ["self", "found", "at", "sign", "own"]
def spPrices (K : PySem.W.Frag) (C : Addr) : Sp := fun vs H Q _ => ∃ (n h : Nat) (goal : Nat → Int) (H0 : Hp) (p dx r b : Addr) (S : SX.Tab) (a : Nat), vs = [.ref p] ∧ TabSt K C n h goal H0 p dx r b S H ∧ n ≤ 1000 ∧ h ≤ 1000 ∧ SzT a n h S ∧ 0 < a ∧ a ≤ 4000 ∧
  ∀ q H2, H q = none → Ex H H2 → RowP K h (SX.prices n goal S.c) (.ref q) H2 → Q (.ref q) H2
theorem scPrices : FnScope nPrices ["self"] (defScope sPrices) := ⟨rfl, rfl, rfl, by decide +kernel, rfl, by decide +kernel, by decide +kernel⟩
theorem sz_sg {goal : Nat → Int} {i : Nat} : Sz 1 ((SX.sg goal i : Int) : Rat) := by
  unfold SX.sg
  split
  · exact ⟨by decide, by decide⟩
  · exact ⟨by decide, by decide⟩
theorem ok_prices {f C aO fD fP : Addr} {fd fdD fdP : FuncData} (F : Fun K "prices" "Tableau.prices" sPrices f fd) (T : TbC K C) (B : Bl2 mg) (O : FrC K mg "ONE" 1 aO) (D : Has P w K mg base "difference" 3 f2N (spFr2 K (fun _ => True) (· - ·)) fD fdD) (Pr : Has P w K mg base "product" 3 f2N (spFr2 K (fun _ => True) (· * ·)) fP fdP) :
    FnOk P w K mg base CX0 4 f fd ["self"] (spPrices K C) := by
  refine F.ok scPrices (fun vs H Q E h => ?_) (fun cdv A outer s H vs Q E hr h => ?_)
  · obtain ⟨n, h, goal, H0, p, dx, r, b, S, a, rfl, _⟩ := h
    rfl
  · obtain ⟨n, h, goal, H0, p, dx, r, b, S, a, rfl, t, hn, hh, sz, a0, a1, k⟩ := h
    refine ⟨_, pss_cons (ps_set (i := 1) scPrices.nd rfl (.inl rfl) (pe_lst pa_nil))
      (pss_cons (ps_for PassesOwn.never rfl (pi_enum (by rfl) B.enum (pa_cons (pe_fld (pv 0) rfl) pa_nil)) (pg_tup rfl (pgs_cons (pg_name (i := 2) scPrices.nd rfl (.inl rfl)) (pgs_cons (pg_name (i := 3) scPrices.nd rfl (.inl rfl)) pgs_nil)))
        (pss_cons (ps_set (i := 4) scPrices.nd rfl (.inl rfl) (pe_cl D hr (pa_cons (pe_glob (v := .ref aO) rfl O.gl rfl) (pa_cons (pe_ix ix_list (pe_fld (pv 0) rfl) (pe_op op_add (pe_fld (pv 0) rfl) (pv 2)) (fun _ _ => rfl)) pa_nil))))
        (pss_one (ps_expr (pe_bm PySem.F.plainAttrs_list PySem.F.slot_list_append PySem.F.type_list_append mt_append (pv 1) (pa_cons (pe_cl Pr hr (pa_cons (pe_tup (pa_cons (pv 3) (pa_cons pe_int pa_nil))) (pa_cons (pv 4) pa_nil))) pa_nil))))))
      (pss_one (ps_ret (pv 1)))), ?_⟩
    refine q_asgL (el_lst ea_nil (by decide)) fun l H1 l0 e1 hl => ?_
    have t1 := t.mono e1
    obtain ⟨sv, ca, h1, ⟨⟨sa, ys, es, hs, yl, hy⟩, _, _⟩, h5⟩ := id t.ob
    subst es
    refine q_forX (F := H) (sf_enum (n := h) (Pi := fun i x _ => x = .int (SX.sg goal i)) (ev_fldT T (ev_var rfl) (e1 _ _ h1) (i := 2) rfl rfl) e1 hs yl (fun _ => mono_eq) hy) (fun i σ H' => Ex H H' ∧ (∃ x y z, σ = [some (.ref p), some (.ref l), x, y, z]) ∧ ∃ xs, H' l = some (.lst xs) ∧ xs.length = i ∧ ∀ j x, xs[j]? = some x → Fr K (SX.prices n goal S.c j) x H')
      (fun H2 e2 => ⟨e1.trans e2, ⟨_, _, _, rfl⟩, [], e2 _ _ hl, rfl, fun j x q => by simp at q⟩) (fun _ _ _ _ p => p.1) ?_ ?_
    · rintro i x σ H2 H3 hi ⟨e2, ⟨y1, y2, y3, rfl⟩, xs, hx1, xl, hx2⟩ e3 ⟨T', x5, x6, rfl, hT, rfl, rfl⟩
      refine g_pair hT ?_
      have e := e2.trans e3
      have t3 := t.mono e
      refine qp_asg (ep_fr2 2 a (ep_of ev_c fun H4 e4 => O.fr H4) (ep_ixL (j := n + i) (ep_row (t3.gCost T rfl)) (by
        have : ((n + i : Nat) : Int) = (n : Int) + (i : Int) := by omega
        rw [this]
        exact ev_op (t3.gMany T rfl) (ev_var rfl) rv_I0) (by omega) fun _ => Fr.mono) (sz1 (by decide)) (sz.2 _ (by omega)) ⟨by decide, a0, by omega⟩ trivial) fun o H4 e4 ho => ?_
      have hl4 := e4 _ _ (e3 _ _ hx1)
      refine s_appP (Pv := Fr K (SX.prices n goal S.c i)) hl4 (ev_var rfl) (ep_fr2 1 (2 + a + 1) (ep_int1 (ev_var rfl)) (ep_varM rfl ho Fr.mono) sz_sg ((sz1 (by decide)).sub (sz.2 _ (by omega))) ⟨by decide, by omega, by omega⟩ trivial) (by omega) fun v H5 e5 hl5 hv => ?_
      exact ⟨Ex.mut ((e.trans e4).trans e5) l0, ⟨_, _, _, rfl⟩, _, upd_same, by simp [xl], app_at (Pi := fun j => Fr K (SX.prices n goal S.c j)) hl5 xl (fun _ => tst_fr) (fun j x q => Fr.mono _ _ _ ((e3.trans e4).trans e5) (hx2 j x q)) hv⟩
    · rintro σ H2 ⟨e2, ⟨y1, y2, y3, rfl⟩, xs, hx1, xl, hx2⟩
      exact s_ret (ev_var rfl) fun H3 e3 => k l _ l0 (e2.trans e3) ⟨l, xs, rfl, e3 _ _ hx1, xl, fun j x q => Fr.mono _ _ _ e3 (hx2 j x q)⟩
end
end EW
set_option linter.all false
set_option maxRecDepth 100000
namespace SX
/-! determinants by the first row; Cramer -/
def sgn (j : Nat) : Rat := if j % 2 = 0 then 1 else -1
theorem sgn_succ (j : Nat) : sgn (j + 1) = - sgn j := by
  unfold sgn
  by_cases h : j % 2 = 0
  · rw [if_pos h, if_neg (by omega)]
  · rw [if_neg h, if_pos (by omega)]; grind
theorem sgn_sq (j : Nat) : sgn j * sgn j = 1 := by
  unfold sgn
  split <;> grind
def det : Nat → (Nat → Nat → Rat) → Rat
  | 0, _ => 1
  | n + 1, a => sm (n + 1) fun j => sgn j * a 0 j * det n fun i k => a (i + 1) (skip j k)
theorem det_congr : ∀ (n : Nat) {a b : Nat → Nat → Rat}, (∀ i j, i < n → j < n → a i j = b i j) → det n a = det n b
  | 0, _, _, _ => rfl
  | n + 1, a, b, h => by
    show sm (n + 1) _ = sm (n + 1) _
    refine sm_congr fun j hj => ?_
    rw [h 0 j (by omega) hj, det_congr n (a := fun i k => a (i + 1) (skip j k)) (b := fun i k => b (i + 1) (skip j k)) fun i k hi hk => h _ _ (by omega) (by unfold skip; split <;> omega)]
/-- another column at c -/
def setc (a : Nat → Nat → Rat) (c : Nat) (v : Nat → Rat) : Nat → Nat → Rat := fun i j => if j = c then v i else a i j
def unskip (p c : Nat) : Nat := if c < p then c else c - 1
theorem setc_minor {a : Nat → Nat → Rat} {c j : Nat} {v : Nat → Rat} (h : j ≠ c) : (fun i k => setc a c v (i + 1) (skip j k)) = setc (fun i k => a (i + 1) (skip j k)) (unskip j c) (fun i => v (i + 1)) := by
  funext i k
  unfold setc
  by_cases e : skip j k = c
  · rw [if_pos e, if_pos]
    unfold skip at e; unfold unskip
    split at e <;> split <;> omega
  · rw [if_neg e, if_neg]
    intro w
    apply e
    unfold unskip at w; unfold skip
    split at w <;> split <;> omega
theorem setc_same {a : Nat → Nat → Rat} {c : Nat} {v : Nat → Rat} : (fun i k => setc a c v (i + 1) (skip c k)) = fun i k => a (i + 1) (skip c k) := by
  funext i k
  unfold setc
  rw [if_neg]
  unfold skip
  split <;> omega
theorem det_lin : ∀ (n : Nat) (a : Nat → Nat → Rat) (c : Nat) (u v : Nat → Rat) (x y : Rat), c < n → det n (setc a c fun i => x * u i + y * v i) = x * det n (setc a c u) + y * det n (setc a c v)
  | 0, _, c, _, _, _, _, h => absurd h (Nat.not_lt_zero _)
  | n + 1, a, c, u, v, x, y, h => by
    show sm (n + 1) _ = x * sm (n + 1) _ + y * sm (n + 1) _
    rw [← sm_mul, ← sm_mul, ← sm_add]
    refine sm_congr fun j hj => ?_
    by_cases e : j = c
    · subst e
      rw [setc_same, setc_same, setc_same]
      simp only [setc, if_true]
      grind
    · rw [setc_minor e, setc_minor e, setc_minor e, det_lin n (fun i k => a (i + 1) (skip j k)) (unskip j c) (fun i => u (i + 1)) (fun i => v (i + 1)) x y (by unfold unskip; split <;> omega)]
      simp only [setc, if_neg e]
      grind
theorem det_zero {n : Nat} {a : Nat → Nat → Rat} {c : Nat} (hc : c < n) : det n (setc a c fun _ => 0) = 0 := by
  have h := det_lin n a c (fun _ => 0) (fun _ => 0) 0 0 hc
  simp only [Rat.zero_mul, Rat.add_zero] at h
  exact h
theorem sm_two {n p : Nat} {f : Nat → Rat} (hp : p + 1 < n) (h : ∀ j, j < n → j ≠ p → j ≠ p + 1 → f j = 0) (e : f p + f (p + 1) = 0) : sm n f = 0 := by
  have : sm n f = sm n (fun j => (if j = p then f p else 0) + (if j = p + 1 then f (p + 1) else 0)) := sm_congr fun j hj => by
    by_cases h1 : j = p
    · subst h1
      rw [if_pos rfl, if_neg (by omega)]; grind
    · by_cases h2 : j = p + 1
      · subst h2
        rw [if_neg h1, if_pos rfl]; grind
      · rw [if_neg h1, if_neg h2, h j hj h1 h2]; grind
  rw [this, sm_add, sm_one (k := p) (by omega) fun j _ hne => if_neg hne, sm_one (k := p + 1) (by omega) fun j _ hne => if_neg hne, if_pos rfl, if_pos rfl, e]
/-- two columns alike, side by side -/
theorem det_adj : ∀ (n : Nat) (a : Nat → Nat → Rat) (p : Nat), p + 1 < n → (∀ i, a i p = a i (p + 1)) → det n a = 0
  | 0, _, _, h, _ => absurd h (Nat.not_lt_zero _)
  | n + 1, a, p, h, e => by
    refine sm_two (p := p) h (fun j hj h1 h2 => ?_) ?_
    · have : det n (fun i k => a (i + 1) (skip j k)) = 0 := by
        by_cases l : j < p
        · refine det_adj n _ (p - 1) (by omega) fun i => ?_
          show a (i + 1) (skip j (p - 1)) = a (i + 1) (skip j (p - 1 + 1))
          have e1 : skip j (p - 1) = p := by unfold skip; split <;> omega
          have e2 : skip j (p - 1 + 1) = p + 1 := by unfold skip; split <;> omega
          rw [e1, e2]
          exact e _
        · refine det_adj n _ p (by omega) fun i => ?_
          show a (i + 1) (skip j p) = a (i + 1) (skip j (p + 1))
          have e1 : skip j p = p := by unfold skip; split <;> omega
          have e2 : skip j (p + 1) = p + 1 := by unfold skip; split <;> omega
          rw [e1, e2]
          exact e _
      rw [this]; grind
    · have : (fun i k => a (i + 1) (skip p k)) = fun i k => a (i + 1) (skip (p + 1) k) := by
        funext i k
        by_cases l : k = p
        · subst l
          have e1 : skip k k = k + 1 := by unfold skip; split <;> omega
          have e2 : skip (k + 1) k = k := by unfold skip; split <;> omega
          rw [e1, e2, e]
        · have : skip p k = skip (p + 1) k := by unfold skip; split <;> split <;> omega
          rw [this]
      rw [this, sgn_succ, ← e 0]
      grind
theorem setc_comm {a : Nat → Nat → Rat} {c d : Nat} (h : c ≠ d) {u v : Nat → Rat} : setc (setc a c u) d v = setc (setc a d v) c u := by
  funext i j
  unfold setc
  by_cases h1 : j = c <;> by_cases h2 : j = d
  · omega
  · simp [h1, h]
  · have : d ≠ c := fun z => h z.symm
    simp [h2, this]
  · simp [h1, h2]
theorem det_swap {n : Nat} {a : Nat → Nat → Rat} {c : Nat} (h : c + 1 < n) (u v : Nat → Rat) : det n (setc (setc a c u) (c + 1) v) = - det n (setc (setc a c v) (c + 1) u) := by
  have L2 : ∀ x y z : Nat → Rat, det n (setc (setc a c x) (c + 1) fun i => 1 * y i + 1 * z i) = 1 * det n (setc (setc a c x) (c + 1) y) + 1 * det n (setc (setc a c x) (c + 1) z) := fun x y z => det_lin n (setc a c x) (c + 1) y z 1 1 h
  have L1 : ∀ x y z : Nat → Rat, det n (setc (setc a c fun i => 1 * y i + 1 * z i) (c + 1) x) = 1 * det n (setc (setc a c y) (c + 1) x) + 1 * det n (setc (setc a c z) (c + 1) x) := fun x y z => by
    have e := fun u => setc_comm (a := a) (c := c) (d := c + 1) (by omega) (u := u) (v := x)
    rw [e, e, e]
    exact det_lin n (setc a (c + 1) x) c y z 1 1 (by omega)
  have Z : ∀ x : Nat → Rat, det n (setc (setc a c x) (c + 1) x) = 0 := fun x => det_adj n _ c h fun i => by
    unfold setc
    simp
  have h0 := Z fun i => 1 * u i + 1 * v i
  rw [L1, L2, L2, Z, Z] at h0
  grind
theorem setc_self {a : Nat → Nat → Rat} {c : Nat} : setc a c (fun i => a i c) = a := by
  funext i j
  unfold setc
  split
  · rename_i h; rw [h]
  · rfl
/-- two columns alike -/
theorem det_alike {n : Nat} : ∀ (d : Nat) (a : Nat → Nat → Rat) (p : Nat), p + d + 1 < n → (∀ i, a i p = a i (p + d + 1)) → det n a = 0
  | 0, a, p, h, e => det_adj n a p h e
  | d + 1, a, p, h, e => by
    have : a = setc (setc a (p + d + 1) fun i => a i (p + d + 1)) (p + d + 1 + 1) fun i => a i (p + d + 1 + 1) := by
      funext i j
      unfold setc
      by_cases h1 : j = p + d + 1 + 1
      · simp [h1]
      · by_cases h2 : j = p + d + 1
        · simp [h2]
        · simp [h1, h2]
    rw [this, det_swap (c := p + d + 1) (by omega), det_alike d _ p (by omega) fun i => ?_]
    · grind
    · show setc (setc a (p + d + 1) fun i => a i (p + d + 1 + 1)) (p + d + 1 + 1) (fun i => a i (p + d + 1)) i p = setc (setc a (p + d + 1) fun i => a i (p + d + 1 + 1)) (p + d + 1 + 1) (fun i => a i (p + d + 1)) i (p + d + 1)
      unfold setc
      rw [if_neg (by omega), if_neg (by omega), if_neg (by omega), if_pos rfl]
      exact e i
theorem det_same {n p q : Nat} {a : Nat → Nat → Rat} (h : p ≠ q) (hp : p < n) (hq : q < n) (e : ∀ i, a i p = a i q) : det n a = 0 := by
  by_cases l : p < q
  · have : q = p + (q - p - 1) + 1 := by omega
    exact det_alike (q - p - 1) a p (by omega) fun i => by rw [← this]; exact e i
  · have : p = q + (p - q - 1) + 1 := by omega
    exact det_alike (p - q - 1) a q (by omega) fun i => by rw [← this]; exact (e i).symm
theorem det_sum {n c : Nat} {a : Nat → Nat → Rat} (hc : c < n) (t : Nat → Rat) (f : Nat → Nat → Rat) : ∀ m, det n (setc a c fun i => sm m fun k => t k * f i k) = sm m fun k => t k * det n (setc a c fun i => f i k)
  | 0 => det_zero hc
  | m + 1 => by
    have h := det_lin n a c (fun i => sm m fun k => t k * f i k) (fun i => f i m) 1 (t m) hc
    rw [det_sum hc t f m] at h
    show _ = sm m _ + _
    have e : (fun i => sm (m + 1) fun k => t k * f i k) = fun i => 1 * (sm m fun k => t k * f i k) + t m * f i m := by
      funext i
      show sm m _ + _ = _
      grind
    rw [e, h]
    grind
/-- Cramer -/
theorem cramer {n : Nat} {a : Nat → Nat → Rat} {t b : Nat → Rat} (h : ∀ i, i < n → sm n (fun j => a i j * t j) = b i) {c : Nat} (hc : c < n) : det n (setc a c b) = t c * det n a := by
  have e : det n (setc a c b) = det n (setc a c fun i => sm n fun k => t k * a i k) := det_congr n fun i j hi hj => by
    unfold setc
    split
    · rw [← h i hi]
      exact sm_congr fun k _ => by grind
    · rfl
  rw [e, det_sum hc t a n, sm_one (k := c) hc fun k hk hne => ?_, setc_self]
  rw [det_same (p := k) (q := c) hne hk hc fun i => ?_]
  · grind
  · unfold setc
    rw [if_neg hne, if_pos rfl]
theorem sm_skip : ∀ (n : Nat) (f : Nat → Rat) (p : Nat), p ≤ n → sm (n + 1) f = f p + sm n fun k => f (skip p k)
  | n, f, p, h => by
    by_cases l : p = n
    · subst l
      show sm p f + f p = _
      rw [sm_congr (n := p) (f := fun k => f (skip p k)) (g := f) fun k hk => by unfold skip; rw [if_pos hk]]
      grind
    · cases n with
      | zero => omega
      | succ n =>
        show sm (n + 1) f + f (n + 1) = f p + (sm n (fun k => f (skip p k)) + f (skip p n))
        rw [sm_skip n f p (by omega)]
        have : skip p n = n + 1 := by unfold skip; rw [if_neg (by omega)]
        rw [this]
        grind
/-- columns that come to everything -/
theorem det_span : ∀ (n : Nat) (a : Nat → Nat → Rat), (∀ b : Nat → Rat, ∃ t : Nat → Rat, ∀ i, i < n → sm n (fun j => a i j * t j) = b i) → det n a ≠ 0
  | 0, _, _ => by show (1 : Rat) ≠ 0; decide
  | n + 1, a, sp => by
    obtain ⟨t, ht⟩ := sp fun i => if i = 0 then 1 else 0
    have ex : ∃ j, j < n + 1 ∧ t j ≠ 0 := by
      by_cases w : ∃ j, j < n + 1 ∧ t j ≠ 0
      · exact w
      · exfalso
        have h0 := ht 0 (by omega)
        rw [sm_zero fun j hj => by
          have : t j = 0 := by
            by_cases z : t j = 0
            · exact z
            · exact absurd ⟨j, hj, z⟩ w
          rw [this]; grind, if_pos rfl] at h0
        grind
    obtain ⟨j, hj, tj⟩ := ex
    have ih := det_span n (fun i k => a (i + 1) (skip j k)) fun b => by
      obtain ⟨s, hs⟩ := sp fun i => if i = 0 then 0 else b (i - 1)
      refine ⟨fun k => s (skip j k) - (s j / t j) * t (skip j k), fun i hi => ?_⟩
      have h1 := hs (i + 1) (by omega)
      have h2 := ht (i + 1) (by omega)
      rw [if_neg (by omega), sm_skip n _ j (by omega)] at h1 h2
      have e : i + 1 - 1 = i := by omega
      rw [e] at h1
      rw [sm_congr (g := fun k => a (i + 1) (skip j k) * s (skip j k) - (s j / t j) * (a (i + 1) (skip j k) * t (skip j k))) fun k _ => by grind, sm_sub, sm_mul]
      have q : s j / t j * t j = s j := Rat.div_mul_cancel tj
      generalize s j / t j = w at q ⊢
      grind
    intro z
    have c := cramer (a := a) (t := t) (b := fun i => if i = 0 then 1 else 0) ht hj
    rw [z] at c
    have e : det (n + 1) (setc a j fun i => if i = 0 then 1 else 0) = sgn j * det n fun i k => a (i + 1) (skip j k) := by
      show sm (n + 1) _ = _
      rw [sm_one (k := j) hj fun k hk hne => ?_, setc_same]
      · simp [setc]
      · rw [setc_minor hne]
        have : (fun i : Nat => (if i + 1 = 0 then (1 : Rat) else 0)) = fun _ => 0 := by funext i; simp
        rw [this, det_zero (by unfold unskip; split <;> omega)]
        grind
    rw [e] at c
    apply ih
    have s := sgn_sq j
    generalize det n (fun i k => a (i + 1) (skip j k)) = D at c ⊢
    have : sgn j * (sgn j * D) = 0 := by rw [c]; grind
    grind
/-- a bound of a determinant by its rows -/
def PD : Nat → (Nat → Nat) → Nat
  | 0, _ => 1
  | n + 1, M => (n + 1) * (M 0 * PD n fun i => M (i + 1))
theorem sm_ints {B : Nat} : ∀ {n : Nat} {f : Nat → Rat}, (∀ j, j < n → ∃ u : Int, f j = (u : Rat) ∧ u.natAbs ≤ B) → ∃ u : Int, sm n f = (u : Rat) ∧ u.natAbs ≤ n * B
  | 0, _, _ => ⟨0, rfl, by simp⟩
  | n + 1, f, h => by
    obtain ⟨u, e, l⟩ := sm_ints (n := n) (f := f) fun j hj => h j (by omega)
    obtain ⟨v, e2, l2⟩ := h n (by omega)
    refine ⟨u + v, ?_, ?_⟩
    · show sm n f + f n = _
      rw [e, e2, Rat.intCast_add]
    · rw [Nat.succ_mul]; omega
theorem sgn_int (j : Nat) : ∃ s : Int, sgn j = (s : Rat) ∧ s.natAbs = 1 := by
  unfold sgn
  split
  · exact ⟨1, rfl, rfl⟩
  · exact ⟨-1, rfl, rfl⟩
theorem det_int : ∀ (n : Nat) (a : Nat → Nat → Rat) (M : Nat → Nat), (∀ i j, i < n → j < n → ∃ u : Int, a i j = (u : Rat) ∧ u.natAbs ≤ M i) → ∃ u : Int, det n a = (u : Rat) ∧ u.natAbs ≤ PD n M
  | 0, _, _, _ => ⟨1, rfl, by show 1 ≤ 1; omega⟩
  | n + 1, a, M, h => by
    refine sm_ints fun j hj => ?_
    obtain ⟨s, e1, l1⟩ := sgn_int j
    obtain ⟨u, e2, l2⟩ := h 0 j (by omega) hj
    obtain ⟨v, e3, l3⟩ := det_int n (fun i k => a (i + 1) (skip j k)) (fun i => M (i + 1)) fun i k hi hk => h _ _ (by omega) (by unfold skip; split <;> omega)
    refine ⟨s * u * v, ?_, ?_⟩
    · rw [e1, e2, e3, Rat.intCast_mul, Rat.intCast_mul]
    · rw [Int.natAbs_mul, Int.natAbs_mul, l1, Nat.one_mul]
      exact Nat.mul_le_mul l2 l3
theorem solvedS {n : Nat} {a : Nat → Nat → Int} {M : Nat → Nat} (hA : ∀ i j, i < n → j < n → (a i j).natAbs ≤ M i) (sp : ∀ b : Nat → Rat, ∃ t : Nat → Rat, ∀ i, i < n → sm n (fun j => (a i j : Rat) * t j) = b i) :
    ∃ d : Int, d ≠ 0 ∧ d.natAbs ≤ PD n M ∧ ∀ (b : Nat → Int), (∀ i, i < n → (b i).natAbs ≤ M i) → ∀ t : Nat → Rat, (∀ i, i < n → sm n (fun j => (a i j : Rat) * t j) = (b i : Rat)) →
      ∀ j, j < n → ∃ u : Int, (d : Rat) * t j = (u : Rat) ∧ u.natAbs ≤ PD n M := by
  obtain ⟨d, e, l⟩ := det_int n (fun i j => (a i j : Rat)) M fun i j hi hj => ⟨a i j, rfl, hA i j hi hj⟩
  refine ⟨d, fun z => det_span n _ sp (by rw [e, z]; rfl), l, fun b hb t ht j hj => ?_⟩
  obtain ⟨u, eu, lu⟩ := det_int n (setc (fun i j => (a i j : Rat)) j fun i => (b i : Rat)) M fun i k hi hk => by
    unfold setc
    split
    · exact ⟨b i, rfl, hb i hi⟩
    · exact ⟨a i k, rfl, hA i k hi hk⟩
  refine ⟨u, ?_, lu⟩
  rw [← eu, cramer ht hj, e]
  grind
end SX
set_option linter.all false
set_option maxRecDepth 100000
namespace SX
section
variable {n h : Nat} {M : Nat → Nat} {col : Nat → Nat → Int} {goal : Nat → Int} {T : Nat → Nat → Rat} {c : Nat → Rat} {B : Nat → Nat}
theorem AI_leS (hM : ∀ i, i < h → 1 ≤ M i) (hc : ∀ j i, j < n → i < h → (col j i).natAbs ≤ M i) (hg : ∀ i, i < h → (goal i).natAbs ≤ M i) {i j : Nat} (hi : i < h) : (AI n h col goal i j).natAbs ≤ M i := by
  have s : (sg goal i).natAbs = 1 := by
    unfold sg; split <;> rfl
  unfold AI
  split
  · rename_i hj
    rw [Int.natAbs_mul, s, Nat.one_mul]
    exact hc j i hj hi
  · split
    · split
      · show 1 ≤ M i; exact hM i hi
      · show 0 ≤ M i; omega
    · rw [Int.natAbs_mul, s, Nat.one_mul]
      exact hg i hi
theorem Inv.cols (I : Inv n h (A0 n h col goal) T c B) {e k : Nat} (he : e < n + h + 1) (hk : k < h) : sm h (fun i => A0 n h col goal k (B i) * T i e) = A0 n h col goal k e := by
  have q := I.zker he k hk
  rw [zv_sum (fun j => A0 n h col goal k j) he fun i hi => by have := I.low i hi; omega] at q
  grind
theorem Inv.span (I : Inv n h (A0 n h col goal) T c B) (b : Nat → Rat) : ∃ t : Nat → Rat, ∀ k, k < h → sm h (fun i => (AI n h col goal k (B i) : Rat) * t i) = b k := by
  refine ⟨fun i => sm h fun k => b k * T i (n + k), fun k hk => ?_⟩
  rw [sm_congr (g := fun i => sm h fun l => b l * (A0 n h col goal k (B i) * T i (n + l))) fun i hi => by
    rw [← AI_eq, ← sm_mul]
    exact sm_congr fun l _ => by grind, sm_swap]
  rw [sm_congr (g := fun l => b l * if l = k then 1 else 0) fun l hl => by
    rw [sm_mul, I.cols (by omega) hk, A0_art hl]]
  rw [sm_one (k := k) hk fun l _ hne => by rw [if_neg hne]; grind, if_pos rfl]
  grind
theorem Inv.overS (I : Inv n h (A0 n h col goal) T c B) (hM : ∀ i, i < h → 1 ≤ M i) (hc : ∀ j i, j < n → i < h → (col j i).natAbs ≤ M i) (hg : ∀ i, i < h → (goal i).natAbs ≤ M i) :
    ∃ d : Int, d ≠ 0 ∧ d.natAbs ≤ PD h M ∧ ∀ e, e < n + h + 1 → ∀ i, i < h → ∃ u : Int, (d : Rat) * T i e = (u : Rat) ∧ u.natAbs ≤ PD h M := by
  obtain ⟨d, nd, ld, hd⟩ := solvedS (n := h) (a := fun k i => AI n h col goal k (B i)) (M := M) (fun i j hi hj => AI_leS hM hc hg hi) I.span
  refine ⟨d, nd, ld, fun e he i hi => ?_⟩
  exact hd (fun k => AI n h col goal k e) (fun k hk => AI_leS hM hc hg hk) (fun i => T i e) (fun k hk => by
    rw [← AI_eq, ← I.cols he hk]
    exact sm_congr fun i hi => by rw [AI_eq]) i hi
theorem Inv.cost_overS (I : Inv n h (A0 n h col goal) T c B) (hM : ∀ i, i < h → 1 ≤ M i) (hc : ∀ j i, j < n → i < h → (col j i).natAbs ≤ M i) (hg : ∀ i, i < h → (goal i).natAbs ≤ M i) :
    ∃ d : Int, d ≠ 0 ∧ d.natAbs ≤ PD h M ∧ ∀ e, e < n + h + 1 → ∃ u : Int, (d : Rat) * c e = (u : Rat) ∧ u.natAbs ≤ (h + 1) * PD h M := by
  obtain ⟨d, nd, ld, hd⟩ := I.overS hM hc hg
  refine ⟨d, nd, ld, fun e he => ?_⟩
  let u : Nat → Int := fun i => if hi : i < h then (hd e he i hi).choose else 0
  have hu : ∀ i, i < h → (d : Rat) * T i e = (u i : Rat) ∧ (u i).natAbs ≤ PD h M := fun i hi => by
    have := (hd e he i hi).choose_spec
    show (d : Rat) * T i e = ((if hi : i < h then (hd e he i hi).choose else 0 : Int) : Rat) ∧ (if hi : i < h then (hd e he i hi).choose else 0 : Int).natAbs ≤ _
    rw [dif_pos hi]
    exact this
  have su : (d : Rat) * sm h (fun i => if n ≤ B i then T i e else 0) = (smI h (fun i => if n ≤ B i then u i else 0) : Rat) := by
    rw [← sm_cast, ← sm_mul]
    refine sm_congr fun i hi => ?_
    by_cases w : n ≤ B i
    · rw [if_pos w, if_pos w]; exact (hu i hi).1
    · rw [if_neg w, if_neg w]; show (d : Rat) * 0 = 0; grind
  have lu : (smI h (fun i => if n ≤ B i then u i else 0)).natAbs ≤ h * PD h M := smI_le fun i hi => by
    split
    · exact (hu i hi).2
    · show 0 ≤ _; omega
  by_cases w : ∃ k, k < h ∧ e = n + k
  · obtain ⟨k, hk, ek⟩ := w
    have q := I.cost _ (I.zker he)
    rw [zv_sum (fun j => c j) he fun i hi => by have := I.low i hi; omega] at q
    rw [sm_zero (f := fun i => c (B i) * T i e) fun i hi => by rw [I.zero i hi]; grind] at q
    have q2 : sm h (fun m => zv h T B e (n + m)) = sm h (fun m => (if m = k then 1 else 0) - sm h (fun i => if B i = n + m then T i e else 0)) := sm_congr fun m hm => by
      unfold zv
      by_cases v : m = k
      · rw [if_pos v, if_pos (by omega)]
      · rw [if_neg v, if_neg (by omega)]
    rw [q2, sm_sub, sm_one (k := k) hk fun i _ hne => by rw [if_neg hne], if_pos rfl, sm_swap] at q
    have q3 : sm h (fun i => sm h (fun k => if B i = n + k then T i e else 0)) = sm h (fun i => if n ≤ B i then T i e else 0) := sm_congr fun i hi => by
      by_cases z : n ≤ B i
      · have l := I.low i hi
        rw [if_pos z, sm_one (k := B i - n) (by omega) fun k _ hne => by rw [if_neg (by omega)], if_pos (by omega)]
      · rw [if_neg z]
        exact sm_zero fun k _ => by rw [if_neg (by omega)]
    rw [q3] at q
    refine ⟨d - smI h (fun i => if n ≤ B i then u i else 0), ?_, ?_⟩
    · rw [Rat.intCast_sub, ← su]; grind
    · have := abs_sub d (smI h (fun i => if n ≤ B i then u i else 0))
      rw [Nat.succ_mul]
      omega
  · have ca := I.cost_at he (fun k hk z => w ⟨k, hk, z⟩)
    refine ⟨- smI h (fun i => if n ≤ B i then u i else 0), ?_, ?_⟩
    · rw [ca, Rat.intCast_neg, ← su]; grind
    · rw [Int.natAbs_neg, Nat.succ_mul]; omega
end
end SX
set_option Elab.async false
set_option linter.all false
set_option maxRecDepth 100000
set_option maxHeartbeats 4000000
set_option exponentiation.threshold 10000
namespace EW
open PySem PySem.Spec PyProof.Rows L2 Evl
theorem fldK {X : Cx} (K : PySem.W.Frag) {e : Expr} {f : Str} {pos : Pos} {ta : TE} (hK : X.K = K) (he : PE X e ta) (hb : attributeBase e f X.env (eval e X.env) = eval e X.env) : PE X (.Attribute e f pos) (tFld K ta f) := hK ▸ pe_fld he hb
/-! ### sizes -/
theorem szT_of {n h a : Nat} {M : Nat → Nat} {col : Nat → Nat → Int} {goal : Nat → Int} (hM : ∀ i, i < h → 1 ≤ M i) (hc : ∀ j i, j < n → i < h → (col j i).natAbs ≤ M i) (hg : ∀ i, i < h → (goal i).natAbs ≤ M i) (ha : (h + 1) * SX.PD h M < 2 ^ a) (k : Nat) : SzT a n h ((SX.tab0 n h col goal).up n h k) := by
  have I := SX.Tab.up_inv (SX.tab0_inv (n := n) (h := h) (col := col) (goal := goal)) k
  have ha' : SX.PD h M < 2 ^ a := Nat.lt_of_le_of_lt (Nat.le_mul_of_pos_left _ (by omega)) ha
  constructor
  · obtain ⟨d, d0, dl, hd⟩ := I.overS hM hc hg
    intro i j hi hj
    obtain ⟨u, e, ul⟩ := hd j hj i hi
    obtain ⟨h1, h2⟩ := SX.size_of d0 e
    exact ⟨by omega, by omega⟩
  · obtain ⟨d, d0, dl, hd⟩ := I.cost_overS hM hc hg
    intro j hj
    obtain ⟨u, e, ul⟩ := hd j hj
    obtain ⟨h1, h2⟩ := SX.size_of d0 e
    exact ⟨by omega, by omega⟩
/-- numbers over one number, all below 2 ^ D -/
def Cd (D n : Nat) (z : Nat → Rat) : Prop := ∃ d : Int, d ≠ 0 ∧ d.natAbs < 2 ^ D ∧ ∀ j, j < n → ∃ u : Int, (d : Rat) * z j = (u : Rat) ∧ u.natAbs < 2 ^ D
theorem Cd.mono {D E n : Nat} {z : Nat → Rat} (h : Cd D n z) (l : D ≤ E) : Cd E n z := by
  obtain ⟨d, d0, dl, hd⟩ := h
  have p : 2 ^ D ≤ 2 ^ E := Nat.pow_le_pow_right (by decide) l
  exact ⟨d, d0, by omega, fun j hj => by
    obtain ⟨u, e, ul⟩ := hd j hj
    exact ⟨u, e, by omega⟩⟩
theorem Cd.sz {D n j : Nat} {z : Nat → Rat} (h : Cd D n z) (hj : j < n) : Sz D (z j) := by
  obtain ⟨d, d0, dl, hd⟩ := h
  obtain ⟨u, e, ul⟩ := hd j hj
  obtain ⟨h1, h2⟩ := SX.size_of d0 e
  exact ⟨by omega, by omega⟩
theorem cc_of {n h a : Nat} {M : Nat → Nat} {col : Nat → Nat → Int} {goal : Nat → Int} (hM : ∀ i, i < h → 1 ≤ M i) (hc : ∀ j i, j < n → i < h → (col j i).natAbs ≤ M i) (hg : ∀ i, i < h → (goal i).natAbs ≤ M i) (ha : (h + 1) * SX.PD h M < 2 ^ a) (k : Nat) : Cd (a + 1) h (SX.prices n goal ((SX.tab0 n h col goal).up n h k).c) := by
  have I := SX.Tab.up_inv (SX.tab0_inv (n := n) (h := h) (col := col) (goal := goal)) k
  have ha' : SX.PD h M < 2 ^ a := Nat.lt_of_le_of_lt (Nat.le_mul_of_pos_left _ (by omega)) ha
  have p : 2 ^ (a + 1) = 2 * 2 ^ a := by rw [Nat.pow_succ]; omega
  obtain ⟨d, d0, dl, hd⟩ := I.cost_overS hM hc hg
  refine ⟨d, d0, by omega, fun j hj => ?_⟩
  obtain ⟨u, e, ul⟩ := hd (n + j) (by omega)
  have s : (SX.sg goal j).natAbs = 1 := by
    unfold SX.sg; split <;> rfl
  refine ⟨SX.sg goal j * (d - u), ?_, ?_⟩
  · unfold SX.prices
    rw [Rat.intCast_mul, Rat.intCast_sub, ← e]
    grind
  · rw [Int.natAbs_mul, s, Nat.one_mul]
    have := SX.abs_sub d u
    omega
/-! ### a comprehension of new lists -/
def LsN (n : Nat) (P : Nat → V → Hp → Prop) : V → Hp → Prop := fun v H => ∃ p xs, v = .ref p ∧ H p = some (.lst xs) ∧ xs.length = n ∧ ∀ i x, xs[i]? = some x → P i x H ∧ x ≠ .ref p
section
variable {K : PySem.W.Frag} {σ : L2.St} {H H' F : Hp} {ta tb te tx tl : TE} {P P' : V → Hp → Prop} {n : Nat} {X : Nat → V → Hp → Prop} {wi : TI} {D : Ends} {tz : TS}
theorem en_lcN {g : TG} {vs : List Nat} {Pi : Nat → V → Hp → Prop} (hs : SrP wi σ H n X) (hz : n ≤ 40000) (mP : ∀ i, Mono (Pi i)) (lP : ∀ i, Lst (Pi i))
    (he : ∀ i x H1, i < n → Ex H H1 → X i x H1 → ∃ σ2, (∀ Q : L2.St → Hp → Prop, Q σ2 H1 → g x (wipe σ vs) H1 Q) ∧ wipe σ2 vs = wipe σ vs ∧ EvN te σ2 H1 (Pi i)) : EvN (tLc wi g tYes te vs) σ H (LsN n Pi) := fun H0 e Q k => hs H0 e _ fun J H1 e1 w D hD => by
  obtain ⟨G, Y, wk, hG, hY⟩ := w
  refine lc_it (n := n) wk (fun i H' => H1 D = none ∧ Ex H1 H' ∧ ∃ acc, H' D = some (.lst acc) ∧ acc.length = i ∧ ∀ j x, acc[j]? = some x → Pi j x H' ∧ x ≠ .ref D) ⟨hD, Ex.new hD, [], upd_same, rfl, fun j x q => by simp at q⟩ (fun i H' _ p => hG H' p.2.1) ?_ ?_
  · rintro i x H2 H3 hi ⟨_, p2, acc, ha, hl, hx⟩ y
    obtain ⟨e3, hX⟩ := hY i H2 x H3 hi p2 y
    obtain ⟨σ2, hg, hw, hd⟩ := he i x H3 hi (((e.trans e1).trans p2).trans e3) hX
    refine hg _ ⟨hw, ?_⟩
    show te σ2 H3 _
    refine hd H3 (Ex.refl _) _ fun v H4 hv e4 pv => ⟨acc, e4 _ _ (e3 _ _ ha), sz_lt (by omega), hD, Ex.mut (((p2.trans e3).trans e4)) hD, acc ++ [.ref v], upd_same, by simp [hl], fun j z q => ?_⟩
    have h4 : H4 D = some (.lst acc) := e4 _ _ (e3 _ _ ha)
    rw [List.getElem?_append] at q
    split at q
    · obtain ⟨a, b⟩ := hx j z q
      exact ⟨lP j D z b H4 _ _ h4 mt_l (mP j _ _ _ (e3.trans e4) a), b⟩
    · have hj : j = i := by
        have := (List.getElem?_eq_some_iff.mp q).1
        simp at this
        omega
      subst hj
      rw [hl] at q
      simp at q
      subst q
      have ne : V.ref v ≠ .ref D := fun z => by
        cases z
        rw [e3 _ _ ha] at hv
        cases hv
      exact ⟨lP j D _ ne H4 _ _ h4 mt_l pv, ne⟩
  · rintro H' ⟨_, p2, acc, ha, hl, hx⟩
    exact k D H' (fresh_back e1 hD) (e1.trans p2) ⟨D, acc, rfl, ha, hl, hx⟩
variable {p C dx : Addr} {vs : List V} {g : Str}
theorem q_fldT (T : TbC K C) (h : EvP te σ H P) (mP : Mono P) (hσ : σ[0]? = some (some (V.ref p))) (hp : H p = some (.ins C dx (flT vs))) (hg : nmT[vs.length]? = some g) (k : ∀ v H1, Ex H H1 → P v H1 → tz D σ (upd H1 p (.ins C dx (flT (vs ++ [v]))))) :
    tSeq (sFld K (tVar 0) te g) tz D σ H := h H (Ex.refl H) _ fun v H1 e1 pv => ev_var hσ H1 (Ex.refl H1) _ fun H2 e2 =>
  ⟨p, C, dx, _, rfl, e2 _ _ (e1 _ _ hp), T.cl, T.no g (List.mem_of_getElem? hg), by have := flT_len vs; omega, by
    have : putF g v (flT vs) = flT (vs ++ [v]) := put_app nd_T hg
    rw [this]
    exact k v H2 (e1.trans e2) (mP _ _ _ e2 pv)⟩
theorem qn_fldT (T : TbC K C) (h : EvN te σ H P) (mP : Mono P) (hσ : σ[0]? = some (some (V.ref p))) (hp : H p = some (.ins C dx (flT vs))) (hg : nmT[vs.length]? = some g) (k : ∀ v H1, H v = none → Ex H H1 → P (.ref v) H1 → tz D σ (upd H1 p (.ins C dx (flT (vs ++ [.ref v]))))) :
    tSeq (sFld K (tVar 0) te g) tz D σ H := h H (Ex.refl H) _ fun v H1 hv e1 pv => ev_var hσ H1 (Ex.refl H1) _ fun H2 e2 =>
  ⟨p, C, dx, _, rfl, e2 _ _ (e1 _ _ hp), T.cl, T.no g (List.mem_of_getElem? hg), by have := flT_len vs; omega, by
    have : putF g (.ref v) (flT vs) = flT (vs ++ [.ref v]) := put_app nd_T hg
    rw [this]
    exact k v H2 hv (e1.trans e2) (mP _ _ _ e2 pv)⟩
end
section
variable {K : PySem.W.Frag} {σ : L2.St} {H : Hp} {p C dx : Addr} {fs : List (Str × V)} {o' : HO} {v : V} {ta : TA}
theorem ap_of {vs0 : List V} (h : EvA ta σ H vs0) : EaP ta σ H (fun vs _ => vs = vs0) := fun H1 e Q q => h H1 e Q fun H2 e2 => q _ H2 e2 rfl
theorem ls_ni {n : Nat} {Pi : Nat → V → Hp → Prop} (h : LsP n Pi v H) (hp : H p = some (.ins C dx fs)) : v ≠ .ref p := by
  rintro rfl
  obtain ⟨a, xs, e, ha, _⟩ := h
  cases e
  rw [hp] at ha
  cases ha
theorem row_up {W : Nat} {f : Nat → Rat} (h : RowP K W f v H) (hp : H p = some (.ins C dx fs)) : RowP K W f v (upd H p o') := row_lst p v (ls_ne_ins (K := K) h hp) _ _ _ hp mt_i h
theorem ints_up {n : Nat} {f : Nat → Int} (h : IntsP n f v H) (hp : H p = some (.ins C dx fs)) : IntsP n f v (upd H p o') := ints_lst p v (ls_ni h hp) _ _ _ hp mt_i h
abbrev MatN (K : PySem.W.Frag) (h W : Nat) (T : Nat → Nat → Rat) : V → Hp → Prop := LsN h fun i => RowP K W (T i)
theorem matN_mono {h W : Nat} {T : Nat → Nat → Rat} : Mono (MatN K h W T) := by
  rintro v H H' e ⟨r, xs, rfl, h1, h2, h3⟩
  exact ⟨r, xs, rfl, e _ _ h1, h2, fun i x q => ⟨row_mono _ _ _ e (h3 i x q).1, (h3 i x q).2⟩⟩
theorem matN_up {h W : Nat} {T : Nat → Nat → Rat} (m : MatN K h W T v H) (hp : H p = some (.ins C dx fs)) : MatN K h W T v (upd H p o') := by
  obtain ⟨r, xs, rfl, h1, h2, h3⟩ := m
  have ne : r ≠ p := fun z => by
    subst z
    rw [hp] at h1
    cases h1
  exact ⟨r, xs, rfl, by rw [upd_ne ne]; exact h1, h2, fun i x q => ⟨row_up (h3 i x q).1 hp, (h3 i x q).2⟩⟩
theorem matN_p {h W : Nat} {T : Nat → Nat → Rat} (m : MatN K h W T v H) : MatP K h W T v H := by
  obtain ⟨r, xs, rfl, h1, h2, h3⟩ := m
  exact ⟨r, xs, rfl, h1, h2, fun i x q => (h3 i x q).1⟩
/-- what stands is no new place -/
theorem ls_old {n : Nat} {Pi : Nat → V → Hp → Prop} {q : Addr} (h : LsP n Pi v H) (hq : H q = none) : v ≠ .ref q := by
  rintro rfl
  obtain ⟨a, xs, e, h1, _⟩ := h
  cases e
  rw [hq] at h1
  cases h1
end
section
variable {P : Program} {w : World} {K : PySem.W.Frag} {mg : Str → Option Value} {base : Heap}
/-! ### __init__ -/
abbrev nInit : List Str := ["self", "columns", "goal", "own", "at", "place"]
def spInit (K : PySem.W.Frag) (C : Addr) : Sp := fun vs H Q _ => ∃ (n h M a : Nat) (col : Nat → Nat → Int) (goal : Nat → Int) (H0 : Hp) (p dx : Addr) (x y : V), vs = [.ref p, x, y] ∧ Ex H0 H ∧ H0 p = none ∧ H p = some (.ins C dx (flT [])) ∧ ColsP n h col x H0 ∧ IntsP h goal y H0 ∧ n ≤ 1000 ∧ h ≤ 1000 ∧
  1 ≤ M ∧ (∀ j i, j < n → i < h → (col j i).natAbs ≤ M) ∧ (∀ i, i < h → (goal i).natAbs ≤ M) ∧ M < 2 ^ a ∧ (∀ k, SzT a n h ((SX.tab0 n h col goal).up n h k)) ∧ (h + 1) * (a + 1) ≤ 8000 ∧ 0 < a ∧ a ≤ 1000 ∧
  ∀ H2 r b N, SX.enter n ((SX.tab0 n h col goal).up n h N).c = none → TabSt K C n h goal H0 p dx r b ((SX.tab0 n h col goal).up n h N) H2 → Q .non H2
theorem scInit : FnScope nInit ["self", "columns", "goal"] (defScope sInit) := ⟨rfl, rfl, rfl, by decide +kernel, rfl, by decide +kernel, by decide +kernel⟩
theorem ok_init {f C fR fC fS : Addr} {fd fdR fdC fdS : FuncData} (F : Fun K "__init__" "Tableau.__init__" sInit f fd) (T : TbC K C) (B : Bl2 mg) (Ro : HasM P w K mg base C "first_row" 1 ["self", "columns", "goal", "at"] (spFirstRow K C) fR fdR)
    (Co : HasM P w K mg base C "first_cost" 4 ["self", "place"] (spFirstCost K C) fC fdC) (So : HasM P w K mg base C "solve" 6 ["self"] (spSolve K C) fS fdS) : FnOk P w K mg base CX0 7 f fd ["self", "columns", "goal"] (spInit K C) := by
  refine F.ok scInit (fun vs H Q E h => ?_) (fun cdv A outer s H vs Q E hr h => ?_)
  · obtain ⟨n, h, M, a, col, goal, H0, p, dx, x, y, rfl, _⟩ := h
    rfl
  · obtain ⟨n, h, M, a, col, goal, H0, p, dx, x, y, rfl, e0, p0, hp, hx, hy, hn, hh, hM, bc, bg, bM, bD, bh, a0, a1, k⟩ := h
    refine ⟨_, pss_cons (ps_fld (pv 0) (pe_callB call_len_seq (by rfl) B.len PySem.boot_len (pa_cons (pv 1) pa_nil)) rfl)
      (pss_cons (ps_fld (pv 0) (pe_callB call_len_seq (by rfl) B.len PySem.boot_len (pa_cons (pv 2) pa_nil)) rfl)
      (pss_cons (ps_fld (pv 0) (pe_lc (own := [("own", 3)]) (g := gName 3) (tt := tYes) rfl scInit.nd (pi_list (pv 2)) (blkOk_by (N := nInit) (sc := defScope sInit) (by decide +kernel)) (fun _ _ _ _ _ => pg_name (i := 3) scInit.nd rfl (.inl rfl)) (fun _ _ _ _ _ => pts_nil)
        (fun _ _ _ _ _ => pe_ifExp (pt_cmpR op_ge (pv 3) pe_int (nomark _)) pe_int (pe_un un_neg pe_int))) rfl)
      (pss_cons (ps_fld (pv 0) (pe_lc (own := [("at", 4)]) (g := gName 4) (tt := tYes) rfl scInit.nd (pi_range1 rfl B.range (pa_cons (pe_fld (pv 0) rfl) pa_nil)) (blkOk_by (N := nInit) (sc := defScope sInit) (by decide +kernel)) (fun _ _ _ _ _ => pg_name (i := 4) scInit.nd rfl (.inl rfl)) (fun _ _ _ _ _ => pts_nil)
        (fun _ _ _ _ _ => pe_meth (pv 0) T.cl Ro.mt Ro.ok (hr.mono (by decide)) Ro.bd .nil pass0 (pa_cons (pv 1) (pa_cons (pv 2) (pa_cons (pv 4) pa_nil))))) rfl)
      (pss_cons (ps_fld (pv 0) (pe_lc (own := [("at", 4)]) (g := gName 4) (tt := tYes) rfl scInit.nd (pi_range1 rfl B.range (pa_cons (pe_fld (pv 0) rfl) pa_nil)) (blkOk_by (N := nInit) (sc := defScope sInit) (by decide +kernel)) (fun _ _ _ _ _ => pg_name (i := 4) scInit.nd rfl (.inl rfl)) (fun _ _ _ _ _ => pts_nil)
        (fun _ _ _ _ _ => pe_op op_add (fldK K rfl (pv 0) rfl) (pv 4))) rfl)
      (pss_cons (ps_fld (pv 0) (pe_lc (own := [("place", 5)]) (g := gName 5) (tt := tYes) rfl scInit.nd (pi_range1 rfl B.range (pa_cons (pe_op op_add (pe_op op_add (pe_fld (pv 0) rfl) (pe_fld (pv 0) rfl)) pe_int) pa_nil)) (blkOk_by (N := nInit) (sc := defScope sInit) (by decide +kernel)) (fun _ _ _ _ _ => pg_name (i := 5) scInit.nd rfl (.inl rfl)) (fun _ _ _ _ _ => pts_nil)
        (fun _ _ _ _ _ => pe_meth (pv 0) T.cl Co.mt Co.ok (hr.mono (by decide)) Co.bd .nil pass0 (pa_cons (pv 5) pa_nil))) rfl)
      (pss_one (ps_expr (pe_meth0 (pv 0) T.cl So.mt So.ok hr So.bd .nil pass0)))))))), ?_⟩
    have szA := bD
    have bl : ∀ z : Nat, z ≤ M → z < 2 ^ a := fun z hz => by omega
    refine q_fldT (P := fun v _ => v = .int (n : Int)) T (ev_p (ev_lenP (ep_varM rfl (cols_mono _ _ _ e0 hx) cols_mono))) mono_eq rfl hp rfl fun v H1 e1 hv => ?_
    subst hv
    have ea : Ex H0 (upd H1 p (.ins C dx (flT [.int (n : Int)]))) := Ex.mut (e0.trans e1) p0
    have hpa : (upd H1 p (.ins C dx (flT [.int (n : Int)]))) p = some (.ins C dx (flT [.int (n : Int)])) := upd_same
    show tSeq _ _ _ _ (upd H1 p (.ins C dx (flT [.int (n : Int)])))
    generalize upd H1 p (.ins C dx (flT [.int (n : Int)])) = Ha at ea hpa ⊢
    clear e1
    refine q_fldT (P := fun v _ => v = .int (h : Int)) T (ev_p (ev_lenP (ep_varM rfl (ints_mono _ _ _ ea hy) ints_mono))) mono_eq rfl hpa rfl fun v H1 e1 hv => ?_
    subst hv
    have eb : Ex H0 (upd H1 p (.ins C dx (flT [.int (n : Int), .int (h : Int)]))) := Ex.mut (ea.trans e1) p0
    have hpb : (upd H1 p (.ins C dx (flT [.int (n : Int), .int (h : Int)]))) p = some (.ins C dx (flT [.int (n : Int), .int (h : Int)])) := upd_same
    show tSeq _ _ _ _ (upd H1 p (.ins C dx (flT [.int (n : Int), .int (h : Int)])))
    generalize upd H1 p (.ins C dx (flT [.int (n : Int), .int (h : Int)])) = Hb at eb hpb ⊢
    clear e1
    refine qn_fldT (P := IntsP h (SX.sg goal)) T (en_lc (Pi := fun i v _ => v = .int (SX.sg goal i)) (sr_listP (ep_varM rfl (ints_mono _ _ _ eb hy) ints_mono) fun _ => mono_eq) (by omega) (fun _ => mono_eq) ?_) ints_mono rfl hpb rfl fun sa H1 sn e1 hsg => ?_
    · intro i x H2 hi e2 hX
      subst hX
      refine ⟨_, fun Q q => q, rfl, EvP.d tst_eq (ev_p ?_)⟩
      refine ev_if (b := decide (0 ≤ goal i)) (et_test (ev_op (ev_var rfl) ev_c rv_I0)) (fun hb => ?_) fun hb => ?_
      · have : SX.sg goal i = 1 := if_pos (of_decide_eq_true hb)
        rw [this]
        exact ev_c
      · have : SX.sg goal i = -1 := if_neg (of_decide_eq_false hb)
        rw [this]
        exact ev_un ev_c ru_neg
    have hp1 := e1 _ _ hpb
    have ec : Ex H0 (upd H1 p (.ins C dx (flT [.int (n : Int), .int (h : Int), .ref sa]))) := Ex.mut (eb.trans e1) p0
    have hpc : (upd H1 p (.ins C dx (flT [.int (n : Int), .int (h : Int), .ref sa]))) p = some (.ins C dx (flT [.int (n : Int), .int (h : Int), .ref sa])) := upd_same
    have hsc : IntsP h (SX.sg goal) (.ref sa) (upd H1 p (.ins C dx (flT [.int (n : Int), .int (h : Int), .ref sa]))) := ints_up hsg hp1
    show tSeq _ _ _ _ (upd H1 p (.ins C dx (flT [.int (n : Int), .int (h : Int), .ref sa])))
    generalize upd H1 p (.ins C dx (flT [.int (n : Int), .int (h : Int), .ref sa])) = Hc at ec hpc hsc ⊢
    clear e1 hp1 hsg sn
    refine qn_fldT (P := MatN K h (n + h + 1) (SX.A0 n h col goal)) T (en_lcN (sr_rangeN (ea_cons (ev_fldT T (ev_var rfl) hpc (i := 1) rfl rfl) ea_nil) (by omega)) (by omega) (fun _ => row_mono) (fun _ => row_lst) ?_) matN_mono rfl hpc rfl fun ra H1 rn e1 hM1 => ?_
    · intro i x H2 hi e2 hX
      subst hX
      refine ⟨_, fun Q q => q, rfl, en_meth (Pa := fun vs _ => vs = [x, y, .int (i : Int)]) (ev_var rfl) (e2 _ _ hpc) (by decide +kernel) (ap_of (ea_cons (ev_var rfl) (ea_cons (ev_var rfl) (ea_cons (ev_var rfl) ea_nil)))) fun ws H3 e3 hw Q q => ?_⟩
      subst hw
      exact ⟨p, dx, _, x, y, n, h, i, a, col, goal, .ref sa, rfl, e3 _ _ (e2 _ _ hpc), rfl, ints_mono _ _ _ (e2.trans e3) hsc, cols_mono _ _ _ ((ec.trans e2).trans e3) hx, ints_mono _ _ _ ((ec.trans e2).trans e3) hy, hi, hn, hh, fun j i hj hi => bl _ (bc j i hj hi), fun i hi => bl _ (bg i hi), a0, a1, q⟩
    have hp1 := e1 _ _ hpc
    have sr : V.ref sa ≠ .ref ra := ls_old hsc rn
    have hs1 := ints_mono _ _ _ e1 hsc
    have ed : Ex H0 (upd H1 p (.ins C dx (flT [.int (n : Int), .int (h : Int), .ref sa, .ref ra]))) := Ex.mut (ec.trans e1) p0
    have hpd : (upd H1 p (.ins C dx (flT [.int (n : Int), .int (h : Int), .ref sa, .ref ra]))) p = some (.ins C dx (flT [.int (n : Int), .int (h : Int), .ref sa, .ref ra])) := upd_same
    have hsd : IntsP h (SX.sg goal) (.ref sa) (upd H1 p (.ins C dx (flT [.int (n : Int), .int (h : Int), .ref sa, .ref ra]))) := ints_up hs1 hp1
    have hMd : MatN K h (n + h + 1) (SX.A0 n h col goal) (.ref ra) (upd H1 p (.ins C dx (flT [.int (n : Int), .int (h : Int), .ref sa, .ref ra]))) := matN_up hM1 hp1
    have r0 : H0 ra = none := fresh_back ec rn
    show tSeq _ _ _ _ (upd H1 p (.ins C dx (flT [.int (n : Int), .int (h : Int), .ref sa, .ref ra])))
    generalize upd H1 p (.ins C dx (flT [.int (n : Int), .int (h : Int), .ref sa, .ref ra])) = Hd at ed hpd hsd hMd ⊢
    clear e1 hp1 hs1 hM1 rn
    refine qn_fldT (P := IntsP h fun i => ((n + i : Nat) : Int)) T (en_lc (Pi := fun i v _ => v = .int ((n + i : Nat) : Int)) (sr_rangeN (ea_cons (ev_fldT T (ev_var rfl) hpd (i := 1) rfl rfl) ea_nil) (by omega)) (by omega) (fun _ => mono_eq) ?_) ints_mono rfl hpd rfl fun ba H1 bn e1 hB1 => ?_
    · intro i x H2 hi e2 hX
      subst hX
      refine ⟨_, fun Q q => q, rfl, EvP.d tst_eq (ev_p ?_)⟩
      have : ((n + i : Nat) : Int) = (n : Int) + (i : Int) := by omega
      rw [this]
      exact ev_op (ev_fldT T (ev_var rfl) (e2 _ _ hpd) (i := 0) rfl rfl) (ev_var rfl) rv_I0
    have hp1 := e1 _ _ hpd
    have sb : V.ref sa ≠ .ref ba := ls_old hsd bn
    have hs1 := ints_mono _ _ _ e1 hsd
    have hM1 := matN_mono _ _ _ e1 hMd
    have mb : ∀ xs, Hd ra = some (.lst xs) → ∀ (i : Nat) (x : V), xs[i]? = some x → x ≠ V.ref ba := fun xs hxs i x q => by
      obtain ⟨r', xs', e, h1, _, h3⟩ := hMd
      cases e
      rw [hxs] at h1
      cases h1
      exact ls_old (h3 i x q).1 bn
    have rb : ra ≠ ba := fun z => ls_old (matN_p hMd) bn (by rw [z])
    have ee : Ex H0 (upd H1 p (.ins C dx (flT [.int (n : Int), .int (h : Int), .ref sa, .ref ra, .ref ba]))) := Ex.mut (ed.trans e1) p0
    have hpe : (upd H1 p (.ins C dx (flT [.int (n : Int), .int (h : Int), .ref sa, .ref ra, .ref ba]))) p = some (.ins C dx (flT [.int (n : Int), .int (h : Int), .ref sa, .ref ra, .ref ba])) := upd_same
    have hse : IntsP h (SX.sg goal) (.ref sa) (upd H1 p (.ins C dx (flT [.int (n : Int), .int (h : Int), .ref sa, .ref ra, .ref ba]))) := ints_up hs1 hp1
    have hMe : LsP h (fun i => RowQ K [ra, ba] (n + h + 1) (SX.A0 n h col goal i)) (.ref ra) (upd H1 p (.ins C dx (flT [.int (n : Int), .int (h : Int), .ref sa, .ref ra, .ref ba]))) := by
      obtain ⟨r', xs', e, h1, h2, h3⟩ := hMd
      cases e
      have ne : ra ≠ p := fun z => by
        subst z
        rw [hpd] at h1
        cases h1
      refine ⟨ra, xs', rfl, by rw [upd_ne ne]; exact e1 _ _ h1, h2, fun i x q => ⟨row_up (row_mono _ _ _ e1 (h3 i x q).1) hp1, fun D hD => ?_⟩⟩
      simp at hD
      rcases hD with rfl | rfl
      · exact (h3 i x q).2
      · exact mb xs' h1 i x q
    have hBe : IntsP h (fun i => ((n + i : Nat) : Int)) (.ref ba) (upd H1 p (.ins C dx (flT [.int (n : Int), .int (h : Int), .ref sa, .ref ra, .ref ba]))) := ints_up hB1 hp1
    have b0 : H0 ba = none := fresh_back ed bn
    show tSeq _ _ _ _ (upd H1 p (.ins C dx (flT [.int (n : Int), .int (h : Int), .ref sa, .ref ra, .ref ba])))
    generalize upd H1 p (.ins C dx (flT [.int (n : Int), .int (h : Int), .ref sa, .ref ra, .ref ba])) = He at ee hpe hse hMe hBe ⊢
    clear e1 hp1 hs1 hM1 bn hMd hB1 mb
    refine qn_fldT (P := RowP K (n + h + 1) (SX.c0 n h col goal)) T (en_lc (Pi := fun j => Fr K (SX.c0 n h col goal j)) (sr_rangeN (m := n + h + 1) (ea_cons (ev_is (ev_op (ev_op (ev_fldT T (ev_var rfl) hpe (i := 0) rfl rfl) (ev_fldT T (ev_var rfl) hpe (i := 1) rfl rfl) rv_I0) ev_c rv_I0) (by congr 1)) ea_nil) (by omega)) (by omega) (fun _ => Fr.mono) ?_) row_mono rfl hpe rfl fun ca H1 cn e1 hC1 => ?_
    · intro j x H2 hj e2 hX
      subst hX
      refine ⟨_, fun Q q => q, rfl, EvP.d tst_fr (ep_meth (Pa := fun vs _ => vs = [.int (j : Int)]) (ev_var rfl) (e2 _ _ hpe) (by decide +kernel) (ap_of (ea_cons (ev_var rfl) ea_nil)) fun ws H3 e3 hw Q q => ?_)⟩
      subst hw
      exact ⟨p, dx, _, n, h, j, a, SX.A0 n h col goal, .ref ra, rfl, e3 _ _ (e2 _ _ hpe), rfl, rfl, rfl, mat_mono _ _ _ (e2.trans e3) (ls_congr (fun _ _ _ _ q => q.1) hMe), hj, hn, hh, (szA 0).1, a0, bh, q⟩
    have hp1 := e1 _ _ hpe
    have tt : TabSt K C n h goal H0 p dx ra ba (SX.tab0 n h col goal) (upd H1 p (.ins C dx (flT [.int (n : Int), .int (h : Int), .ref sa, .ref ra, .ref ba, .ref ca]))) := by
      have rp : ra ≠ p := fun z => by
        subst z
        obtain ⟨r', xs', e, h1, _⟩ := hMe
        cases e
        rw [hpe] at h1
        cases h1
      refine ⟨Ex.mut (ee.trans e1) p0, p0, r0, b0, rb, ⟨.ref sa, .ref ca, upd_same, ⟨ints_up (ints_mono _ _ _ e1 hse) hp1, sr, sb⟩, row_up hC1 hp1, fun D hD => ?_⟩, ?_, ints_up (ints_mono _ _ _ e1 hBe) hp1⟩
      · simp at hD
        rcases hD with rfl | rfl
        · exact fun z => ls_old hMe cn z.symm
        · exact fun z => ls_old hBe cn z.symm
      · obtain ⟨r', xs', e, h1, h2, h3⟩ := hMe
        cases e
        exact ⟨ra, xs', rfl, by rw [upd_ne rp]; exact e1 _ _ h1, h2, fun i x q => ⟨row_up (row_mono _ _ _ e1 (h3 i x q).1) hp1, (h3 i x q).2⟩⟩
    have hpf : (upd H1 p (.ins C dx (flT [.int (n : Int), .int (h : Int), .ref sa, .ref ra, .ref ba, .ref ca]))) p = some (.ins C dx (flT [.int (n : Int), .int (h : Int), .ref sa, .ref ra, .ref ba, .ref ca])) := upd_same
    show tDrop _ _ _ (upd H1 p (.ins C dx (flT [.int (n : Int), .int (h : Int), .ref sa, .ref ra, .ref ba, .ref ca])))
    generalize upd H1 p (.ins C dx (flT [.int (n : Int), .int (h : Int), .ref sa, .ref ra, .ref ba, .ref ca])) = Hf at tt hpf ⊢
    exact ⟨_, rfl, p, dx, _, rfl, hpf, flT_no (by decide +kernel), n, h, goal, H0, p, dx, ra, ba, _, _, a, rfl, tt, SX.tab0_inv, hn, hh, szA, a0, a1, fun H2 N hN t2 => k H2 ra ba N hN t2⟩
end
end EW
set_option Elab.async false
set_option linter.all false
set_option maxRecDepth 100000
set_option maxHeartbeats 4000000
set_option exponentiation.threshold 10000
namespace EW
open PySem PySem.Spec PyProof.Rows L2 Evl
abbrev sPartsFor : Stmt := top 20
abbrev nPartsFor : List Str := ["columns", "goal", "tableau"]
/-- what parts_for tells: parts that come to the goal; or prices that bar it -/
structure Yes (n h a : Nat) (col : Nat → Nat → Int) (goal : Nat → Int) (f : Nat → Rat) : Prop where
  sz : ∀ j, j < n → Sz a (f j)
  nn : ∀ j, 0 ≤ f j
  come : ∀ k, k < h → SX.sm n (fun j => (col j k : Rat) * f j) = (goal k : Rat)
structure No (n h a : Nat) (col : Nat → Nat → Int) (goal : Nat → Int) (f : Nat → Rat) : Prop where
  sz : ∀ k, k < h → Sz (a + 4) (f k)
  bar : ∀ j, j < n → SX.sm h (fun k => f k * (col j k : Rat)) ≤ 0
  pos : 0 < SX.sm h (fun k => f k * (goal k : Rat))
  cd : Cd (a + 1) h f
def PartsR (K : PySem.W.Frag) (n h a : Nat) (col : Nat → Nat → Int) (goal : Nat → Int) : V → Hp → Prop := fun v H => ∃ T q f, v = .ref T ∧ ((SqT K H T [.str "parts", q] ∧ RowP K n f q H ∧ Yes n h a col goal f) ∨ (SqT K H T [.str "prices", q] ∧ RowP K h f q H ∧ No n h a col goal f))
section
variable {K : PySem.W.Frag} {σ : L2.St} {H : Hp} {te : TE} {P : V → Hp → Prop}
theorem q_make {ta : TA} {vs dvs : List V} {i : Nat} {C : Addr} {sp : Sp} {E : XK} {tz : TS} {D : Ends} (h : EvA ta σ H vs) (k : ∀ H1 p dx, Ex H H1 → H1 p = none → H1 dx = none → dx ≠ p → sp (.ref p :: (vs ++ dvs)) (upd (upd H1 dx (.own p)) p (.ins C dx [])) (fun v H2 => v = .non ∧ tz D (σ.set i (some (.ref p))) H2) E) :
    tSeq (tAsg (tMake C sp dvs E ta) (gName i)) tz D σ H := h H (Ex.refl H) _ fun H1 e1 p dx a b c => k H1 p dx e1 a b c
/-- (a constant, e) -/
theorem eu2 {c : V} (h : EvP te σ H P) (m : Mono P) : EvP (tTup (tCons (tC c) (tCons te tNil))) σ H (fun v H => ∃ T q, v = .ref T ∧ SqT K H T [c, q] ∧ P q H) := fun H1 e Q k =>
  h H1 e _ fun q H2 e2 pq => ⟨by show 2 ≤ sizeLine; decide, fun p hp => k _ _ (e2.trans (Ex.new hp)) ⟨p, q, rfl, st_of upd_same, m _ _ _ (Ex.new hp) pq⟩⟩
end
section
variable {P : Program} {w : World} {K : PySem.W.Frag} {mg : Str → Option Value} {base : Heap}
structure Bds (n h M a : Nat) (col : Nat → Nat → Int) (goal : Nat → Int) : Prop where
  n1 : n ≤ 1000
  h1 : h ≤ 1000
  M0 : 1 ≤ M
  cM : ∀ j i, j < n → i < h → (col j i).natAbs ≤ M
  gM : ∀ i, i < h → (goal i).natAbs ≤ M
  Ma : M < 2 ^ a
  Da : ∀ k, SzT a n h ((SX.tab0 n h col goal).up n h k)
  Dc : ∀ k, Cd (a + 1) h (SX.prices n goal ((SX.tab0 n h col goal).up n h k).c)
  ha : (h + 1) * (a + 1) ≤ 8000
  a0 : 0 < a
  a1 : a ≤ 1000
def spPartsFor (K : PySem.W.Frag) : Sp := fun vs H Q _ => ∃ (n h M a : Nat) (col : Nat → Nat → Int) (goal : Nat → Int) (x y : V), vs = [x, y] ∧ ColsP n h col x H ∧ IntsP h goal y H ∧ Bds n h M a col goal ∧ RetP (PartsR K n h a col goal) H Q
theorem scPartsFor : FnScope nPartsFor ["columns", "goal"] (defScope sPartsFor) := ⟨rfl, rfl, rfl, by decide +kernel, rfl, by decide +kernel, by decide +kernel⟩
theorem ok_partsFor {f C fI fS fP fR : Addr} {fd fdI fdS fdP fdR : FuncData} (F : Fun K "parts_for" "parts_for" sPartsFor f fd) (T : TbC K C) (M : Mk K C fI) (mgC : mg "Tableau" = some (.ref C)) (bI : Binds K fdI ["self", "columns", "goal"] []) (GI : FnOk P w K mg base CX0 7 fI fdI ["self", "columns", "goal"] (spInit K C))
    (So : HasM P w K mg base C "is_solved" 1 ["self"] (spSolved K C) fS fdS) (Pa : HasM P w K mg base C "parts" 1 ["self"] (spParts K C) fP fdP) (Pr : HasM P w K mg base C "prices" 4 ["self"] (spPrices K C) fR fdR) : FnOk P w K mg base CX0 9 f fd ["columns", "goal"] (spPartsFor K) := by
  refine F.ok scPartsFor (fun vs H Q E h => ?_) (fun cdv A outer s H vs Q E hr h => ?_)
  · obtain ⟨n, h, M, a, col, goal, x, y, rfl, _⟩ := h
    rfl
  · obtain ⟨n, h, N, a, col, goal, x, y, rfl, hx, hy, Bd, k⟩ := h
    refine ⟨_, pss_cons (ps_set (i := 2) scPartsFor.nd rfl (.inl rfl) (pe_make M GI hr rfl mgC bI .nil pass0 (pa_cons (pv 0) (pa_cons (pv 1) pa_nil))))
      (pss_one (ps_ret (pe_ifExp (pt_val (pe_meth0 (pv 2) T.cl So.mt So.ok (hr.mono (by decide)) So.bd .nil pass0)) (pe_tup (pa_cons pe_str (pa_cons (pe_meth0 (pv 2) T.cl Pa.mt Pa.ok (hr.mono (by decide)) Pa.bd .nil pass0) pa_nil)))
        (pe_tup (pa_cons pe_str (pa_cons (pe_meth0 (pv 2) T.cl Pr.mt Pr.ok (hr.mono (by decide)) Pr.bd .nil pass0) pa_nil)))))), ?_⟩
    refine q_make (ea_cons (ev_var rfl) (ea_cons (ev_var rfl) ea_nil)) fun H1 p dx e1 np ndx nex => ?_
    have ex0 : Ex H (upd (upd H1 dx (.own p)) p (.ins C dx [])) := Ex.mut (Ex.mut e1 (fresh_back e1 ndx)) (fresh_back e1 np)
    refine ⟨n, h, N, a, col, goal, H, p, dx, x, y, rfl, ex0, fresh_back e1 np, upd_same, hx, hy, Bd.n1, Bd.h1, Bd.M0, Bd.cM, Bd.gM, Bd.Ma, Bd.Da, Bd.ha, Bd.a0, Bd.a1, fun H2 r b k2 hk t => ⟨rfl, ?_⟩⟩
    generalize hS : (SX.tab0 n h col goal).up n h k2 = S at hk t
    have I : SX.Inv n h (SX.A0 n h col goal) S.T S.c S.B := by
      rw [← hS]
      exact SX.Tab.up_inv (SX.tab0_inv (n := n) (h := h) (col := col) (goal := goal)) k2
    have sz : SzT a n h S := by
      rw [← hS]
      exact Bd.Da k2
    have cdc : Cd (a + 1) h (SX.prices n goal S.c) := by
      rw [← hS]
      exact Bd.Dc k2
    obtain ⟨s1, ca, h1, _⟩ := id t.ob
    refine sp_ret (P := PartsR K n h a col goal) (ep_if (b := decide (S.c (n + h) = 0)) (et_B (p_ev (ep_meth (ev_var rfl) h1 (by decide +kernel) ap_nil fun ws H3 e3 hw Q q => ?_))) (fun hb => ?_) fun hb => ?_) (k.go t.ex)
    · subst hw
      exact ⟨n, h, goal, H, p, dx, r, b, S, rfl, t.mono e3, fun H4 e4 => q _ _ e4 rfl⟩
    · have z : S.c (n + h) = 0 := of_decide_eq_true hb
      refine ep_w (eu2 (en_meth (P := RowP K n (SX.parts n h S.T S.B)) (ev_var rfl) h1 (by decide +kernel) ap_nil fun ws H3 e3 hw Q q => ?_).p row_mono) fun v H3 e3 ⟨T', q, hv, hT, hq⟩ => ⟨T', q, _, hv, .inl ⟨hT, hq, ?_⟩⟩
      · subst hw
        exact ⟨n, h, goal, H, p, dx, r, b, S, rfl, t.mono e3, Bd.n1, Bd.h1, fun i j hi hj => I.inj hi hj, q⟩
      · refine ⟨fun j hj => ?_, SX.parts_nonneg I, SX.parts_come I z⟩
        by_cases q : ∃ i, i < h ∧ S.B i = j
        · obtain ⟨i, hi, rfl⟩ := q
          have : SX.parts n h S.T S.B (S.B i) = S.T i (n + h) := by
            unfold SX.parts
            rw [SX.sm_one (k := i) hi fun i' hi' ne => ?_]
            · simp
            · have : ¬ S.B i' = S.B i := fun w => ne (I.inj hi' hi w)
              simp [this]
          rw [this]
          exact sz.1 i _ hi (by omega)
        · have : SX.parts n h S.T S.B j = 0 := SX.sm_zero fun i hi => by
            have : ¬ S.B i = j := fun w => q ⟨i, hi, w⟩
            simp [this]
          rw [this]
          exact sz0 Bd.a0
    · have z : S.c (n + h) ≠ 0 := of_decide_eq_false hb
      refine ep_w (eu2 (en_meth (P := RowP K h (SX.prices n goal S.c)) (ev_var rfl) h1 (by decide +kernel) ap_nil fun ws H3 e3 hw Q q => ?_).p row_mono) fun v H3 e3 ⟨T', q, hv, hT, hq⟩ => ⟨T', q, _, hv, .inr ⟨hT, hq, ?_⟩⟩
      · subst hw
        exact ⟨n, h, goal, H, p, dx, r, b, S, a, rfl, t.mono e3, Bd.n1, Bd.h1, sz, Bd.a0, by have := Bd.a1; omega, q⟩
      · refine ⟨fun k hk => ?_, SX.prices_bar I (SX.enter_none hk), SX.prices_goal I z, cdc⟩
        exact ((sz_sg (goal := goal) (i := k)).mul ((sz1 (a := 2) (by decide)).sub (sz.2 (n + k) (by omega)))).mono (by omega)
end
end EW
set_option Elab.async false
set_option linter.all false
set_option maxRecDepth 100000
set_option maxHeartbeats 4000000
/-! rules that the layer has not: zip of a tuple with a list, enumerate over a tuple -/
namespace EW
open PySem PySem.Spec PyProof.Rows L2
/-! ### zip(tuple, list) -/
def ItM (K : PySem.W.Frag) (a b : Addr) : It where
  go := fun i H => ∃ (xs ys : List V) (x y : V), SqT K H a xs ∧ SqL K H b ys ∧ xs[i]? = some x ∧ ys[i]? = some y
  yld := fun i H v H' => ∃ (T : Addr) (x y : V), v = .ref T ∧ H T = none ∧ H' = upd H T (.tup [x, y]) ∧ (∀ xs, SqT K H a xs → xs[i]? = some x) ∧ (∀ ys, SqL K H b ys → ys[i]? = some y)
  stop := fun i H => ∃ (xs ys : List V), SqT K H a xs ∧ SqL K H b ys ∧ i = min xs.length ys.length
theorem walkM {K : PySem.W.Frag} {a b : Addr} {xs ys : List V} {n : Nat} (hn : n = min xs.length ys.length) : Walk (ItM K a b) n (fun H => SqT K H a xs ∧ SqL K H b ys) (YPair (fun i => xs[i]?) (fun i => ys[i]?)) where
  goes := fun i H hi q => by
    have u1 : i < xs.length := by omega
    have u2 : i < ys.length := by omega
    exact ⟨xs, ys, xs[i], ys[i], q.1, q.2, List.getElem?_eq_getElem u1, List.getElem?_eq_getElem u2⟩
  stops := fun H q => ⟨xs, ys, q.1, q.2, hn⟩
  yields := fun i H v H' _ q ⟨T, x, y, e1, e2, e3, e4, e5⟩ => ⟨T, x, y, e1, e2, e3, e4 xs q.1, e5 ys q.2⟩
theorem turnM {P : Program} {w : World} {K : PySem.W.Frag} {elts : List Expr} {kk : Nat} {tpos : Pos} {a b z TI TO j1 j2 : Addr} (D : ZipSep2 z TI TO j1 j2 [j1, a] [j2, b]) (n1 : a ≠ j1) (n2 : b ≠ j2) :
    Turn P w K (.Tuple elts kk tpos) (ItM K a b) [z, TI, TO, j1, j2] z (fun i h => IsZip h z TI TO .none ∧ IsTupOf2 h TI (.ref j1) (.ref j2) ∧ (∃ x y, IsTupOf2 h TO x y) ∧ h.IsTupleIter j1 a i ∧ h.IsListIter j2 b i) where
  mem := by simp
  obj := fun i h ⟨hz, hI, ⟨x, y, hO⟩, ⟨o1, g1, _, d1⟩, ⟨o2, g2, _, d2⟩⟩ c hc => by
    have hc : c = z ∨ c = TI ∨ c = TO ∨ c = j1 ∨ c = j2 := by simpa using hc
    rcases hc with rfl | rfl | rfl | rfl | rfl
    · exact ⟨_, hz, fun v k => by cases k⟩
    · exact ⟨_, hI, fun v k => by cases k⟩
    · exact ⟨_, hO, fun v k => by cases k⟩
    · exact ⟨o1, g1, fun v k => by rw [d1] at k; cases k⟩
    · exact ⟨o2, g2, fun v k => by rw [d2] at k; cases k⟩
  keep := fun i h h' ⟨hz, hI, ⟨x, y, hO⟩, g1, g2⟩ kp =>
    ⟨kp z (by simp) _ hz, kp TI (by simp) _ hI, ⟨x, y, kp TO (by simp) _ hO⟩, g1.at fun o q => kp j1 (by simp) o q, g2.at fun o q => kp j2 (by simp) o q⟩
  item := fun X hP hW hK hc i pins s σ H E I hf ⟨hz, hI, ⟨x0, y0, hO⟩, g1, g2⟩ ⟨xs, ys, x, y, qx, qy, hx, hy⟩ => by
    subst hP hW hK
    obtain ⟨us, rv, p, _⟩ := I.tuple qx
    obtain ⟨ws, rw', p2, _⟩ := I.list qy
    obtain ⟨u, hu, ru⟩ := rv.get hx
    obtain ⟨v, hv, rv2⟩ := rw'.get hy
    have zl : z < s.heap.objs.size := Heap.lt_size hz
    have hd := I.ok.hd hc
    have b1 : i < us.toArray.size := by have := (List.getElem?_eq_some_iff.mp hu).1; simpa using this
    have b2 : i < ws.toArray.size := by have := (List.getElem?_eq_some_iff.mp hv).1; simpa using this
    refine wpAny_pyNext_zipD2_item D (Draws.tuple (A := X.A.in1) hd j1 a n1 us.toArray) (Draws.list (A := X.A.in1) hd j2 b n2 ws.toArray) hz hI hO ⟨g1, p⟩ ⟨g2, p2.isList⟩ b1 b2 fun x1 x2 h' tk e1 e2 z' O' t1 t2 hT _ hk => ?_
    have e1 : x1 = u := by
      have e1 : us.toArray[i]? = some x1 := e1
      have : us[i]? = some x1 := by simpa using e1
      rw [hu] at this
      exact (Option.some.inj this).symm
    have e2 : x2 = v := by
      have e2 : ws.toArray[i]? = some x2 := e2
      have : ws[i]? = some x2 := by simpa using e2
      rw [hv] at this
      exact (Option.some.inj this).symm
    subst e1 e2
    refine ⟨_, rfl, wpAny_letOwnedTupleGo_zip (s := { s with heap := h', toks := tk }) z' fun h2 z2 sb => ?_⟩
    have T2 : h2.get? s.heap.objs.size = some { cls := .type "tuple", data := .seq #[x1, x2] } := (sb.2 _ (Nat.ne_of_gt zl)).trans hT
    have nw : ObjOk X.prog X.w (upd H s.heap.objs.size (.tup [x, y])) h2 s.heap.objs.size (.tup [x, y]) := ⟨(by decide : 2 ≤ sizeLine), [x1, x2], .cons ru (.cons rv2 .nil), ⟨_, T2, rfl, _, rfl⟩⟩
    have I1 : Inv X pins σ (upd H s.heap.objs.size (.tup [x, y])) { s with heap := h2, toks := tk } := I.turnedNew (t' := tk) (ch := [z, TI, TO, j1, j2])
      (fun c o hb q => (sb.2 c fun k => hb (by simp [k])).trans (hk c o (fun k => hb (by simp [k])) (fun k => hb (by simp [k])) (fun k => hb (by simp [k])) (fun k => hb (by simp [k])) q)) hf (Nat.le_refl _) nw
    have f1 : j1 ≠ z := fun k => D.zf1 (by simp [k])
    have f2 : j2 ≠ z := fun k => D.zf2 (by simp [k])
    refine ⟨.ref s.heap.objs.size, _, I1, rfl, ⟨_, x, y, rfl, I.hok.fresh (Nat.le_refl _), rfl, fun l q => by rw [I.tuple_inj q qx]; exact hx, fun l q => by rw [I.list_inj q qy]; exact hy⟩,
      ⟨z2, (sb.2 _ D.TIz).trans (hk _ _ D.TIz D.TITO D.TIi1 D.TIi2 hI), ⟨x1, x2, (sb.2 _ D.TOz).trans O'⟩, t1.1.at fun o q => (sb.2 _ f1).trans q, t2.1.at fun o q => (sb.2 _ f2).trans q⟩, fun c hm => ?_⟩
    have lt : c < s.heap.objs.size := by
      have hm : c = z ∨ c = TI ∨ c = TO ∨ c = j1 ∨ c = j2 := by simpa using hm
      obtain ⟨_, r1, _⟩ := g1
      obtain ⟨_, r2, _⟩ := g2
      rcases hm with rfl | rfl | rfl | rfl | rfl
      · exact zl
      · exact Heap.lt_size hI
      · exact Heap.lt_size hO
      · exact Heap.lt_size r1
      · exact Heap.lt_size r2
    rw [upd_ne (Nat.ne_of_lt lt)]
    exact (hf c hm).1
  done := fun X hP hW hK hc i pins s σ H E I hf ⟨hz, hI, ⟨x0, y0, hO⟩, g1, g2⟩ ⟨xs, ys, qx, qy, hend⟩ => by
    subst hP hW hK
    obtain ⟨us, rv, p, _⟩ := I.tuple qx
    obtain ⟨ws, rw', p2, _⟩ := I.list qy
    have hd := I.ok.hd hc
    have l1 := rv.length
    have l2 := rw'.length
    have s1 : us.toArray.size = xs.length := by simp [l1]
    have s2 : ws.toArray.size = ys.length := by simp [l2]
    refine wpAny_pyNext_zipD2_end D (Draws.tuple (A := X.A.in1) hd j1 a n1 us.toArray) (Draws.list (A := X.A.in1) hd j2 b n2 ws.toArray) hz hI hO ⟨g1, p⟩ ⟨g2, p2.isList⟩ (by omega) (by omega) (by omega) fun h' tk hk => ?_
    exact ⟨rfl, I.turnedL (t' := tk) (ch := [z, TI, TO, j1, j2]) (fun c o hb q => hk c o (fun k => hb (by simp [k])) (fun k => hb (by simp [k])) (fun k => hb (by simp [k])) (fun k => hb (by simp [k])) q) hf⟩
  self := fun A i s Q E st h => wpAny_pyIter_zip st.1 h
def iZipM (K : PySem.W.Frag) (ta : TA) : TI := fun σ H R => ta σ H fun vs H1 => ∃ a b xs ys, vs = [.ref a, .ref b] ∧ SqT K H1 a xs ∧ SqL K H1 b ys ∧ R (ItM K a b) H1
theorem pi_zipM {X : Cx} {e e2 : Expr} {ta : TA} {p pos tpos : Pos} {elts : List Expr} {kk : Nat} (hg : Gl X "zip") (hm : X.mg "zip" = none) (ha : PA X [e, e2] ta) (hs : starEach [e, e2] X.env = (false, eval e X.env) :: starEach [e2] X.env := by rfl) (hpl : (backTo pos (starEach [e2] X.env)).any (·.1) = false := by rfl) :
    PI X (.Tuple elts kk tpos) (.Call (.Name "zip" p) [e, e2] [] pos) (iZipM X.K ta) where
  run := fun pins s σ H R I h => by
    refine Call_ (ld_blt I hg hm PyProof.Rows.boot_zip (PyProof.Rows.callWith_type1 (thn (ha.run pos pins s σ H _ I h) fun us s1 ⟨vs, H1, I1, r1, a, b, xs, ys, ev, qx, qy, q⟩ => ?_) hs hpl))
    subst ev
    cases r1 with
    | cons r rr => cases rr with
      | cons r2 rr =>
        cases rr
        cases r
        cases r2
        obtain ⟨us, rv, p1, _⟩ := I1.tuple qx
        obtain ⟨ws, rw', p2, _⟩ := I1.list qy
        have p1' : s1.heap.IsTuple a us.toArray := p1
        have la : a < s1.heap.objs.size := by
          obtain ⟨o1, ho, _⟩ := p1'
          exact Heap.lt_size ho
        have lb : b < s1.heap.objs.size := p2.lt
        refine zip_begins2 (begins_tuple a us.toArray) (begins_list b ws.toArray) p1' p2.isList fun h' hz hI hO g1 g2 _ hk => wpAny_pyIter_zip hz ?_
        have D : ZipSep2 (s1.heap.objs.size + 4) (s1.heap.objs.size + 2) (s1.heap.objs.size + 3) s1.heap.objs.size (s1.heap.objs.size + 1) [s1.heap.objs.size, a] [s1.heap.objs.size + 1, b] := zip_sep2 (fp1 := [a]) (fp2 := [b]) (by simpa using la) (by simpa using lb)
        refine ⟨s1.heap.objs.size + 4, [s1.heap.objs.size + 4, s1.heap.objs.size + 2, s1.heap.objs.size + 3, s1.heap.objs.size, s1.heap.objs.size + 1], _, _, H1, rfl, I1.kept (t' := s1.toks) hk, turnM D (Nat.ne_of_lt la) (Nat.ne_of_lt (Nat.lt_succ_of_lt lb)),
          ⟨hz, hI, ⟨_, _, hO⟩, ⟨_, g1, rfl, rfl⟩, ⟨_, g2, rfl, rfl⟩⟩, fun c hm => ?_, q⟩
        have le : s1.heap.objs.size ≤ c := by
          have hm : c = s1.heap.objs.size + 4 ∨ c = s1.heap.objs.size + 2 ∨ c = s1.heap.objs.size + 3 ∨ c = s1.heap.objs.size ∨ c = s1.heap.objs.size + 1 := by simpa using hm
          rcases hm with rfl | rfl | rfl | rfl | rfl
          all_goals first | exact Nat.le_refl _ | exact Nat.le_add_right _ _
        exact I1.fpOk le (I1.hok.fresh le)
/-! ### enumerate(tuple) -/
def ItE (K : PySem.W.Frag) (a : Addr) : It where
  go := fun i H => ∃ (xs : List V) (x : V), SqT K H a xs ∧ xs[i]? = some x
  yld := fun i H v H' => ∃ (T : Addr) (x : V), v = .ref T ∧ H T = none ∧ H' = upd H T (.tup [.int (i : Nat), x]) ∧ ∀ xs, SqT K H a xs → xs[i]? = some x
  stop := fun i H => ∃ xs : List V, SqT K H a xs ∧ i = xs.length
theorem walkE {K : PySem.W.Frag} {a : Addr} {xs : List V} : Walk (ItE K a) xs.length (fun H => SqT K H a xs) (YPair (fun i => some (.int (i : Nat))) (fun i => xs[i]?)) where
  goes := fun i H hi q => ⟨xs, xs[i], q, List.getElem?_eq_getElem hi⟩
  stops := fun H q => ⟨xs, q, rfl⟩
  yields := fun i H v H' _ q ⟨T, x, e1, e2, e3, e4⟩ => ⟨T, .int (i : Nat), x, e1, e2, e3, rfl, e4 xs q⟩
theorem turnE {P : Program} {w : World} {K : PySem.W.Frag} {elts : List Expr} {kk : Nat} {tpos : Pos} {a e it : Addr} (n0 : e ≠ it) (n1 : a ≠ it) (n2 : e ≠ a) :
    Turn P w K (.Tuple elts kk tpos) (ItE K a) [e, it] e (fun i h => (∃ old, IsEnum h e it ((i : Nat) : Int) old) ∧ h.IsTupleIter it a i) where
  mem := by simp
  obj := fun i h ⟨⟨old, he⟩, ⟨o, g, _, d⟩⟩ c hc => by
    have hc : c = e ∨ c = it := by simpa using hc
    rcases hc with rfl | rfl
    · exact ⟨_, he, fun v k => by cases k⟩
    · exact ⟨o, g, fun v k => by rw [d] at k; cases k⟩
  keep := fun i h h' ⟨⟨old, he⟩, g⟩ kp => ⟨⟨old, kp e (by simp) _ he⟩, g.at fun o q => kp it (by simp) o q⟩
  item := fun X hP hW hK hc i pins s σ H E I hf ⟨⟨old, he⟩, g⟩ ⟨xs, x, qx, hx⟩ => by
    subst hP hW hK
    obtain ⟨us, rv, p, _⟩ := I.tuple qx
    obtain ⟨u, hu, ru⟩ := rv.get hx
    have hd := I.ok.hd hc
    have el : e < s.heap.objs.size := Heap.lt_size he
    have il : it < s.heap.objs.size := by
      obtain ⟨_, r, _⟩ := g
      exact Heap.lt_size r
    have b1 : i < us.toArray.size := by have := (List.getElem?_eq_some_iff.mp hu).1; simpa using this
    refine wpAny_pyNext_enum_itemD (Draws.tuple (A := X.A.in1) hd it a n1 us.toArray) he ⟨g, p⟩ b1 n0 (by simp [n0, n2]) fun x1 h' tk e1 ho t1 hT _ hk => ?_
    have e1 : x1 = u := by
      have e1 : us.toArray[i]? = some x1 := e1
      have : us[i]? = some x1 := by simpa using e1
      rw [hu] at this
      exact (Option.some.inj this).symm
    subst e1
    refine ⟨_, rfl, wpAny_letOwnedTupleGo_enum (s := { s with heap := h', toks := tk + 1 }) ho fun h2 he2 sb => ?_⟩
    have T2 : h2.get? s.heap.objs.size = some { cls := .type "tuple", data := .seq #[.int i tk, x1] } := (sb.2 _ (Nat.ne_of_gt el)).trans hT
    have nw : ObjOk X.prog X.w (upd H s.heap.objs.size (.tup [.int (i : Nat), x])) h2 s.heap.objs.size (.tup [.int (i : Nat), x]) := ⟨(by decide : 2 ≤ sizeLine), [.int i tk, x1], .cons ⟨_, rfl⟩ (.cons ru .nil), ⟨_, T2, rfl, _, rfl⟩⟩
    have I1 : Inv X pins σ (upd H s.heap.objs.size (.tup [.int (i : Nat), x])) { s with heap := h2, toks := tk + 1 } :=
      I.turnedNew (t' := tk + 1) (ch := [e, it]) (fun c o hb q => (sb.2 c fun k => hb (by simp [k])).trans (hk c o (fun k => hb (by simp [k])) (fun k => hb (by simp [k])) q)) hf (Nat.le_refl _) nw
    refine ⟨.ref s.heap.objs.size, _, I1, rfl, ⟨_, x, rfl, I.hok.fresh (Nat.le_refl _), rfl, fun l q => by rw [I.tuple_inj q qx]; exact hx⟩, ⟨⟨x1, ?_⟩, t1.1.at fun o q => (sb.2 it n0.symm).trans q⟩, fun c hm => ?_⟩
    · have : ((i + 1 : Nat) : Int) = (i : Int) + 1 := by omega
      rw [this]
      exact he2
    · have lt : c < s.heap.objs.size := by
        have hm : c = e ∨ c = it := by simpa using hm
        rcases hm with rfl | rfl
        · exact el
        · exact il
      rw [upd_ne (Nat.ne_of_lt lt)]
      exact (hf c hm).1
  done := fun X hP hW hK hc i pins s σ H E I hf ⟨⟨old, he⟩, g⟩ ⟨xs, qx, hend⟩ => by
    subst hP hW hK
    obtain ⟨us, rv, p, _⟩ := I.tuple qx
    have hd := I.ok.hd hc
    have l1 := rv.length
    have s1 : us.toArray.size = xs.length := by simp [l1]
    have g' : Heap.IsTupleIter s.heap it a us.toArray.size := by rw [s1, ← hend]; exact g
    obtain ⟨f0, f1, f2, f3, f4, f5⟩ := hf it (by simp)
    exact wpAny_pyNext_enum_endD (Draws.tuple (A := X.A.in1) hd it a n1 us.toArray) he ⟨g', p⟩ fun h' eb => ⟨rfl, I.turned (t' := s.toks) (fun c o hb q => eb c o hb q) f0 f1 f3 f4 f5⟩
  self := fun A i s Q E st h => let ⟨⟨_, he⟩, _⟩ := st; wpAny_pyIter_enum he h
set_option maxHeartbeats 8000000 in
theorem meets_enum1 {v : Value} {o : Obj} {G : Heap → Prop} (B : Begins v o G) :
    Meets (Builtin.«enumerate.__new__» ⟨[.type "enumerate", v], []⟩) (fun _ R s => G s.heap ∧ R (.ok (.ret (.ref (s.heap.push o).objs.size))) { s with heap := (s.heap.push o).push { cls := .type "enumerate", data := .fields #[.none, .bool false, .ref s.heap.objs.size, rawInt 0, .none, .none] } }) :=
  .of_wp fun prog w A R s h => by
    obtain ⟨hp, gg, dd, tk, os⟩ := s
    obtain ⟨h1, h⟩ := h
    have hsub := sub_enumerate
    have q1 : ∀ {A' : Around} {E : Value → Shared → Prop} {Q : Value → Shared → Prop}, Q (.ref hp.objs.size) ⟨hp.push o, gg, dd, tk, os⟩ → wpAny (model prog w) A' (pyIter v) Q E ⟨hp, gg, dd, tk, os⟩ := fun q => B.iter prog w _ _ ⟨hp, gg, dd, tk, os⟩ _ h1 q
    wp_walk using q1
    refine wpAny_stack_any fun st => wpAny_pure ?_
    split
    · rename_i c _ _ _ _ _
      cases (c == Value.type "enumerate") <;> (wp_walk using q1; exact ⟨_, rfl, h⟩)
    · wp_walk using q1
      exact ⟨_, rfl, h⟩
theorem call_enum1 {prog : Program} {w : World} {A : Around} {E : Value → Shared → Prop} {s : Shared} {v : Value} {o : Obj} {G : Heap → Prop} {Q : Value → Shared → Prop} (B : Begins v o G) (h1 : G s.heap)
    (h : ∀ h', IsEnum h' (s.heap.objs.size + 1) s.heap.objs.size 0 .none → h'.get? s.heap.objs.size = some o → (∀ b o, s.heap.get? b = some o → h'.get? b = some o) → Q (.ref (s.heap.objs.size + 1)) { s with heap := h' }) :
    wpAny (model prog w) A (call (.type "enumerate") [v]) Q E s := by
  refine callType_new F.called_enumerate (by decide) (F.typeCall_enumerate_1 _) (F.newCall_enumerate_1 _) (fun obj => F.args_object_init_2 obj _) F.entry_enumerate_new (meets_enum1 B) ⟨h1, ?_⟩
  have z : (s.heap.push o).objs.size = s.heap.objs.size + 1 := Heap.size_push ..
  have he := Heap.get?_push_size (s.heap.push o) (o := { cls := .type "enumerate", data := .fields #[.none, .bool false, .ref s.heap.objs.size, rawInt 0, .none, .none] }) rfl
  rw [z] at he
  show _ ∧ _
  rw [z]
  exact ⟨⟨_, he, rfl⟩, h _ he (Heap.get?_push_of_some _ (Heap.get?_push_size _ B.free)) fun b o x => Heap.get?_push_of_some _ (Heap.get?_push_of_some _ x)⟩
def iEnumT (K : PySem.W.Frag) (ta : TA) : TI := fun σ H R => ta σ H fun vs H1 => ∃ a xs, vs = [.ref a] ∧ SqT K H1 a xs ∧ R (ItE K a) H1
theorem pi_enumT {X : Cx} {e : Expr} {ta : TA} {p pos tpos : Pos} {elts : List Expr} {kk : Nat} (hg : Gl X "enumerate") (hm : X.mg "enumerate" = none) (ha : PA X [e] ta) (hs : starEach [e] X.env = [(false, eval e X.env)] := by rfl) : PI X (.Tuple elts kk tpos) (.Call (.Name "enumerate" p) [e] [] pos) (iEnumT X.K ta) where
  run := fun pins s σ H R I h => by
    refine Call_ (ld_blt I hg hm boot_enumerate (PyProof.Rows.callWith_type1 (thn (ha.run pos pins s σ H _ I h) fun us s1 ⟨vs, H1, I1, r1, a, xs, ev, qx, q⟩ => ?_) hs rfl))
    subst ev
    cases r1 with
    | cons r rr =>
      cases rr
      cases r
      obtain ⟨us, rv, p1, _⟩ := I1.tuple qx
      have p1' : s1.heap.IsTuple a us.toArray := p1
      have la : a < s1.heap.objs.size := by
        obtain ⟨o1, ho, _⟩ := p1'
        exact Heap.lt_size ho
      refine call_enum1 (begins_tuple a us.toArray) p1' fun h' he g hk => wpAny_pyIter_enum he ?_
      refine ⟨s1.heap.objs.size + 1, [s1.heap.objs.size + 1, s1.heap.objs.size], _, _, H1, rfl, I1.kept (t' := s1.toks) hk, turnE (Nat.succ_ne_self _) (Nat.ne_of_lt la) (Nat.ne_of_gt (Nat.lt_succ_of_lt la)), ⟨⟨.none, he⟩, ⟨_, g, rfl, rfl⟩⟩, fun c hm => ?_, q⟩
      have le : s1.heap.objs.size ≤ c := by
        have hm : c = s1.heap.objs.size + 1 ∨ c = s1.heap.objs.size := by simpa using hm
        rcases hm with rfl | rfl
        · exact Nat.le_add_right _ _
        · exact Nat.le_refl _
      exact I1.fpOk le (I1.hok.fresh le)
end EW
set_option Elab.async false
set_option linter.all false
set_option maxRecDepth 100000
set_option maxHeartbeats 8000000
/-! tuple * 0, tuple * 1 -/
namespace EW
open PySem PySem.Spec PyProof.Rows L2
theorem tup_mul1 (l : Addr) (items : Array Value) (n : Nat) (dd : Option Addr) (sl : Array (Option Value)) (u : Tok) : Meets (Builtin.«tuple.__mul__» ⟨[.ref l, .int 1 u], []⟩) (fun _ R s => s.heap.get? l = some { cls := .type "tuple", dict := dd, data := .seq items n, slots := sl } ∧ R (.ok (.ret (Value.ref l))) s) :=
  .of_wp fun prog w A R s h => by
    obtain ⟨hp, g, d, tk, os⟩ := s
    obtain ⟨hl, h⟩ := h
    have f1 := AutoSeq1.idx_int
    have c1 : (items.isEmpty || (1 : Int) == 1) = true := by simp
    wp_walk using wpAny_loadPart' hl
    exact ⟨_, rfl, h⟩
theorem tup_mul0 (l : Addr) (items : Array Value) (n : Nat) (dd : Option Addr) (sl : Array (Option Value)) (u : Tok) (c : items.isEmpty = false) : Meets (Builtin.«tuple.__mul__» ⟨[.ref l, .int 0 u], []⟩) (fun _ R s => s.heap.get? l = some { cls := .type "tuple", dict := dd, data := .seq items n, slots := sl } ∧ R (.ok (.ret (Value.ref s.heap.objs.size))) { s with heap := s.heap.push { cls := Value.type "tuple", data := Data.seq #[] }, toks := s.toks }) :=
  .of_wp fun prog w A R s h => by
    obtain ⟨hp, g, d, tk, os⟩ := s
    obtain ⟨hl, h⟩ := h
    have f1 := AutoSeq1.idx_int
    have c1 : (items.isEmpty || (0 : Int) == 1) = false := by rw [c]; rfl
    wp_walk using wpAny_loadPart' hl
    exact ⟨_, rfl, h⟩
/-- tuple * int, from 0 on -/
def rRepU (K : PySem.W.Frag) : R2 := fun x y H Q => ∃ l k xs, x = .ref l ∧ y = .int k ∧ SqT K H l xs ∧ xs ≠ [] ∧ 0 ≤ k ∧ k ≤ 1000 ∧ xs.length ≤ 1000 ∧ (k = 1 → Q (.ref l) H) ∧ ∀ p, H p = none → Q (.ref p) (upd H p (.tup (List.replicate k.toNat xs).flatten))
theorem op_repU {X : Cx} : OpR X (binaryOp .Mult) (rRepU X.K) := by
  intro pins s σ H x y v u Q I rx ry h
  obtain ⟨l, k, xs, rfl, rfl, hT, hne, h1, h2, hz, q1, q⟩ := h
  by_cases k2 : 2 ≤ k
  · exact op_repT pins s σ H (.ref l) (.int k) v u Q I rx ry ⟨l, k, xs, rfl, rfl, hT, hne, k2, h2, hz, q⟩
  cases rx
  obtain ⟨t, rfl⟩ := ry
  obtain ⟨its, r, ⟨⟨cls, dd, data, sl⟩, ho, hc, n, hd⟩, hs⟩ := I.tuple hT
  simp only at hc hd
  subst hc hd
  have em : its.toArray.isEmpty = false := by
    cases its with
    | nil =>
      have := r.length
      exact absurd (List.eq_nil_of_length_eq_zero this) hne
    | cons a b => rfl
  have k01 : k = 0 ∨ k = 1 := by omega
  rcases k01 with rfl | rfl
  · refine wpAny_binaryOp_repeat_ref (T := "tuple") (U := "int") (by decide) ⟨_, ho, rfl⟩ (fun s' => typeIs_int s' 0 t) noFill_tuple_mul F.fills_int_mul F.slot_int_rmul repeat_tuple F.slot_int_index.lookup
      (call_meets F.slot_int_rmul (typeIs_int s 0 t) F.entry_int_rmul (F.args_int_rmul_2 _ _) (int_rmul_tuple 0 t l its.toArray n dd sl) ⟨ho, rfl, ⟨_, ho, rfl⟩, call_meets F.slot_tuple_mul ⟨_, ho, rfl⟩ F.entry_tuple_mul (F.args_tuple_mul_2 _ _) (tup_mul0 l its.toArray n dd sl t em) ⟨ho, ?_⟩⟩)
    refine ⟨.ref s.heap.objs.size, _, I.laid (t' := s.toks) (o := .tup []) (fun b ob q => Heap.get?_push_of_some _ q) (Nat.le_refl _) ?_, rfl, ?_⟩
    · exact ⟨Nat.zero_le _, [], .nil, IsTup.new _ _⟩
    · exact q _ (I.hok.fresh (Nat.le_refl _))
  · refine wpAny_binaryOp_repeat_ref (T := "tuple") (U := "int") (by decide) ⟨_, ho, rfl⟩ (fun s' => typeIs_int s' 1 t) noFill_tuple_mul F.fills_int_mul F.slot_int_rmul repeat_tuple F.slot_int_index.lookup
      (call_meets F.slot_int_rmul (typeIs_int s 1 t) F.entry_int_rmul (F.args_int_rmul_2 _ _) (int_rmul_tuple 1 t l its.toArray n dd sl) ⟨ho, rfl, ⟨_, ho, rfl⟩, call_meets F.slot_tuple_mul ⟨_, ho, rfl⟩ F.entry_tuple_mul (F.args_tuple_mul_2 _ _) (tup_mul1 l its.toArray n dd sl t) ⟨ho, ?_⟩⟩)
    exact ⟨.ref l, H, I, rfl, q1 rfl⟩
end EW
set_option Elab.async false
set_option linter.all false
set_option maxRecDepth 100000
set_option maxHeartbeats 8000000
/-! t[::-1] of a tuple; powers of great bases -/
namespace EW
open PySem PySem.Spec PyProof.Rows L2
/-! ### powers -/
def CPowX (i j : Int) : Prop := 0 ≤ j ∧ (Builtin.Int.intBits i : Int) * j ≤ 2 ^ 27
theorem op_powX {X : Cx} : OpR X (binaryOp .Pow) (rI CPowX fun i j => .int (i ^ j.toNat)) := opI fun _ _ _ _ _ _ _ hc q => pow_int hc.1 hc.2 q
theorem bits_le {i : Int} {m : Nat} (h : i.natAbs < 2 ^ m) : Builtin.Int.intBits i ≤ m := by
  unfold Builtin.Int.intBits
  split
  · exact Nat.zero_le _
  · rename_i z
    have z : i.natAbs ≠ 0 := fun w => z (by simpa using w)
    have := (Nat.log2_lt z).mpr h
    omega
theorem powX_ok {i : Int} {m n : Nat} (h : i.natAbs < 2 ^ m) (hm : m * n ≤ 2 ^ 27) : CPowX i (n : Int) := by
  refine ⟨by omega, ?_⟩
  have a := bits_le h
  have b : Builtin.Int.intBits i * n ≤ m * n := Nat.mul_le_mul_right n a
  have : ((Builtin.Int.intBits i * n : Nat) : Int) ≤ 2 ^ 27 := by omega
  push_cast at this
  exact this
/-! ### t[::-1] -/
theorem adjBack (n : Nat) : Builtin.Slice.sliceAdjust none none (-1) (n : Int) = ((n : Int) - 1, -1) := rfl
theorem placesBack (n : Nat) : Builtin.Slice.slicePlaces ((n : Int) - 1) (-1) (-1) = n := by
  unfold Builtin.Slice.slicePlaces
  have h1 : ¬ ((-1 : Int) > 0) := by decide
  rw [if_neg h1]
  split
  · have : ((n : Int) - 1 - -1 - 1) / (- -1) + 1 = (n : Int) := by
      rw [show (- -1 : Int) = 1 by decide, Int.ediv_one]
      omega
    rw [this]
    exact Int.toNat_natCast n
  · omega
theorem appliedBack {prog : Program} {w : World} {A : Around} {E : Value → Shared → Prop} {s : Shared} {sl : Addr} {t : Tok} {n : Nat} {Q : Int × Int × Nat → Shared → Prop} (hs : s.heap.IsSliceOf sl .none .none (.int (-1) t)) (h : Q ((n : Int) - 1, -1, n) s) :
    wpAny (model prog w) A (Builtin.Slice.sliceApplied (.ref sl) (pure (n : Int))) Q E s := by
  obtain ⟨os, g1, _, g3⟩ := id hs
  unfold Builtin.Slice.sliceApplied Builtin.Slice.sliceFields
  refine wpAny_bind (wpAny_bind (wpAny_field g1 g3 (x := .none) rfl (wpAny_bind (wpAny_field g1 g3 (x := .none) rfl (wpAny_bind (wpAny_field g1 g3 (x := .int (-1) t) rfl (wpAny_pure ?_)))))))
  refine wpAny_bind (slicePart_int ?_)
  show wpAny _ _ (if ((-1 : Int) == 0) = true then _ else _) _ _ s
  rw [if_neg (by decide)]
  refine wpAny_bind (slicePart_none (wpAny_bind (slicePart_none (wpAny_bind (wpAny_pure ?_)))))
  show wpAny _ _ (match Builtin.Slice.sliceAdjust none none (-1) (n : Int) with | (lo, hi) => pure (lo, (-1 : Int), Builtin.Slice.slicePlaces lo hi (-1))) _ _ s
  rw [adjBack]
  show wpAny _ _ (pure ((n : Int) - 1, (-1 : Int), Builtin.Slice.slicePlaces ((n : Int) - 1) (-1) (-1))) _ _ s
  rw [placesBack]
  exact wpAny_pure h
theorem pickBack (xs : Array Value) : ((List.range xs.size).filterMap fun (k : Nat) => xs[(((xs.size : Int) - 1) + (k : Int) * (-1)).toNat]?).toArray = xs.toList.reverse.toArray := by
  congr 1
  apply List.ext_getElem?
  intro i
  have e : (List.range xs.size).filterMap (fun (k : Nat) => xs[(((xs.size : Int) - 1) + (k : Int) * (-1)).toNat]?) = (List.range xs.size).map fun k => xs.getD (xs.size - 1 - k) .none := by
    have go : ∀ (l : List Nat), (∀ k ∈ l, k < xs.size) → l.filterMap (fun (k : Nat) => xs[(((xs.size : Int) - 1) + (k : Int) * (-1)).toNat]?) = l.map fun k => xs.getD (xs.size - 1 - k) .none := by
      intro l
      induction l with
      | nil => intro _; rfl
      | cons a l ih =>
        intro h
        have ha := h a (by simp)
        have e1 : (((xs.size : Int) - 1) + (a : Int) * (-1)).toNat = xs.size - 1 - a := by omega
        have h2 : xs.size - 1 - a < xs.size := by omega
        rw [List.filterMap_cons, ih fun k hk => h k (by simp [hk]), e1]
        simp [h2]
    exact go _ fun k hk => List.mem_range.mp hk
  rw [e, List.getElem?_map]
  by_cases hi : i < xs.size
  · have h2 : xs.size - 1 - i < xs.size := by omega
    rw [List.getElem?_reverse (by simpa using hi)]
    simp [hi, h2]
  · have h1 : xs.size ≤ i := by omega
    simp [h1]
theorem getBack {prog : Program} {w : World} {A : Around} {E : Value → Shared → Prop} {s : Shared} {t sl : Addr} {u : Tok} {items : Array Value} {Q : Value → Shared → Prop} (ht : IsTup s.heap t items) (hs : s.heap.IsSliceOf sl .none .none (.int (-1) u)) (hsz : items.size ≤ sizeLine)
    (h : Q (.ref s.heap.objs.size) { s with heap := s.heap.push { cls := .type "tuple", data := .seq items.toList.reverse.toArray } }) : wpAny (model prog w) A (getItem (.ref t) (.ref sl)) Q E s := by
  obtain ⟨os, hos, hcs, hds⟩ := id hs
  have hT : s.TypeIs (.ref sl) "slice" := ⟨os, hos, hcs⟩
  have hok : sizeOk (.seq items.toList.reverse.toArray) := by
    show items.toList.reverse.toArray.size ≤ sizeLine
    simpa using hsz
  unfold getItem
  try with_reducible refine wpAny_holding ?_
  first | refine wpAny_bind (wpAny_pure ?_) | skip
  refine wpAny_bind (wpAny_sequenceKey ht.typeIs (by decide) (wpAny_bind (wpAny_callSpecial?_slot (name := Str.ofString "__getitem__") ht.typeIs PyProof.Rows.slot_tuple_getitem (wpAny_call_entry PyProof.Rows.slot_tuple_getitem ht.typeIs entry_tuple_getitem ?_ (args_tuple_getitem _ _)))))
  show wpAny _ _ (Builtin.Tuple.tupleItemsOf (.ref t) >>= _) _ _ s
  refine wpAny_bind (tupleItemsOf_ ht (wpAny_bind (wpAny_typeOf hT ?_)))
  rw [if_pos (by decide)]
  refine wpAny_bind (appliedBack hs ?_)
  show wpAny _ _ (if (((items.size : Int) - 1) == 0 && (-1 : Int) == 1 && items.size == items.size) = true then _ else _) _ _ s
  rw [if_neg (by simp), pickBack]
  first
    | exact wpAny_bind (m := Builtin.Tuple.tupleExact _) (wpAny_newObj_type (wpAny_pure ⟨_, rfl, wpAny_pure h⟩) hok)
    | exact wpAny_bind (m := Builtin.Tuple.tupleExact _) (wpAny_newObj_type (wpAny_bind (wpAny_pure (wpAny_pure ⟨_, rfl, wpAny_pure h⟩))) hok)
    | exact wpAny_bind (wpAny_bind (m := Builtin.Tuple.tupleExact _) (wpAny_newObj_type (wpAny_pure (wpAny_pure ⟨_, rfl, wpAny_pure h⟩)) hok))
    | exact wpAny_bind (wpAny_bind (m := Builtin.Tuple.tupleExact _) (wpAny_newObj_type (wpAny_pure ⟨_, rfl, wpAny_pure h⟩) hok))
def tRevT (K : PySem.W.Frag) (te : TE) : TE := fun σ H Q => te σ H fun x H1 => ∃ a xs, x = .ref a ∧ SqT K H1 a xs ∧ ∀ p, H1 p = none → Q (.ref p) (upd H1 p (.tup xs.reverse))
theorem pe_revT {X : Cx} {e : Expr} {te : TE} {k : Nat} {p1 p2 p3 pos : Pos} (he : PE X e te) : PE X (.Subscript e (.Slice none none (some (.UnaryOp .USub (.Constant (.int 1) k p1) p2)) p3) pos) (tRevT X.K te) where
  run := fun pins s σ H Q I h => by
    refine Subscript_ (thn (he.run pins s σ H _ I h) fun v s1 ⟨x, H1, I1, r1, a, xs, ex, hx, q⟩ => ?_)
    subst ex
    cases r1
    have st : PO X (some (.UnaryOp .USub (.Constant (.int 1) k p1) p2)) (tPart (tUn (rU fun i => .int (-i)) (tC (.int 1)))) := po_some (pe_un un_neg pe_int)
    refine wpAny_Slice (thn (po_none.run pins s1 σ H1 (fun o G => o = none ∧ G = H1) I1 ⟨rfl, rfl⟩) fun vl s2 ⟨l, H2, I2, pl, e1, e2⟩ => ?_)
    subst e1 e2
    refine thn (po_none.run pins s2 σ H2 (fun o G => o = none ∧ G = H2) I2 ⟨rfl, rfl⟩) fun vu s3 ⟨u, H3, I3, pu, e3, e4⟩ => ?_
    subst e3 e4
    refine thn (st.run pins s3 σ H3 (fun o G => o = some (-1) ∧ G = H3) I3 ⟨1, rfl, -1, rfl, rfl, rfl⟩) fun vs s4 ⟨o, H4, I4, ps, e5, e6⟩ => ?_
    subst e5 e6
    cases pl
    cases pu
    cases ps with
    | int i t =>
      have I5 : Inv X pins σ H4 { s4 with heap := s4.heap.push { cls := .type "slice", data := .fields #[.none, .none, .int (-1) t] } } := I4.kept (t' := s4.toks) fun b ob g => Heap.get?_push_of_some _ g
      obtain ⟨us, rv, p, hz⟩ := I5.tuple hx
      have hl := rv.length
      have p' : IsTup (s4.heap.push { cls := .type "slice", data := .fields #[.none, .none, .int (-1) t] }) a us.toArray := p
      refine tail_any (ops := [.ref a, .ref s4.heap.objs.size]) p.typeIs PyProof.Rows.slot_tuple_getitem.lookup ?_ (by with_unfolding_all rfl)
      refine getBack p' (Heap.IsSliceOf.new _ .none .none (.int (-1) t)) (by rw [List.size_toArray]; omega) ?_
      refine ⟨.ref _, _, I5.laid (t' := s4.toks) (o := .tup xs.reverse) (fun b ob g => Heap.get?_push_of_some _ g) (Nat.le_refl _) ?_, rfl, q _ (I5.hok.fresh (Nat.le_refl _))⟩
      exact ⟨by rw [List.length_reverse]; exact hz, _, rv.reverse, IsTup.new _ _⟩
end EW
set_option Elab.async false
set_option linter.all false
set_option maxRecDepth 100000
set_option maxHeartbeats 4000000
set_option exponentiation.threshold 10000
namespace EW
open PySem PySem.Spec PyProof.Rows L2 Evl
/-! ### tuples with marks -/
def TsP (K : PySem.W.Frag) (n : Nat) (P : Nat → V → Hp → Prop) : V → Hp → Prop := fun v H => ∃ p xs, v = .ref p ∧ SqT K H p xs ∧ xs.length = n ∧ ∀ i x, xs[i]? = some x → P i x H
abbrev Row := Int × (Nat → Int)
abbrev IntsT (K : PySem.W.Frag) (m : Nat) (f : Nat → Int) : V → Hp → Prop := TsP K m fun j x _ => x = .int (f j)
/-- a ROW of m columns -/
def RwP (K : PySem.W.Frag) (m : Nat) (r : Row) : V → Hp → Prop := fun v H => ∃ T t, v = .ref T ∧ SqT K H T [.int r.1, t] ∧ IntsT K m r.2 t H
abbrev RwsP (K : PySem.W.Frag) (n m : Nat) (R : Nat → Row) : V → Hp → Prop := TsP K n fun i => RwP K m (R i)
abbrev FrsT (K : PySem.W.Frag) (n : Nat) (f : Nat → Rat) : V → Hp → Prop := TsP K n fun i => Fr K (f i)
section
variable {K : PySem.W.Frag} {σ : L2.St} {H H' F : Hp} {ta tb te tx tl : TE} {P P' : V → Hp → Prop} {n m : Nat} {Pi Pj : Nat → V → Hp → Prop} {v : V}
theorem ne_mt {a D : Addr} {xs : List V} {o : HO} (s : Rd H a (.tup xs)) (hD : H D = some o) (mt : Mt o) : a ≠ D := fun z => by
  subst z
  rcases s with s | ⟨ob, s⟩
  · rw [hD] at s; cases s; rcases mt with ⟨_, k⟩ | ⟨_, _, _, k⟩ <;> cases k
  · rw [hD] at s; cases s; rcases mt with ⟨_, k⟩ | ⟨_, _, _, k⟩ <;> cases k
theorem sqT_up {a D : Addr} {xs : List V} {o o' : HO} (s : SqT K H a xs) (hD : H D = some o) (mt : Mt o) : SqT K (upd H D o') a xs := by
  rcases s with s | s
  · have ne := ne_mt s hD mt
    rcases s with s | ⟨ob, s⟩
    · exact .inl (.inl (by rw [upd_ne ne]; exact s))
    · exact .inl (.inr ⟨ob, by rw [upd_ne ne]; exact s⟩)
  · exact .inr s
theorem ts_mono (h : ∀ i, Mono (Pi i)) : Mono (TsP K n Pi) := by
  rintro v H H' e ⟨p, xs, rfl, hp, hl, hx⟩
  exact ⟨p, xs, rfl, ex_t e hp, hl, fun i x q => h i x H H' e (hx i x q)⟩
theorem ts_tst (h : ∀ i, Tst (Pi i)) : Tst (TsP K n Pi) := by
  rintro D v H o o' hD mt ⟨p, xs, rfl, hp, hl, hx⟩
  exact ⟨p, xs, rfl, sqT_up hp hD mt, hl, fun i x q => h i D x H o o' hD mt (hx i x q)⟩
theorem intsT_mono {f : Nat → Int} : Mono (IntsT K m f) := ts_mono fun _ => mono_eq
theorem intsT_tst {f : Nat → Int} : Tst (IntsT K m f) := ts_tst fun _ => tst_eq
theorem rw_mono {r : Row} : Mono (RwP K m r) := fun v H H' e ⟨T, t, h1, h2, h3⟩ => ⟨T, t, h1, ex_t e h2, intsT_mono _ _ _ e h3⟩
theorem rw_tst {r : Row} : Tst (RwP K m r) := fun D v H o o' hD mt ⟨T, t, h1, h2, h3⟩ => ⟨T, t, h1, sqT_up h2 hD mt, intsT_tst _ _ _ _ _ hD mt h3⟩
theorem rws_mono {R : Nat → Row} : Mono (RwsP K n m R) := ts_mono fun _ => rw_mono
theorem rws_tst {R : Nat → Row} : Tst (RwsP K n m R) := ts_tst fun _ => rw_tst
theorem frsT_mono {f : Nat → Rat} : Mono (FrsT K n f) := ts_mono fun _ => Fr.mono
theorem ts_congr (h : ∀ i x H, i < n → Pi i x H → Pj i x H) (p : TsP K n Pi v H) : TsP K n Pj v H := by
  obtain ⟨a, xs, rfl, hp, hl, hx⟩ := p
  exact ⟨a, xs, rfl, hp, hl, fun i x e => h i x H (by have := (List.getElem?_eq_some_iff.mp e).1; omega) (hx i x e)⟩
theorem sr_tupP (h : EvP tl σ H (TsP K n Pi)) (mP : ∀ i, Mono (Pi i)) : SrP (iTup K tl) σ H n Pi := fun H1 e R k => h H1 e _ fun v H2 e2 ⟨p, xs, ev, hp, hl, hx⟩ =>
  ⟨p, ev, ⟨xs, hp⟩, k _ H2 e2 ⟨_, _, hl ▸ walk_tup (xs := xs), fun H3 e3 => ex_t e3 hp, fun i H3 x H4 _ e3 y => by
    obtain ⟨rfl, y⟩ := y
    exact ⟨Ex.refl _, mP i _ _ _ e3 (hx i x y)⟩⟩⟩
theorem sr_zipM {ta : TA} (h : EaP ta σ H (fun vs H => ∃ v w, vs = [v, w] ∧ TsP K n Pi v H ∧ LsP n Pj w H)) (mP : ∀ i, Mono (Pi i)) (mJ : ∀ i, Mono (Pj i)) : SrP (iZipM K ta) σ H n (fun i => PrP (K := K) (Pi i) (Pj i)) := fun H1 e R k =>
  h H1 e _ fun vs H2 e2 ⟨v, w, e3, ⟨p, xs, ev, hp, hl, hx⟩, ⟨q, ys, ew, hq, hm, hy⟩⟩ =>
  ⟨p, q, xs, ys, by rw [e3, ev, ew], hp, sq_of hq, k _ H2 e2 ⟨_, _, walkM (xs := xs) (ys := ys) (n := n) (by omega), fun H3 e3 => ⟨ex_t e3 hp, sq_of (e3 _ _ hq)⟩, fun i H3 x H4 _ e3 y => by
    obtain ⟨T, a, b, rfl, hT, rfl, ha, hb⟩ := y
    have e4 : Ex H3 (upd H3 T (.tup [a, b])) := Ex.new hT
    exact ⟨e4, T, a, b, rfl, st_of upd_same, mP i _ _ _ (e3.trans e4) (hx i a ha), mJ i _ _ _ (e3.trans e4) (hy i b hb)⟩⟩⟩
theorem sr_enumT {ta : TA} (h : EaP ta σ H (fun vs H => ∃ v, vs = [v] ∧ TsP K n Pi v H)) (mP : ∀ i, Mono (Pi i)) : SrP (iEnumT K ta) σ H n (fun i => PrP (K := K) (fun x _ => x = .int i) (Pi i)) := fun H1 e R k => h H1 e _ fun vs H2 e2 ⟨v, e3, p, xs, ev, hp, hl, hx⟩ =>
  ⟨p, xs, by rw [e3, ev], hp, k _ H2 e2 ⟨_, _, hl ▸ walkE (xs := xs), fun H3 e3 => ex_t e3 hp, fun i H3 x H4 _ e3 y => by
    obtain ⟨T, a, b, rfl, hT, rfl, ha, hb⟩ := y
    cases ha
    have e4 : Ex H3 (upd H3 T (.tup [.int (i : Nat), b])) := Ex.new hT
    exact ⟨e4, T, _, b, rfl, st_of upd_same, rfl, mP i _ _ _ (e3.trans e4) (hx i b hb)⟩⟩⟩
theorem ty_tup {T : Addr} {xs : List V} (s : SqT K H T xs) : ∃ t, TyX K H (.ref T) t ∧ PySem.W.kitOne K t (.type "tuple") = some true := by
  rcases s with (s | ⟨o, s⟩) | ⟨o, its, k, h1, h2, _⟩
  · exact ⟨_, .base (.tup s), kit_ty (by decide +kernel)⟩
  · exact ⟨_, .fTuple s, kit_ty (by decide +kernel)⟩
  · exact ⟨_, .kTuple h1 h2, kit_ty (by decide +kernel)⟩
/-- isinstance(e, tuple) of a tuple -/
theorem ev_isTup (ha : EvP ta σ H (TsP K n Pi)) : Ev (tCB (rIsi K) (tCons ta (tCons (tC (.ty "tuple")) tNil))) σ H (.bl true) := fun H1 e Q q => ha H1 e _ fun v H2 e2 ⟨p, xs, ev, hp, _⟩ => by
  subst ev
  obtain ⟨t, h1, h2⟩ := ty_tup hp
  exact ⟨.ref p, .ty "tuple", t, .type "tuple", true, rfl, .ty _, h1, h2, q H2 e2⟩
theorem ev_isRow {r : Row} (ha : EvP ta σ H (RwP K m r)) : Ev (tCB (rIsi K) (tCons ta (tCons (tC (.ty "tuple")) tNil))) σ H (.bl true) := fun H1 e Q q => ha H1 e _ fun v H2 e2 ⟨T, t', ev, hp, _⟩ => by
  subst ev
  obtain ⟨t, h1, h2⟩ := ty_tup hp
  exact ⟨.ref T, .ty "tuple", t, .type "tuple", true, rfl, .ty _, h1, h2, q H2 e2⟩
theorem ev_lenT (ha : EvP ta σ H (TsP K n Pi)) : Ev (tCB (fun xs H Q => ∃ p ys, xs = [V.ref p] ∧ (SqL K H p ys ∨ SqT K H p ys) ∧ Q (.int ys.length) H) (tCons ta tNil)) σ H (.int (n : Int)) := fun H1 e Q q =>
  ha H1 e _ fun v H2 e2 ⟨p, xs, ev, hp, hl, _⟩ => ⟨p, xs, by rw [ev], .inr hp, by rw [hl]; exact q H2 e2⟩
theorem ev_lenRow {r : Row} (ha : EvP ta σ H (RwP K m r)) : Ev (tCB (fun xs H Q => ∃ p ys, xs = [V.ref p] ∧ (SqL K H p ys ∨ SqT K H p ys) ∧ Q (.int ys.length) H) (tCons ta tNil)) σ H (.int 2) := fun H1 e Q q =>
  ha H1 e _ fun v H2 e2 ⟨p, t, ev, hp, _⟩ => ⟨p, _, by rw [ev], .inr hp, q H2 e2⟩
/-- row[0], row[1] -/
theorem ev_row0 {r : Row} (ha : EvP ta σ H (RwP K m r)) : Ev (tOp (rIxT K) ta (tC (.int 0))) σ H (.int r.1) := fun H1 e Q k => ha H1 e _ fun x H2 e2 ⟨T, t, h1, h2, h3⟩ => ⟨T, _, 0, _, h1, rfl, h2, at0, k H2 e2⟩
theorem ep_row1 {r : Row} (ha : EvP ta σ H (RwP K m r)) : EvP (tOp (rIxT K) ta (tC (.int 1))) σ H (IntsT K m r.2) := fun H1 e Q k => ha H1 e _ fun x H2 e2 ⟨T, t, h1, h2, h3⟩ => ⟨T, _, 1, _, h1, rfl, h2, at1, k _ H2 e2 h3⟩
theorem ep_ixTs {j : Nat} (ha : EvP ta σ H (TsP K n Pi)) (hb : Ev tb σ H (.int (j : Int))) (hj : j < n) (m : ∀ i, Mono (Pi i)) : EvP (tOp (rIxT K) ta tb) σ H (Pi j) := fun H1 e Q q =>
  ha H1 e _ fun x H2 e2 ⟨p, xs, ex, hp, hl, hx⟩ => hb H2 (e.trans e2) _ fun H3 e3 => by
    subst ex
    have hj' : j < xs.length := by omega
    have hv : xs[j]? = some xs[j] := by simp [hj']
    exact ⟨p, xs, (j : Int), xs[j], rfl, rfl, ex_t e3 hp, atI_nat hv, q _ H3 (e2.trans e3) (m _ _ _ _ e3 (hx j _ hv))⟩
/-- all([..]) -/
theorem ev_allN {f : Nat → Bool} (h : EvN te σ H (LsP n fun i x _ => x = .bl (f i))) : Ev (tCB (rAll K) (tCons te tNil)) σ H (.bl ((List.range n).all f)) := fun H1 e Q q => el_of h H1 e _ fun p H2 _ e2 hp => ⟨p, (List.range n).map f, rfl, by
  have : ((List.range n).map f).map V.bl = (List.range n).map fun i => V.bl (f i) := by simp [List.map_map, Function.comp_def]
  rw [this]
  exact sq_of hp, by
  have : ((List.range n).map f).all id = (List.range n).all f := by simp [List.all_map, Function.comp_def]
  rw [this]
  exact q H2 e2⟩
end
/-- a statement that is never come to -/
def tDead : TS := fun _ _ _ => False
theorem pss_dead {X : Cx} {body : List Stmt} : PSs X body tDead := ⟨fun _ _ _ _ _ _ h => h.elim⟩
theorem et_T {t : TT} {σ : L2.St} {H : Hp} {b : Bool} (h : EvT t σ H b) (e : b = c) : EvT t σ H c := e ▸ h
section
variable {P : Program} {w : World} {K : PySem.W.Frag} {mg : Str → Option Value} {base : Heap}
/-! ### is_row -/
abbrev sIsRow : Stmt := top 22
abbrev nIsRow : List Str := ["many", "value", "by"]
def spIsRow (K : PySem.W.Frag) : Sp := fun vs H Q _ => ∃ (m : Nat) (r : Row) (v : V), vs = [.int (m : Int), v] ∧ RwP K m r v H ∧ m ≤ 1000 ∧ RetV (.bl true) H Q
theorem scIsRow : FnScope nIsRow ["many", "value"] (defScope sIsRow) := ⟨rfl, rfl, rfl, by decide +kernel, rfl, by decide +kernel, by decide +kernel⟩
theorem ok_isRow {f fI : Addr} {fd fdI : FuncData} (F : Fun K "is_row" "is_row" sIsRow f fd) (B : Bl2 mg) (B1 : Blt mg) (I : Has P w K mg base "is_integer" 1 ["value"] (spIsInt K) fI fdI) : FnOk P w K mg base CX0 2 f fd ["many", "value"] (spIsRow K) := by
  refine F.ok scIsRow (fun vs H Q E h => ?_) (fun cdv A outer s H vs Q E hr h => ?_)
  · obtain ⟨m, r, v, rfl, _⟩ := h
    rfl
  · obtain ⟨m, r, v, rfl, hv, hm, k⟩ := h
    refine ⟨_, pss_cons (ps_if (pw_or (pt_not (pt_val (pe_callB call_isi (by rfl) B1.isi (by decide +kernel) (pa_cons (pv 1) (pa_cons (pe_bltn (v := .ty "tuple") (by rfl) B.tuple (by decide +kernel) rfl) pa_nil)))))
        (pw_or (pt_cmpR op_ne (pe_callB call_len_seq (by rfl) B.len PySem.boot_len (pa_cons (pv 1) pa_nil)) pe_int (nomark _))
        (pw_or (pt_not (pt_val (pe_cl I hr (pa_cons (pe_ix ix_tup (pv 1) pe_int (fun _ _ => rfl)) pa_nil))))
        (pw_or1 (pt_not (pt_val (pe_callB call_isi (by rfl) B1.isi (by decide +kernel) (pa_cons (pe_ix ix_tup (pv 1) pe_int (fun _ _ => rfl)) (pa_cons (pe_bltn (v := .ty "tuple") (by rfl) B.tuple (by decide +kernel) rfl) pa_nil))))))))).pt pss_dead pss_nil)
      (pss_one (ps_ret (pe_and (pe_cmpR op_eq (pe_callB call_len_seq (by rfl) B.len PySem.boot_len (pa_cons (pe_ix ix_tup (pv 1) pe_int (fun _ _ => rfl)) pa_nil)) (pv 0) (nomark _))
        (pe_one (pe_callB (cr_all rfl) (by rfl) B.all (by decide +kernel) (pa_cons (pe_lc (own := [("by", 2)]) (g := gName 2) (tt := tYes) rfl scIsRow.nd (pi_tup (pe_ix ix_tup (pv 1) pe_int (fun _ _ => rfl))) (blkOk_by (N := nIsRow) (sc := defScope sIsRow) (by decide +kernel))
          (fun _ _ _ _ _ => pg_name (i := 2) scIsRow.nd rfl (.inl rfl)) (fun _ _ _ _ _ => pts_nil) (fun _ _ _ _ _ => pe_cl I hr (pa_cons (pv 2) pa_nil))) pa_nil)))))), ?_⟩
    refine q_when (b := false) (et_is (et_or (et_not (et_B (ev_isRow (ep_varM rfl hv rw_mono)))) fun _ => et_or (et_test (ev_op (ev_lenRow (ep_varM rfl hv rw_mono)) ev_c (rv_ne rfl))) fun _ => et_or (et_not (et_B (ev_call (ea_cons (ev_row0 (ep_varM rfl hv rw_mono)) ea_nil) (sv_isInt int_is)))) fun _ =>
      et_not (et_B (ev_isTup (ep_row1 (ep_varM rfl hv rw_mono))))) (by decide)) (fun z => by cases z) fun _ H1 e1 => ?_
    have hv1 := rw_mono _ _ _ e1 hv
    refine s_ret (ev_is (ev_andV (ev_op (ev_lenT (ep_row1 (ep_varM rfl hv1 rw_mono))) (ev_var rfl) (rv_eq rfl)) fun _ => ev_allN (n := m) (f := fun _ => true) (en_lc (sr_tupP (ep_row1 (ep_varM rfl hv1 rw_mono)) fun _ => mono_eq) (by omega) (fun _ => mono_eq) ?_)) ?_) (fun H2 e2 => k _ (e1.trans e2))
    · intro i x H2 hi e2 hX
      subst hX
      exact ⟨_, fun Q q => q, rfl, EvP.d tst_eq (ev_p (ev_call (ea_cons (ev_var rfl) ea_nil) (sv_isInt int_is)))⟩
    · simp
end
end EW
set_option Elab.async false
set_option linter.all false
set_option maxRecDepth 100000
set_option maxHeartbeats 4000000
set_option exponentiation.threshold 10000
namespace EW
open PySem PySem.Spec PyProof.Rows L2 Evl
section
variable {K : PySem.W.Frag} {σ : L2.St} {H H' F : Hp} {ta tb te tx tl : TE} {P P' : V → Hp → Prop} {n m : Nat} {Pi Pj : Nat → V → Hp → Prop} {v : V}
/-- tuple(a list) -/
theorem ep_tuple (h : EvP te σ H (LsP n Pi)) (mP : ∀ i, Mono (Pi i)) : EvP (tCB (fun xs H Q => ∃ p ys, xs = [V.ref p] ∧ ((SqL K H p ys ∧ ∀ l, H l = none → Q (.ref l) (upd H l (.tup ys))) ∨ (SqT K H p ys ∧ Q (.ref p) H))) (tCons te tNil)) σ H (TsP K n Pi) := fun H1 e Q q =>
  h H1 e _ fun v H2 e2 ⟨p, xs, ev, hp, hl, hx⟩ => ⟨p, xs, by rw [ev], .inl ⟨sq_of hp, fun l hn => q _ _ (e2.trans (Ex.new hn)) ⟨l, xs, rfl, st_of upd_same, hl, fun i x k => mP i _ _ _ (Ex.new hn) (hx i x k)⟩⟩⟩
/-- (a, b) with marks -/
theorem ep_pair (ha : EvP ta σ H P) (mA : Mono P) (hb : EvP tb σ H P') (mB : Mono P') : EvP (tTup (tCons ta (tCons tb tNil))) σ H (fun v H => ∃ T a b, v = .ref T ∧ SqT K H T [a, b] ∧ P a H ∧ P' b H) := fun H1 e Q q =>
  ha H1 e _ fun a H2 e2 pa => hb H2 (e.trans e2) _ fun b H3 e3 pb => ⟨by show 2 ≤ sizeLine; decide, fun p hp => q _ _ ((e2.trans e3).trans (Ex.new hp)) ⟨p, a, b, rfl, st_of upd_same, mA _ _ _ (e3.trans (Ex.new hp)) pa, mB _ _ _ (Ex.new hp) pb⟩⟩
theorem fr_tup {q : Rat} {T : Addr} (h : Fr K q (.ref T) H) : SqT K H T [.int q.num, .int (q.den : Int)] := by
  obtain ⟨a, e, s⟩ := h
  cases e
  exact s
end
section
variable {P : Program} {w : World} {K : PySem.W.Frag} {mg : Str → Option Value} {base : Heap}
/-! ### what is handed in -/
abbrev sCheckRows : Stmt := top 29
abbrev nCheckRows : List Str := ["many", "rows", "row"]
def spCheckRows (K : PySem.W.Frag) : Sp := fun vs H Q _ => ∃ (m n : Nat) (R : Nat → Row) (v : V), vs = [.int (m : Int), v] ∧ RwsP K n m R v H ∧ m ≤ 24 ∧ n ≤ 60 ∧ RetV .non H Q
theorem sv_between {H : Hp} {i lo hi : Int} : SpV (spBetween K) [.int i, .int lo, .int hi] H (.bl (decide (lo ≤ i) && decide (i ≤ hi))) := fun H1 e Q q E => ⟨_, true, i, lo, hi, rfl, int_is, fun _ => rfl, q⟩
structure Mosts (mg : Str → Option Value) : Prop where
  cols : ∃ t, mg "MOST_COLUMNS" = some (.int 24 t)
  rows : ∃ t, mg "MOST_ROWS" = some (.int 60 t)
theorem scCheckRows : FnScope nCheckRows ["many", "rows"] (defScope sCheckRows) := ⟨rfl, rfl, rfl, by decide +kernel, rfl, by decide +kernel, by decide +kernel⟩
theorem ok_checkRows {f fB fR : Addr} {fd fdB fdR : FuncData} (F : Fun K "check_rows" "check_rows" sCheckRows f fd) (B : Bl2 mg) (B1 : Blt mg) (Mo : Mosts mg) (Bt : Has P w K mg base "is_between" 2 ["value", "least", "most"] (spBetween K) fB fdB) (R : Has P w K mg base "is_row" 2 ["many", "value"] (spIsRow K) fR fdR) :
    FnOk P w K mg base CX0 3 f fd ["many", "rows"] (spCheckRows K) := by
  obtain ⟨⟨tc, gc⟩, ⟨tr, gr⟩⟩ := Mo
  refine F.ok scCheckRows (fun vs H Q E h => ?_) (fun cdv A outer s H vs Q E hr h => ?_)
  · obtain ⟨m, n, R, v, rfl, _⟩ := h
    rfl
  · obtain ⟨m, n, Rs, v, rfl, hv, hm, hn, k⟩ := h
    refine ⟨_, pss_cons (ps_if (PW.pt (pw_or (pt_not (pt_val (pe_cl Bt hr (pa_cons (pv 0) (pa_cons pe_int (pa_cons (pe_glob (v := .int 24) rfl gc ⟨_, rfl⟩) pa_nil))))))
        (pw_or (pt_not (pt_val (pe_callB call_isi (by rfl) B1.isi (by decide +kernel) (pa_cons (pv 1) (pa_cons (pe_bltn (v := .ty "tuple") (by rfl) B.tuple (by decide +kernel) rfl) pa_nil)))))
        (pw_or1 (pt_cmpR op_gt (pe_callB call_len_seq (by rfl) B.len PySem.boot_len (pa_cons (pv 1) pa_nil)) (pe_glob (v := .int 60) rfl gr ⟨_, rfl⟩) (nomark _)))))) pss_dead pss_nil)
      (pss_one (ps_if (pt_not (pt_val (pe_callB (cr_all rfl) (by rfl) B.all (by decide +kernel) (pa_cons (pe_lc (own := [("row", 2)]) (g := gName 2) (tt := tYes) rfl scCheckRows.nd (pi_tup (pv 1)) (blkOk_by (N := nCheckRows) (sc := defScope sCheckRows) (by decide +kernel))
          (fun _ _ _ _ _ => pg_name (i := 2) scCheckRows.nd rfl (.inl rfl)) (fun _ _ _ _ _ => pts_nil) (fun _ _ _ _ _ => pe_cl R hr (pa_cons (pv 0) (pa_cons (pv 2) pa_nil)))) pa_nil)))) pss_dead pss_nil)), ?_⟩
    refine q_when (b := false) (et_is (et_or (et_not (et_B (ev_call (ea_cons (ev_var rfl) (ea_cons ev_c (ea_cons ev_c ea_nil))) sv_between))) fun _ => et_or (et_not (et_B (ev_isTup (ep_varM rfl hv rws_mono)))) fun _ => et_test (ev_op (ev_lenT (ep_varM rfl hv rws_mono)) ev_c rv_I0)) (by
        simp
        omega)) (fun z => by cases z) fun _ H1 e1 => ?_
    · have hv1 := rws_mono _ _ _ e1 hv
      refine s_when (b := false) (et_is (et_not (et_B (ev_allN (n := n) (f := fun _ => true) (en_lc (sr_tupP (ep_varM rfl hv1 rws_mono) fun _ => rw_mono) (by omega) (fun _ => mono_eq) ?_)))) (by simp)) (fun z => by cases z) fun _ H2 e2 => k H2 (e1.trans e2)
      intro i x H2 hi e2 hX
      exact ⟨_, fun Q q => q, rfl, EvP.d tst_eq (ev_p (ev_call (ea_cons (ev_var rfl) (ea_cons (ev_var rfl) ea_nil)) fun H3 e3 Q q E => ⟨m, Rs i, x, rfl, rw_mono _ _ _ e3 hX, by omega, q⟩))⟩
abbrev sCheckFollowing : Stmt := top 30
def spCheckFollowing (K : PySem.W.Frag) : Sp := fun vs H Q _ => ∃ (m n : Nat) (R : Nat → Row) (r : Row) (v u : V), vs = [.int (m : Int), v, u] ∧ RwsP K n m R v H ∧ RwP K m r u H ∧ m ≤ 24 ∧ n ≤ 60 ∧ RetV .non H Q
theorem scCheckFollowing : FnScope ["many", "rows", "row"] ["many", "rows", "row"] (defScope sCheckFollowing) := ⟨rfl, rfl, rfl, by decide +kernel, rfl, by decide +kernel, by decide +kernel⟩
theorem ok_checkFollowing {f fC fR : Addr} {fd fdC fdR : FuncData} (F : Fun K "check_following" "check_following" sCheckFollowing f fd) (C : Has P w K mg base "check_rows" 3 ["many", "rows"] (spCheckRows K) fC fdC) (R : Has P w K mg base "is_row" 2 ["many", "value"] (spIsRow K) fR fdR) :
    FnOk P w K mg base CX0 4 f fd ["many", "rows", "row"] (spCheckFollowing K) := by
  refine F.ok scCheckFollowing (fun vs H Q E h => ?_) (fun cdv A outer s H vs Q E hr h => ?_)
  · obtain ⟨m, n, R, r, v, u, rfl, _⟩ := h
    rfl
  · obtain ⟨m, n, Rs, r, v, u, rfl, hv, hu, hm, hn, k⟩ := h
    refine ⟨_, pss_cons (ps_expr (pe_cl C hr (pa_cons (pv 0) (pa_cons (pv 1) pa_nil)))) (pss_one (ps_if (pt_not (pt_val (pe_cl R (hr.mono (by decide)) (pa_cons (pv 0) (pa_cons (pv 2) pa_nil))))) pss_dead pss_nil)), ?_⟩
    refine q_drop (v := .non) (ev_call (ea_cons (ev_var rfl) (ea_cons (ev_var rfl) ea_nil)) fun H3 e3 Q q E => ⟨m, n, Rs, v, rfl, rws_mono _ _ _ e3 hv, hm, hn, q⟩) fun H1 e1 => ?_
    exact s_when (b := false) (et_is (et_not (et_B (b := true) (ev_call (ea_cons (ev_var rfl) (ea_cons (ev_var rfl) ea_nil)) fun H3 e3 Q q E => ⟨m, r, u, rfl, rw_mono _ _ _ (e1.trans e3) hu, by omega, q⟩))) rfl) (fun z => by cases z) fun _ H2 e2 => k H2 (e1.trans e2)
/-! ### columns -/
abbrev sColumnOf : Stmt := top 32
def colOf (m : Nat) (r : Row) : Nat → Int := fun j => if j < m then r.2 j else r.1
def spColumnOf (K : PySem.W.Frag) : Sp := fun vs H Q _ => ∃ (m : Nat) (r : Row) (v : V), vs = [v] ∧ RwP K m r v H ∧ m ≤ 1000 ∧ ∀ p H2, H p = none → Ex H H2 → IntsP (m + 1) (colOf m r) (.ref p) H2 → Q (.ref p) H2
theorem scColumnOf : FnScope ["row"] ["row"] (defScope sColumnOf) := ⟨rfl, rfl, rfl, by decide +kernel, rfl, by decide +kernel, by decide +kernel⟩
theorem ok_columnOf {f : Addr} {fd : FuncData} (F : Fun K "column_of" "column_of" sColumnOf f fd) : FnOk P w K mg base CX0 1 f fd ["row"] (spColumnOf K) := by
  refine F.ok scColumnOf (fun vs H Q E h => ?_) (fun cdv A outer s H vs Q E hr h => ?_)
  · obtain ⟨m, r, v, rfl, _⟩ := h
    rfl
  · obtain ⟨m, r, v, rfl, hv, hm, k⟩ := h
    refine ⟨_, pss_one (ps_ret (pe_lst (StX.pa_star (pe_ix ix_tup (pv 0) pe_int (fun _ _ => rfl)) (pa_cons (pe_ix ix_tup (pv 0) pe_int (fun _ _ => rfl)) pa_nil)))), ?_⟩
    refine (ep_row1 (ep_varM rfl hv rw_mono)) H (Ex.refl _) _ fun t H1 e1 ⟨p, xs, et, hp, hl, hx⟩ => ⟨p, xs, et, .inl hp, (ev_row0 (ep_varM rfl (rw_mono _ _ _ e1 hv) rw_mono)) H1 (Ex.refl _) _ fun H2 e2 => ⟨?_, fun q hq => k q _ (fresh_back (e1.trans e2) hq) ((e1.trans e2).trans (Ex.new hq)) ⟨q, _, rfl, upd_same, ?_, ?_⟩⟩⟩
    · refine sz_of ?_
      simp
      omega
    · simp [hl]
    · intro i x hi
      show x = .int (colOf m r i)
      unfold colOf
      rw [List.getElem?_append] at hi
      split at hi
      · rw [if_pos (by omega)]
        exact hx i x hi
      · have h0 : i - xs.length < 1 := by have := (List.getElem?_eq_some_iff.mp hi).1; simpa using this
        rw [if_neg (by omega)]
        have : i - xs.length = 0 := by omega
        rw [this] at hi
        simp at hi
        exact hi.symm
abbrev sRestColumn : Stmt := top 33
def restCol (m : Nat) : Nat → Int := fun j => if j < m then 0 else 1
def spRestColumn : Sp := fun vs H Q _ => ∃ (m : Nat), vs = [.int (m : Int)] ∧ m ≤ 1000 ∧ ∀ p H2, H p = none → Ex H H2 → IntsP (m + 1) (restCol m) (.ref p) H2 → Q (.ref p) H2
theorem scRestColumn : FnScope ["many"] ["many"] (defScope sRestColumn) := ⟨rfl, rfl, rfl, by decide +kernel, rfl, by decide +kernel, by decide +kernel⟩
/-- [a] * m + [b] -/
theorem en_fill {σ : L2.St} {H : Hp} {ta tb te : TE} {m : Nat} {a b : Int} (ha : Ev ta σ H (.int a)) (hm : Ev te σ H (.int (m : Int))) (hb : Ev tb σ H (.int b)) (hz : m ≤ 1000) :
    EvN (tOp rCat (tOp rRep (tLst (tCons ta tNil)) te) (tLst (tCons tb tNil))) σ H (IntsP (m + 1) fun j => if j < m then a else b) := fun H1 e Q q => by
  show (tLst (tCons ta tNil)) σ H1 fun x G => te σ G fun y G2 => rRep x y G2 fun z G3 => (tLst (tCons tb tNil)) σ G3 fun w G4 => rCat z w G4 Q
  exact el_lst (vs := [.int a]) (ea_cons ha ea_nil) (by show 1 ≤ 100000; decide) H1 e _ fun l H2 l0 e2 hl => hm H2 (e.trans e2) _ fun H3 e3 => ⟨l, (m : Int), [.int a], rfl, rfl, e3 _ _ hl, by omega, by omega, sz_of (by simp; omega), fun r hr => by
    have e4 : Ex H3 (upd H3 r (.lst (List.replicate (m : Int).toNat [V.int a]).flatten)) := Ex.new hr
    have hr4 : (upd H3 r (.lst (List.replicate (m : Int).toNat [V.int a]).flatten)) r = some (.lst (List.replicate (m : Int).toNat [V.int a]).flatten) := upd_same
    generalize upd H3 r (.lst (List.replicate (m : Int).toNat [V.int a]).flatten) = H4 at e4 hr4 ⊢
    refine el_lst (vs := [.int b]) (ea_cons hb ea_nil) (by show 1 ≤ 100000; decide) H4 ((((e.trans e2).trans e3).trans e4)) _ fun s H5 s0 e5 hs => ⟨r, s, _, _, rfl, rfl, e5 _ _ hr4, hs, sz_of (by simp; omega), fun d hd => q d _ (fresh_back ((((e2.trans e3).trans e4)).trans e5) hd) (((((e2.trans e3).trans e4)).trans e5).trans (Ex.new hd)) ⟨d, _, rfl, upd_same, by simp, fun i x hi => ?_⟩⟩
    show x = .int (if i < m then a else b)
    have el : (List.replicate (m : Int).toNat [V.int a]).flatten = List.replicate m (V.int a) := by simp
    rw [el, List.getElem?_append] at hi
    split at hi
    · rename_i hlt
      have hlt : i < m := by simpa using hlt
      rw [if_pos hlt]
      rw [List.getElem?_replicate] at hi
      rw [if_pos hlt] at hi
      exact (Option.some.inj hi).symm
    · rename_i hge
      have hge : ¬ i < m := by simpa using hge
      have h0 : i - (List.replicate m (V.int a)).length < 1 := by have := (List.getElem?_eq_some_iff.mp hi).1; simpa using this
      rw [if_neg hge]
      have : i - (List.replicate m (V.int a)).length = 0 := by omega
      rw [this] at hi
      simp at hi
      exact hi.symm⟩
theorem ok_restColumn {f : Addr} {fd : FuncData} (F : Fun K "rest_column" "rest_column" sRestColumn f fd) : FnOk P w K mg base CX0 1 f fd ["many"] spRestColumn := by
  refine F.ok scRestColumn (fun vs H Q E h => ?_) (fun cdv A outer s H vs Q E hr h => ?_)
  · obtain ⟨m, rfl, _⟩ := h
    rfl
  · obtain ⟨m, rfl, hm, k⟩ := h
    refine ⟨_, pss_one (ps_ret (pe_op op_cat (pe_op op_rep (pe_lst (pa_cons pe_int pa_nil)) (pv 0)) (pe_lst (pa_cons pe_int pa_nil)))), ?_⟩
    exact sn_ret (en_fill ev_c (ev_var rfl) ev_c hm) k
end
end EW
set_option Elab.async false
set_option linter.all false
set_option maxRecDepth 100000
set_option maxHeartbeats 4000000
set_option exponentiation.threshold 10000
namespace EW
open PySem PySem.Spec PyProof.Rows L2 Evl
theorem nd_at {α : Type} {xs : List α} (h : xs.length = n) (hj : j < n) : ∃ x, xs[j]? = some x := ⟨xs[j], by simp [h, hj]⟩
section
variable {K : PySem.W.Frag} {σ : L2.St} {H H' F : Hp} {ta tb te tx tl : TE} {P P' : V → Hp → Prop} {n m : Nat} {Pi Pj : Nat → V → Hp → Prop} {v : V}
theorem cut_last (xs : List V) : cutV xs none (some (-1)) = xs.take (xs.length - 1) := by
  unfold cutV HT.sIx
  simp
  congr 1
  omega
/-- xs[:-1] -/
theorem ep_cutL (h : EvP te σ H (LsP (n + 1) Pi)) (mP : ∀ i, Mono (Pi i)) : EvP (tSl (rSlL K) te tNoPart (tPart (tUn (rU fun i => .int (-i)) (tC (.int 1))))) σ H (LsP n Pi) := fun H1 e Q q =>
  h H1 e _ fun v H2 e2 ⟨p, xs, ev, hp, hl, hx⟩ => ⟨1, rfl, -1, rfl, p, xs, ev, sq_of hp, fun d hd => by
    rw [cut_last]
    refine q _ _ (e2.trans (Ex.new hd)) ⟨d, _, rfl, upd_same, by simp [hl], fun i x hi => ?_⟩
    rw [List.getElem?_take] at hi
    split at hi
    · exact mP i _ _ _ (Ex.new hd) (hx i x hi)
    · cases hi⟩
/-- a fraction's names -/
theorem g_fr {i j : Nat} {q : Rat} {Q : L2.St → Hp → Prop} (h : Fr K q v H) (k : Q ((σ.set i (some (.int q.num))).set j (some (.int (q.den : Int)))) H) : gTup K 2 (gCons (gName i) (gCons (gName j) gNil)) v σ H Q := by
  obtain ⟨a, rfl, s⟩ := h
  exact g_pair s k
end
theorem lcm_fdiv (b d : Nat) (hd : 0 < d) : ((b : Int) * (d : Int)).fdiv (Int.gcd (b : Int) (d : Int) : Int) = (Nat.lcm b d : Int) := by
  have h1 : (Int.gcd (b : Int) (d : Int) : Int) = ((Nat.gcd b d : Nat) : Int) := rfl
  rw [h1, Int.fdiv_eq_ediv_of_nonneg _ (Int.natCast_nonneg _)]
  unfold Nat.lcm
  push_cast
  rfl
section
variable {P : Program} {w : World} {K : PySem.W.Frag} {mg : Str → Option Value} {base : Heap}
/-! ### whole times -/
abbrev sWhole : Stmt := top 31
abbrev nWhole : List Str := ["fractions", "by", "top", "low"]
def WhP (K : PySem.W.Frag) (n a : Nat) (f : Nat → Rat) : V → Hp → Prop := fun v H => ∃ (T : Addr) (b : Nat) (t : V), v = .ref T ∧ SqT K H T [.int (b : Int), t] ∧ 0 < b ∧ b < 2 ^ (1 + n * a) ∧ TsP K n (fun i x _ => ∃ z : Int, x = .int z ∧ (z : Rat) = f i * (b : Rat)) t H
def spWhole (K : PySem.W.Frag) : Sp := fun vs H Q _ => ∃ (n a : Nat) (f : Nat → Rat) (x : V), vs = [x] ∧ RowP K n f x H ∧ (∀ i, i < n → Sz a (f i)) ∧ n ≤ 1000 ∧ 0 < a ∧ a ≤ 8000 ∧ n * a ≤ 500000 ∧ RetP (WhP K n a f) H Q
theorem scWhole : FnScope nWhole ["fractions"] (defScope sWhole) := ⟨rfl, rfl, rfl, by decide +kernel, rfl, by decide +kernel, by decide +kernel⟩
theorem whole_at {q : Rat} {b : Nat} (h : q.den ∣ b) : (((q.num * (b : Int)).fdiv (q.den : Int) : Int) : Rat) = q * (b : Rat) := by
  obtain ⟨c, rfl⟩ := h
  have d0 : (q.den : Int) ≠ 0 := den_int q
  have e : q.num * ((q.den * c : Nat) : Int) = (q.den : Int) * (q.num * (c : Int)) := by push_cast; grind
  rw [e, Int.fdiv_eq_ediv_of_dvd ⟨_, rfl⟩, Int.mul_ediv_cancel_left _ d0]
  have h1 := num_den q
  have h2 := den_ne q
  simp only [Rat.intCast_mul, Rat.intCast_natCast, Rat.natCast_mul]
  grind
theorem ok_whole {f fC : Addr} {fd fdC : FuncData} (F : Fun K "whole" "whole" sWhole f fd) (B : Bl2 mg) (Co : Has P w K mg base "common" 1 ["one", "other"] spCommon fC fdC) : FnOk P w K mg base CX0 2 f fd ["fractions"] (spWhole K) := by
  refine F.ok scWhole (fun vs H Q E h => ?_) (fun cdv A outer s H vs Q E hr h => ?_)
  · obtain ⟨n, a, f, x, rfl, _⟩ := h
    rfl
  · obtain ⟨n, a, f, x, rfl, hx, hs, hn, a0, a1, a2, k⟩ := h
    refine ⟨_, pss_cons (ps_set (i := 1) scWhole.nd rfl (.inr rfl) pe_int)
      (pss_cons (ps_for PassesOwn.never rfl (pi_list (pv 0)) (pg_tup rfl (pgs_cons (pg_name (i := 2) scWhole.nd rfl (.inl rfl)) (pgs_cons (pg_name (i := 3) scWhole.nd rfl (.inl rfl)) pgs_nil)))
        (pss_one (ps_set (i := 1) scWhole.nd rfl (.inr rfl) (pe_op op_fdivX (pe_op op_mulW (pv 1) (pv 3)) (pe_cl Co hr (pa_cons (pv 1) (pa_cons (pv 3) pa_nil)))))))
      (pss_one (ps_ret (pe_tup (pa_cons (pv 1) (pa_cons (pe_callTy call_tuple_of (by rfl) B.tuple (by decide +kernel) (pa_cons (pe_lc (own := [("top", 2), ("low", 3)]) (g := gTup K 2 (gCons (gName 2) (gCons (gName 3) gNil))) (tt := tYes) rfl scWhole.nd (pi_list (pv 0)) (blkOk_by (N := nWhole) (sc := defScope sWhole) (by decide +kernel))
          (fun _ _ _ _ _ => pgT K rfl rfl (pgs_cons (pg_name (i := 2) scWhole.nd rfl (.inl rfl)) (pgs_cons (pg_name (i := 3) scWhole.nd rfl (.inl rfl)) pgs_nil))) (fun _ _ _ _ _ => pts_nil) (fun _ _ _ _ _ => pe_op op_fdivX (pe_op op_mulW (pv 2) (pv 1)) (pv 3))) pa_nil)) pa_nil)))))), ?_⟩
    refine q_asg ev_c fun H1 e1 => ?_
    refine q_forP (sr_listP (ep_varM rfl (row_mono _ _ _ e1 hx) row_mono) fun _ => Fr.mono) (fun B i σ H' => Ex B H' ∧ ∃ (b : Nat) (y z : Option V), σ = [some x, some (.int (b : Int)), y, z] ∧ 0 < b ∧ (∀ j, j < i → (f j).den ∣ b) ∧ b < 2 ^ (1 + i * a))
      (fun H2 e2 => ⟨Ex.refl _, 1, _, _, rfl, by decide, fun j hj => absurd hj (Nat.not_lt_zero _), by simp⟩) (fun _ _ _ _ _ p => p.1) ?_ ?_
    · rintro B' i v σ H2 H3 hi eB ⟨e2, b, y, z, rfl, b0, hd, hb⟩ e3 hX
      refine g_fr hX ?_
      have sd := (hs i hi).den
      have dp := den_pos' (f i)
      have le : i * a ≤ n * a := Nat.mul_le_mul_right _ (by omega)
      have g0 : 0 < Int.gcd (b : Int) ((f i).den : Int) := Int.gcd_pos_of_ne_zero_right _ (den_int (f i))
      have gl : Int.gcd (b : Int) ((f i).den : Int) ≤ (f i).den := Nat.gcd_le_right _ dp
      refine sp_asg (P := fun v _ => v = .int (Nat.lcm b (f i).den : Int)) (ev_p (ev_is (ev_op (ev_mulW (m := 1 + i * a) (n := a) (ev_var rfl) (ev_var rfl) (by simpa using hb) (by simpa using sd) (by omega) a0 (by omega)) (ev_call (ea_cons (ev_var rfl) (ea_cons (ev_var rfl) ea_nil)) sv_common) (rv_I ⟨by omega, ?_⟩)) (by rw [lcm_fdiv b _ dp]))) fun v2 H4 e4 hv2 => ?_
      · refine PySem.Flt.log2_lt_of (by decide) ?_
        have : (f i).den < 2 ^ 9000 := pow_le9 sd (by omega)
        simpa using Nat.lt_of_le_of_lt gl this
      · subst hv2
        have el : Nat.lcm b (f i).den ≤ b * (f i).den := Nat.div_le_self _ _
        have lt : b * (f i).den < 2 ^ (1 + (i + 1) * a) := by
          have q : 1 + (i + 1) * a = (1 + i * a) + a := by rw [Nat.succ_mul]; omega
          rw [q, Nat.pow_add]
          exact Nat.mul_lt_mul'' hb sd
        refine ⟨(e2.trans e3).trans e4, _, _, _, rfl, Nat.lcm_pos b0 dp, fun j hj => ?_, by omega⟩
        by_cases z : j = i
        · subst z
          exact Nat.dvd_lcm_right _ _
        · exact Nat.dvd_trans (hd j (by omega)) (Nat.dvd_lcm_left _ _)
    · rintro B' σ H2 eB ⟨e2, b, y, z, rfl, b0, hd, hb⟩
      have hx2 := row_mono _ _ _ ((e1.trans eB).trans e2) hx
      refine sp_ret (P := WhP K n a f) (ep_w (ep_pair (P := fun v _ => v = .int (b : Int)) (ep_of (ev_var rfl) fun _ _ => rfl) mono_eq (ep_tuple (n := n) (Pi := fun i x _ => ∃ z : Int, x = .int z ∧ (z : Rat) = f i * (b : Rat)) (en_lc (sr_listP (ep_varM rfl hx2 row_mono) fun _ => Fr.mono) (by omega) (fun _ => fun _ _ _ _ q => q) ?_).p fun _ => fun _ _ _ _ q => q) (ts_mono fun _ => fun _ _ _ _ q => q)) fun v H3 e3 ⟨T, u, t, h1, h2, h3, h4⟩ => ⟨T, b, t, h1, h3 ▸ h2, b0, hb, h4⟩) (k.go ((e1.trans eB).trans e2))
      intro i v H3 hi e3 hX
      have sd := (hs i hi).den
      have dp := den_pos' (f i)
      have le : i * a ≤ n * a := Nat.mul_le_mul_right _ (by omega)
      refine ⟨_, fun Q q => g_fr hX q, rfl, EvP.d (fun D v H o o' _ _ q => q) (ep_of (ev_op (ev_mulW (m := a) (n := 1 + n * a) (ev_var rfl) (ev_var rfl) (hs i hi).num (by simpa using hb) a0 (by omega) (by omega)) (ev_var rfl) (rv_I ⟨den_int _, PySem.Flt.log2_lt_of (by decide) (by simpa using pow_le9 sd (by omega))⟩)) fun H4 e4 => ⟨_, rfl, whole_at (hd i hi)⟩)⟩
end
end EW
set_option Elab.async false
set_option linter.all false
set_option maxRecDepth 100000
set_option maxHeartbeats 4000000
set_option exponentiation.threshold 10000
namespace EW
open PySem PySem.Spec PyProof.Rows L2 Evl
/-- what a ROW comes to at a point -/
def rv (m : Nat) (r : Row) (z : Nat → Rat) : Rat := (r.1 : Rat) + SX.sm m (fun j => (r.2 j : Rat) * z j)
theorem sz_int {i : Int} {a : Nat} (h : i.natAbs < 2 ^ a) (a0 : 0 < a) : Sz a (i : Rat) := by
  have e1 : ((i : Rat)).num = i := rfl
  have e2 : ((i : Rat)).den = 1 := rfl
  exact ⟨by rw [e1]; exact h, by rw [e2]; exact Nat.one_lt_two_pow (by omega)⟩
section
variable {P : Program} {w : World} {K : PySem.W.Frag} {mg : Str → Option Value} {base : Heap}
/-- a ROW whose numbers are below 2 ^ 12 -/
structure Sml (m : Nat) (r : Row) : Prop where
  c : r.1.natAbs < 2 ^ 12
  k : ∀ j, j < m → (r.2 j).natAbs < 2 ^ 12
abbrev sValueAt : Stmt := top 34
abbrev nValueAt : List Str := ["row", "spot", "total", "by", "own"]
def spValueAt (K : PySem.W.Frag) : Sp := fun vs H Q _ => ∃ (m s : Nat) (r : Row) (z : Nat → Rat) (v u : V), vs = [v, u] ∧ RwP K m r v H ∧ RowP K m z u H ∧ Sml m r ∧ Cd s m z ∧ m ≤ 24 ∧ 0 < s ∧ s ≤ 3000 ∧ RetP (Fr K (rv m r z)) H Q
theorem scValueAt : FnScope nValueAt ["row", "spot"] (defScope sValueAt) := ⟨rfl, rfl, rfl, by decide +kernel, rfl, by decide +kernel, by decide +kernel⟩
theorem cd_rv {m s i : Nat} {r : Row} {z : Nat → Rat} {d : Int} (sm : Sml m r) (dl : d.natAbs < 2 ^ s) (hd : ∀ j, j < m → ∃ u : Int, (d : Rat) * z j = (u : Rat) ∧ u.natAbs < 2 ^ s) (hi : i ≤ m) : ∃ u : Int, (d : Rat) * ((r.1 : Rat) + SX.sm i (fun j => (r.2 j : Rat) * z j)) = (u : Rat) ∧ u.natAbs < (i + 1) * 2 ^ (12 + s) := by
  have p : 2 ^ (12 + s) = 2 ^ 12 * 2 ^ s := Nat.pow_add ..
  induction i with
  | zero =>
    refine ⟨r.1 * d, ?_, ?_⟩
    · simp only [SX.sm]
      rw [Rat.intCast_mul]
      grind
    · rw [Int.natAbs_mul, p, Nat.zero_add, Nat.one_mul]
      exact Nat.mul_lt_mul'' sm.c dl
  | succ i ih =>
    obtain ⟨u, e, ul⟩ := ih (by omega)
    obtain ⟨v, e2, vl⟩ := hd i (by omega)
    refine ⟨u + r.2 i * v, ?_, ?_⟩
    · simp only [SX.sm]
      rw [Rat.intCast_add, Rat.intCast_mul, ← e, ← e2]
      grind
    · have h1 : (r.2 i * v).natAbs < 2 ^ (12 + s) := by
        rw [Int.natAbs_mul, p]
        exact Nat.mul_lt_mul'' (sm.k i (by omega)) vl
      rw [Nat.succ_mul (i + 1)]
      omega
theorem pow5 {s : Nat} : 32 * 2 ^ (12 + s) = 2 ^ (s + 17) := by
  have : s + 17 = 5 + (12 + s) := by omega
  rw [this, Nat.pow_add 2 5 (12 + s)]
theorem sz_rv {m s i : Nat} {r : Row} {z : Nat → Rat} (sm : Sml m r) (cd : Cd s m z) (hi : i ≤ m) (m24 : m ≤ 24) : Sz (s + 17) ((r.1 : Rat) + SX.sm i (fun j => (r.2 j : Rat) * z j)) := by
  obtain ⟨d, d0, dl, hd⟩ := cd
  obtain ⟨u, e, ul⟩ := cd_rv sm dl hd hi
  obtain ⟨h1, h2⟩ := SX.size_of d0 e
  have h3 : (i + 1) * 2 ^ (12 + s) ≤ 32 * 2 ^ (12 + s) := Nat.mul_le_mul_right _ (by omega)
  rw [pow5] at h3
  have h4 : 2 ^ s ≤ 2 ^ (s + 17) := Nat.pow_le_pow_right (by decide) (by omega)
  exact ⟨by omega, by omega⟩
theorem ok_valueAt {f fA fP : Addr} {fd fdA fdP : FuncData} (F : Fun K "value_at" "value_at" sValueAt f fd) (B : Bl2 mg) (Ad : Has P w K mg base "added" 3 f2N (spFr2 K (fun _ => True) (· + ·)) fA fdA) (Pr : Has P w K mg base "product" 3 f2N (spFr2 K (fun _ => True) (· * ·)) fP fdP) :
    FnOk P w K mg base CX0 4 f fd ["row", "spot"] (spValueAt K) := by
  refine F.ok scValueAt (fun vs H Q E h => ?_) (fun cdv A outer s H vs Q E hr h => ?_)
  · obtain ⟨m, s, r, z, v, u, rfl, _⟩ := h
    rfl
  · obtain ⟨m, s, r, z, v, u, rfl, hv, hu, sm, cd, hm, s0, s1, k⟩ := h
    refine ⟨_, pss_cons (ps_set (i := 2) scValueAt.nd rfl (.inl rfl) (pe_tup (pa_cons (pe_ix ix_tup (pv 0) pe_int (fun _ _ => rfl)) (pa_cons pe_int pa_nil))))
      (pss_cons (ps_for PassesOwn.never rfl (pi_zipM (by rfl) B.zip (pa_cons (pe_ix ix_tup (pv 0) pe_int (fun _ _ => rfl)) (pa_cons (pv 1) pa_nil))) (pg_tup rfl (pgs_cons (pg_name (i := 3) scValueAt.nd rfl (.inl rfl)) (pgs_cons (pg_name (i := 4) scValueAt.nd rfl (.inl rfl)) pgs_nil)))
        (pss_one (ps_set (i := 2) scValueAt.nd rfl (.inl rfl) (pe_cl Ad hr (pa_cons (pv 2) (pa_cons (pe_cl Pr hr (pa_cons (pe_tup (pa_cons (pv 3) (pa_cons pe_int pa_nil))) (pa_cons (pv 4) pa_nil))) pa_nil))))))
      (pss_one (ps_ret (pv 2)))), ?_⟩
    refine qp_asg (P := Fr K (r.1 : Rat)) (ep_int1 (ev_row0 (ep_varM rfl hv rw_mono))) fun t H1 e1 ht => ?_
    refine q_forP (sr_zipM (ap_two intsT_mono (ep_row1 (ep_varM rfl (rw_mono _ _ _ e1 hv) rw_mono)) (ep_varM rfl (row_mono _ _ _ e1 hu) row_mono)) (fun _ => mono_eq) fun _ => Fr.mono)
      (fun B i σ H' => Ex B H' ∧ ∃ t x y, σ = [some v, some u, some t, x, y] ∧ Fr K ((r.1 : Rat) + SX.sm i (fun j => (r.2 j : Rat) * z j)) t H') (fun H2 e2 => ⟨Ex.refl _, _, _, _, rfl, fr_cast (by simp only [SX.sm]; grind) (Fr.mono _ _ _ e2 ht)⟩) (fun _ _ _ _ _ p => p.1) ?_ ?_
    · rintro B' i x σ H2 H3 hi eB ⟨e2, t, y1, y2, rfl, ht⟩ e3 ⟨T', p1, p2, rfl, hT, rfl, h2⟩
      refine g_pair hT ?_
      refine sp_asg (ep_fr2 (s + 17) (12 + s) (ep_varM rfl (Fr.mono _ _ _ e3 ht) Fr.mono) (ep_fr2 12 s (ep_int1 (ev_var rfl)) (ep_varM rfl h2 Fr.mono) (sz_int (sm.k i hi) (by decide)) (cd.sz hi) ⟨by decide, s0, by omega⟩ trivial) (sz_rv sm cd (by omega) hm) ((sz_int (sm.k i hi) (by decide)).mul (cd.sz hi)) ⟨by omega, by omega, by omega⟩ trivial) fun t2 H4 e4 ht2 => ?_
      refine ⟨(e2.trans e3).trans e4, _, _, _, rfl, fr_cast ?_ ht2⟩
      simp only [SX.sm]
      grind
    · rintro B' σ H2 eB ⟨e2, t, y1, y2, rfl, ht⟩
      exact sp_ret (ep_varM rfl ht Fr.mono) (k.go ((e1.trans eB).trans e2))
/-! ### prices turned -/
abbrev sTurned : Stmt := top 35
abbrev nTurned : List Str := ["prices", "found", "own"]
def TuP (K : PySem.W.Frag) (m : Nat) (g : Nat → Rat) : V → Hp → Prop := fun v H => ∃ T a b, v = .ref T ∧ SqT K H T [a, b] ∧ RowP K m (fun k => 0 - g k) a H ∧ Fr K (0 - g m) b H
theorem tu_mono {m : Nat} {g : Nat → Rat} : Mono (TuP K m g) := fun v H H' e ⟨T, a, b, h1, h2, h3, h4⟩ => ⟨T, a, b, h1, ex_t e h2, row_mono _ _ _ e h3, Fr.mono _ _ _ e h4⟩
def spTurned (K : PySem.W.Frag) : Sp := fun vs H Q _ => ∃ (m a : Nat) (g : Nat → Rat) (x : V), vs = [x] ∧ RowP K (m + 1) g x H ∧ (∀ i, i < m + 1 → Sz a (g i)) ∧ m ≤ 1000 ∧ 0 < a ∧ a ≤ 8000 ∧ RetP (TuP K m g) H Q
theorem scTurned : FnScope nTurned ["prices"] (defScope sTurned) := ⟨rfl, rfl, rfl, by decide +kernel, rfl, by decide +kernel, by decide +kernel⟩
theorem ok_turned {f fD aN : Addr} {fd fdD : FuncData} (F : Fun K "turned_prices" "turned_prices" sTurned f fd) (N : FrC K mg "NOTHING" 0 aN) (D : Has P w K mg base "difference" 3 f2N (spFr2 K (fun _ => True) (· - ·)) fD fdD) : FnOk P w K mg base CX0 4 f fd ["prices"] (spTurned K) := by
  refine F.ok scTurned (fun vs H Q E h => ?_) (fun cdv A outer s H vs Q E hr h => ?_)
  · obtain ⟨m, a, g, x, rfl, _⟩ := h
    rfl
  · obtain ⟨m, a, g, x, rfl, hx, sz, hm, a0, a1, k⟩ := h
    refine ⟨_, pss_cons (ps_setLc (i := 1) (own := [("own", 2)]) (g := gName 2) (tt := tYes) rfl scTurned.nd rfl rfl (sw_true rfl rfl rfl (by decide +kernel)) (pi_list (pv 0)) (blkOk_by (N := nTurned) (sc := defScope sTurned) (by decide +kernel))
        (fun _ _ _ _ _ => pg_name (i := 2) scTurned.nd rfl (.inl rfl)) (fun _ _ _ _ _ => pts_nil) (fun _ _ _ _ _ => pe_cl D hr (pa_cons (pe_glob (v := .ref aN) rfl N.gl rfl) (pa_cons (pv 2) pa_nil))))
      (pss_one (ps_ret (pe_tup (pa_cons (pe_slice sl_list (pv 1) po_none (po_some (pe_un un_neg pe_int))) (pa_cons (pe_ix ix_list (pv 1) (pe_un un_neg pe_int) (fun _ _ => rfl)) pa_nil))))), ?_⟩
    refine qn_asg (en_lc (Pi := fun i => Fr K (0 - g i)) (sr_listP (ep_varM rfl hx row_mono) fun _ => Fr.mono) (by omega) (fun _ => Fr.mono) ?_) fun l H1 l0 e1 hl => ?_
    · intro i v H2 hi e2 hX
      exact ⟨_, fun Q q => q, rfl, EvP.d tst_fr (ep_fr2 1 a (ep_of ev_c fun H3 _ => N.fr H3) (ep_varM rfl hX Fr.mono) (sz0 (by decide)) (sz i hi) ⟨by decide, a0, by omega⟩ trivial)⟩
    · refine sp_ret (ep_w (ep_pair (ep_cutL (ep_varM rfl hl row_mono) fun _ => Fr.mono) row_mono (ep_ixZ (ep_varM rfl hl row_mono) fun _ => Fr.mono) Fr.mono) fun v H2 e2 q => q) (k.go e1)
/-! ### spot_of -/
abbrev sSpotOf : Stmt := top 36
abbrev nSpotOf : List Str := ["prices", "way", "low", "own"]
def spSpotOf (K : PySem.W.Frag) : Sp := fun vs H Q _ => ∃ (m a : Nat) (g : Nat → Rat) (x : V), vs = [x] ∧ RowP K (m + 1) g x H ∧ (∀ i, i < m + 1 → Sz a (g i)) ∧ m ≤ 1000 ∧ 0 < a ∧ a ≤ 4000 ∧ g m ≠ 0 ∧
  ∀ p H2, H p = none → Ex H H2 → RowP K m (fun k => (0 - g k) / (0 - g m)) (.ref p) H2 → Q (.ref p) H2
theorem scSpotOf : FnScope nSpotOf ["prices"] (defScope sSpotOf) := ⟨rfl, rfl, rfl, by decide +kernel, rfl, by decide +kernel, by decide +kernel⟩
theorem sz_turn {a : Nat} {q : Rat} (h : Sz a q) : Sz (a + 2) (0 - q) := ((sz0 (a := 1) (by decide)).sub h).mono (by omega)
theorem q_two {te : TE} {σ : L2.St} {H : Hp} {D : Ends} {tz : TS} {i j : Nat} {A B : V → Hp → Prop} {Pz : V → Hp → Prop} (h : EvP te σ H Pz) (hz : ∀ v H, Pz v H → ∃ T a b, v = .ref T ∧ SqT K H T [a, b] ∧ A a H ∧ B b H) (k : ∀ a b H1, Ex H H1 → A a H1 → B b H1 → tz D ((σ.set i (some a)).set j (some b)) H1) :
    tSeq (tAsg te (gTup K 2 (gCons (gName i) (gCons (gName j) gNil)))) tz D σ H := h H (Ex.refl H) _ fun v H1 e1 pv => by
  obtain ⟨T, a, b, rfl, s, ha, hb⟩ := hz v H1 pv
  exact g_pair s (k a b H1 e1 ha hb)
theorem ok_spotOf {f fT fQ : Addr} {fd fdT fdQ : FuncData} (F : Fun K "spot_of" "spot_of" sSpotOf f fd) (Tu : Has P w K mg base "turned_prices" 4 ["prices"] (spTurned K) fT fdT) (Qu : Has P w K mg base "quotient" 3 f2N (spFr2 K (fun q => q ≠ 0) (· / ·)) fQ fdQ) : FnOk P w K mg base CX0 5 f fd ["prices"] (spSpotOf K) := by
  refine F.ok scSpotOf (fun vs H Q E h => ?_) (fun cdv A outer s H vs Q E hr h => ?_)
  · obtain ⟨m, a, g, x, rfl, _⟩ := h
    rfl
  · obtain ⟨m, a, g, x, rfl, hx, sz, hm, a0, a1, nz, k⟩ := h
    refine ⟨_, pss_cons (ps_asg (pe_cl Tu hr (pa_cons (pv 0) pa_nil)) (pg_tup rfl (pgs_cons (pg_name (i := 1) scSpotOf.nd rfl (.inl rfl)) (pgs_cons (pg_name (i := 2) scSpotOf.nd rfl (.inr rfl)) pgs_nil))))
      (pss_one (ps_ret (pe_lc (own := [("own", 3)]) (g := gName 3) (tt := tYes) rfl scSpotOf.nd (pi_list (pv 1)) (blkOk_by (N := nSpotOf) (sc := defScope sSpotOf) (by decide +kernel))
        (fun _ _ _ _ _ => pg_name (i := 3) scSpotOf.nd rfl (.inl rfl)) (fun _ _ _ _ _ => pts_nil) (fun _ _ _ _ _ => pe_cl Qu (hr.mono (by decide)) (pa_cons (pv 3) (pa_cons (pv 2) pa_nil)))))), ?_⟩
    refine q_two (A := RowP K m fun k => 0 - g k) (B := Fr K (0 - g m)) (ep_callV (P := TuP K m g) (ea_cons (ev_var rfl) ea_nil) fun H1 e1 Q q => ⟨m, a, g, x, rfl, row_mono _ _ _ e1 hx, sz, hm, a0, by omega, q⟩) (fun v H ⟨T, a, b, h1, h2, h3, h4⟩ => ⟨T, a, b, h1, h2, h3, h4⟩) fun wy lo H1 e1 hw hl => ?_
    refine sn_ret (en_lc (Pi := fun k => Fr K ((0 - g k) / (0 - g m))) (sr_listP (ep_varM rfl hw row_mono) fun _ => Fr.mono) (by omega) (fun _ => Fr.mono) ?_) fun p H2 hp e2 q => k p H2 (fresh_back e1 hp) (e1.trans e2) q
    intro i v H2 hi e2 hX
    exact ⟨_, fun Q q => q, rfl, EvP.d tst_fr (ep_fr2 (a + 2) (a + 2) (ep_varM rfl hX Fr.mono) (ep_varM rfl (Fr.mono _ _ _ e2 hl) Fr.mono) (sz_turn (sz i (by omega))) (sz_turn (sz m (by omega))) ⟨by omega, by omega, by omega⟩ (by grind))⟩
end
end EW
set_option linter.all false
namespace SX
/-! ### rows at points -/
def val (m : Nat) (c : Rat) (k z : Nat → Rat) : Rat := c + sm m (fun j => k j * z j)
/-- a ROW as a column -/
def colQ (m : Nat) (c : Rat) (k : Nat → Rat) : Nat → Rat := fun j => if j < m then k j else c
theorem sm_col (m : Nat) (c : Rat) (k g : Nat → Rat) : sm (m + 1) (fun j => g j * colQ m c k j) = sm m (fun j => g j * k j) + g m * c := by
  show sm m _ + g m * colQ m c k m = _
  have h1 : sm m (fun j => g j * colQ m c k j) = sm m (fun j => g j * k j) := sm_congr fun j hj => by
    unfold colQ
    rw [if_pos hj]
  have h2 : colQ m c k m = c := by
    unfold colQ
    rw [if_neg (Nat.lt_irrefl m)]
  rw [h1, h2]
theorem val_div {m : Nat} {c : Rat} {k g : Nat → Rat} (nz : g m ≠ 0) : val m c k (fun j => (0 - g j) / (0 - g m)) * (0 - g m) = - sm (m + 1) (fun j => g j * colQ m c k j) := by
  rw [sm_col]
  unfold val
  have e : sm m (fun j => k j * ((0 - g j) / (0 - g m))) * (0 - g m) = - sm m (fun j => g j * k j) := by
    rw [← sm_neg, Rat.mul_comm, ← sm_mul]
    refine sm_congr fun j hj => ?_
    grind
  grind
theorem val_add {m : Nat} {c t : Rat} {k z w : Nat → Rat} : val m c k (fun j => z j + t * w j) = val m c k z + t * sm m (fun j => k j * w j) := by
  unfold val
  have e : sm m (fun j => k j * (z j + t * w j)) = sm m (fun j => k j * z j) + t * sm m (fun j => k j * w j) := by
    rw [← sm_mul, ← sm_add]
    refine sm_congr fun j hj => ?_
    grind
  grind
/-- rows by times: what they come to -/
theorem val_times {n m : Nat} {c : Nat → Rat} {k : Nat → Nat → Rat} {f z : Nat → Rat} : sm n (fun i => f i * val m (c i) (k i) z) = sm n (fun i => f i * c i) + sm m (fun j => sm n (fun i => f i * k i j) * z j) := by
  have e1 : sm n (fun i => f i * val m (c i) (k i) z) = sm n (fun i => f i * c i + f i * sm m (fun j => k i j * z j)) := sm_congr fun i hi => by
    unfold val
    grind
  rw [e1, sm_add]
  have e2 : sm n (fun i => f i * sm m (fun j => k i j * z j)) = sm n (fun i => sm m (fun j => f i * (k i j * z j))) := sm_congr fun i hi => (sm_mul m _ _).symm
  rw [e2, sm_swap]
  have e3 : sm m (fun j => sm n (fun i => f i * (k i j * z j))) = sm m (fun j => sm n (fun i => f i * k i j) * z j) := sm_congr fun j hj => by
    rw [Rat.mul_comm, ← sm_mul]
    exact sm_congr fun i hi => by grind
  rw [e3]
section
variable {n m : Nat} {c : Nat → Rat} {k : Nat → Nat → Rat} {c0 : Rat} {k0 f g z : Nat → Rat}
/-- times that come to a row: it follows -/
theorem follows_of (nn : ∀ i, i < n → 0 ≤ f i) (fl : 0 ≤ f n) (hk : ∀ j, j < m → sm n (fun i => f i * k i j) = k0 j) (hc : sm n (fun i => f i * c i) + f n = c0) (hz : ∀ i, i < n → 0 ≤ val m (c i) (k i) z) : 0 ≤ val m c0 k0 z := by
  have h := val_times (n := n) (m := m) (c := c) (k := k) (f := f) (z := z)
  have h2 : 0 ≤ sm n (fun i => f i * val m (c i) (k i) z) := sm_nonneg fun i hi => Rat.mul_nonneg (nn i hi) (hz i hi)
  have h3 : sm m (fun j => sm n (fun i => f i * k i j) * z j) = sm m (fun j => k0 j * z j) := sm_congr fun j hj => by rw [hk j hj]
  rw [h3] at h
  unfold val
  grind
/-- times that come to less than 0: nothing holds -/
theorem never_of (nn : ∀ i, i < n → 0 ≤ f i) (hk : ∀ j, j < m → sm n (fun i => f i * k i j) = 0) (hc : sm n (fun i => f i * c i) < 0) : ¬ ∀ i, i < n → 0 ≤ val m (c i) (k i) z := fun hz => by
  have h := val_times (n := n) (m := m) (c := c) (k := k) (f := f) (z := z)
  have h2 : 0 ≤ sm n (fun i => f i * val m (c i) (k i) z) := sm_nonneg fun i hi => Rat.mul_nonneg (nn i hi) (hz i hi)
  have h3 : sm m (fun j => sm n (fun i => f i * k i j) * z j) = 0 := sm_zero fun j hj => by rw [hk j hj]; grind
  grind
/-- prices whose last one is below 0: a point -/
theorem point_pos (neg : g m < 0) (b : sm (m + 1) (fun j => g j * colQ m c0 k0 j) ≤ 0) : 0 ≤ val m c0 k0 (fun j => (0 - g j) / (0 - g m)) := by
  have nz : g m ≠ 0 := by grind
  have h := val_div (m := m) (c := c0) (k := k0) (g := g) nz
  by_cases q : 0 ≤ val m c0 k0 (fun j => (0 - g j) / (0 - g m))
  · exact q
  · have q : val m c0 k0 (fun j => (0 - g j) / (0 - g m)) < 0 := by grind
    have := Rat.mul_pos (show 0 < - val m c0 k0 (fun j => (0 - g j) / (0 - g m)) by grind) (show 0 < 0 - g m by grind)
    grind
theorem point_neg (neg : g m < 0) (b : 0 < sm (m + 1) (fun j => g j * colQ m c0 k0 j)) : val m c0 k0 (fun j => (0 - g j) / (0 - g m)) < 0 := by
  have nz : g m ≠ 0 := by grind
  have h := val_div (m := m) (c := c0) (k := k0) (g := g) nz
  by_cases q : val m c0 k0 (fun j => (0 - g j) / (0 - g m)) < 0
  · exact q
  · have q : 0 ≤ val m c0 k0 (fun j => (0 - g j) / (0 - g m)) := by grind
    have := Rat.mul_nonneg q (show 0 ≤ 0 - g m by grind)
    grind
theorem way_of (z0 : g m = 0) : sm m (fun j => k0 j * (0 - g j)) = - sm (m + 1) (fun j => g j * colQ m c0 k0 j) := by
  rw [sm_col, z0]
  have : sm m (fun j => k0 j * (0 - g j)) = - sm m (fun j => g j * k0 j) := by
    rw [← sm_neg]
    exact sm_congr fun j hj => by grind
  grind
end
end SX
set_option Elab.async false
set_option linter.all false
set_option maxRecDepth 100000
set_option maxHeartbeats 4000000
set_option exponentiation.threshold 10000
namespace EW
open PySem PySem.Spec PyProof.Rows L2 Evl
theorem rv_val (m : Nat) (r : Row) (z : Nat → Rat) : rv m r z = SX.val m (r.1 : Rat) (fun j => (r.2 j : Rat)) z := rfl
def Hold (m n : Nat) (R : Nat → Row) (z : Nat → Rat) : Prop := ∀ i, i < n → 0 ≤ rv m (R i) z
def colsOf (n m : Nat) (R : Nat → Row) : Nat → Nat → Int := fun j => if j < n then colOf m (R j) else restCol m
theorem col_q (m : Nat) (r : Row) (k : Nat) : (colOf m r k : Rat) = SX.colQ m (r.1 : Rat) (fun j => (r.2 j : Rat)) k := by
  unfold colOf SX.colQ
  split <;> rfl
structure Rb (A M m n : Nat) (R : Nat → Row) : Prop where
  c : ∀ i, i < n → (R i).1.natAbs ≤ M
  k : ∀ i, i < n → ∀ j, j < m → ((R i).2 j).natAbs ≤ A
def bd (m A M : Nat) : Nat → Nat := fun i => if i < m then A else M
structure Mb (m A M : Nat) : Prop where
  A1 : 1 ≤ A
  AM : A ≤ M
  M8 : M < 2 ^ 12
  D : (m + 2) * SX.PD (m + 1) (bd m A M) < 2 ^ 112
  m5 : m ≤ 24
theorem bds_of {n m A M : Nat} {R : Nat → Row} {goal : Nat → Int} (mb : Mb m A M) (rb : Rb A M m n R) (hn : n ≤ 60) (hg : ∀ i, i < m + 1 → (goal i).natAbs ≤ bd m A M i) : Bds (n + 1) (m + 1) M 112 (colsOf n m R) goal :=
  have A1 := mb.A1
  have AM := mb.AM
  have m24 := mb.m5
  have hM : ∀ i, i < m + 1 → 1 ≤ bd m A M i := fun i _ => by
    unfold bd
    split <;> omega
  have hc : ∀ j i, j < n + 1 → i < m + 1 → (colsOf n m R j i).natAbs ≤ bd m A M i := fun j i hj hi => by
    unfold colsOf colOf restCol bd
    split
    · rename_i h
      dsimp only
      split
      · exact rb.k j h i (by assumption)
      · exact rb.c j h
    · dsimp only
      split
      · simp
      · show 1 ≤ M; omega
  have le : ∀ i, bd m A M i ≤ M := fun i => by
    unfold bd
    split <;> omega
  { n1 := by omega
    h1 := by omega
    M0 := by omega
    cM := fun j i hj hi => Nat.le_trans (hc j i hj hi) (le i)
    gM := fun i hi => Nat.le_trans (hg i hi) (le i)
    Ma := Nat.lt_of_lt_of_le mb.M8 (Nat.pow_le_pow_right (by decide) (by decide))
    Da := szT_of hM hc hg mb.D
    Dc := cc_of hM hc hg mb.D
    ha := by omega
    a0 := by decide
    a1 := by decide }
/-- times of ROWS that come to less than 0 -/
structure Nev (n m : Nat) (R : Nat → Row) (f : Nat → Rat) : Prop where
  nn : ∀ i, i < n → 0 ≤ f i
  k : ∀ j, j < m → SX.sm n (fun i => f i * ((R i).2 j : Rat)) = 0
  c : SX.sm n (fun i => f i * ((R i).1 : Rat)) < 0
theorem Nev.no {n m : Nat} {R : Nat → Row} {f z : Nat → Rat} (h : Nev n m R f) : ¬ Hold m n R z := SX.never_of (c := fun i => ((R i).1 : Rat)) (k := fun i j => ((R i).2 j : Rat)) h.nn h.k h.c
theorem cd_quot {D m : Nat} {g : Nat → Rat} (h : Cd D (m + 1) g) (nz : g m ≠ 0) : Cd D m (fun k => (0 - g k) / (0 - g m)) := by
  obtain ⟨d, d0, dl, hd⟩ := h
  obtain ⟨w, ew, wl⟩ := hd m (by omega)
  have dq : (d : Rat) ≠ 0 := by exact_mod_cast d0
  have wq : (w : Rat) ≠ 0 := by
    rw [← ew]
    exact fun z => (Rat.mul_eq_zero.mp z).elim dq nz
  refine ⟨w, fun z => wq (by rw [z]; rfl), wl, fun j hj => ?_⟩
  obtain ⟨u, eu, ul⟩ := hd j (by omega)
  refine ⟨u, ?_, ul⟩
  rw [← eu, ← ew]
  show (d : Rat) * g m * ((0 - g j) / (0 - g m)) = (d : Rat) * g j
  have nz' : 0 - g m ≠ 0 := by grind
  have c := Rat.div_mul_cancel (a := 0 - g j) nz'
  generalize (0 - g j) / (0 - g m) = q at c ⊢
  grind
def goalN (m : Nat) : Nat → Int := fun j => if j < m then 0 else -1
theorem sm_cols {n m : Nat} {R : Nat → Row} {f : Nat → Rat} {k : Nat} : SX.sm (n + 1) (fun j => (colsOf n m R j k : Rat) * f j) = SX.sm n (fun i => f i * (colOf m (R i) k : Rat)) + (restCol m k : Rat) * f n := by
  show SX.sm n _ + (colsOf n m R n k : Rat) * f n = _
  have h1 : SX.sm n (fun j => (colsOf n m R j k : Rat) * f j) = SX.sm n (fun i => f i * (colOf m (R i) k : Rat)) := SX.sm_congr fun j hj => by
    unfold colsOf
    rw [if_pos hj]
    grind
  have h2 : colsOf n m R n k = restCol m k := by
    unfold colsOf
    rw [if_neg (Nat.lt_irrefl n)]
  rw [h1, h2]
theorem nev_of {n m : Nat} {R : Nat → Row} {f : Nat → Rat} {a : Nat} (y : Yes (n + 1) (m + 1) a (colsOf n m R) (goalN m) f) : Nev n m R f where
  nn := fun i _ => y.nn i
  k := fun j hj => by
    have h := y.come j (by omega)
    rw [sm_cols] at h
    have h1 : restCol m j = 0 := if_pos hj
    have h2 : goalN m j = 0 := if_pos hj
    rw [h1, h2] at h
    have h3 : SX.sm n (fun i => f i * (colOf m (R i) j : Rat)) = SX.sm n (fun i => f i * ((R i).2 j : Rat)) := SX.sm_congr fun i hi => by
      unfold colOf
      rw [if_pos hj]
    rw [h3] at h
    have e : ((0 : Int) : Rat) = 0 := rfl
    rw [e] at h
    grind
  c := by
    have h := y.come m (by omega)
    rw [sm_cols] at h
    have h1 : restCol m m = 1 := if_neg (Nat.lt_irrefl m)
    have h2 : goalN m m = -1 := if_neg (Nat.lt_irrefl m)
    rw [h1, h2] at h
    have h3 : SX.sm n (fun i => f i * (colOf m (R i) m : Rat)) = SX.sm n (fun i => f i * ((R i).1 : Rat)) := SX.sm_congr fun i hi => by
      unfold colOf
      rw [if_neg (Nat.lt_irrefl m)]
    rw [h3] at h
    have := y.nn n
    have e : ((1 : Int) : Rat) = 1 := rfl
    have e' : ((-1 : Int) : Rat) = -1 := rfl
    rw [e, e'] at h
    grind
theorem bar_row {n m a : Nat} {R : Nat → Row} {goal : Nat → Int} {g : Nat → Rat} (w : No (n + 1) (m + 1) a (colsOf n m R) goal g) {i : Nat} (hi : i < n) : SX.sm (m + 1) (fun k => g k * SX.colQ m ((R i).1 : Rat) (fun j => ((R i).2 j : Rat)) k) ≤ 0 := by
  have h := w.bar i (by omega)
  have e : SX.sm (m + 1) (fun k => g k * (colsOf n m R i k : Rat)) = SX.sm (m + 1) (fun k => g k * SX.colQ m ((R i).1 : Rat) (fun j => ((R i).2 j : Rat)) k) := SX.sm_congr fun k hk => by
    unfold colsOf
    rw [if_pos hi, col_q]
  rw [e] at h
  exact h
theorem bar_rest {n m a : Nat} {R : Nat → Row} {goal : Nat → Int} {g : Nat → Rat} (w : No (n + 1) (m + 1) a (colsOf n m R) goal g) : g m ≤ 0 := by
  have h := w.bar n (by omega)
  have e : SX.sm (m + 1) (fun k => g k * (colsOf n m R n k : Rat)) = g m := by
    show SX.sm m _ + g m * (colsOf n m R n m : Rat) = _
    have h1 : SX.sm m (fun k => g k * (colsOf n m R n k : Rat)) = 0 := SX.sm_zero fun k hk => by
      have : colsOf n m R n k = 0 := by
        unfold colsOf restCol
        rw [if_neg (Nat.lt_irrefl n), if_pos hk]
      rw [this]
      have e : ((0 : Int) : Rat) = 0 := rfl
      grind
    have h2 : colsOf n m R n m = 1 := by
      unfold colsOf restCol
      rw [if_neg (Nat.lt_irrefl n), if_neg (Nat.lt_irrefl m)]
    rw [h1, h2]
    have e : ((1 : Int) : Rat) = 1 := rfl
    grind
  rw [e] at h
  exact h
theorem spot_pos {n m a : Nat} {R : Nat → Row} {g : Nat → Rat} (w : No (n + 1) (m + 1) a (colsOf n m R) (goalN m) g) : g m < 0 := by
  have h := w.pos
  have e : SX.sm (m + 1) (fun k => g k * (goalN m k : Rat)) = - g m := by
    show SX.sm m _ + g m * (goalN m m : Rat) = _
    have h1 : SX.sm m (fun k => g k * (goalN m k : Rat)) = 0 := SX.sm_zero fun k hk => by
      have : goalN m k = 0 := if_pos hk
      rw [this]
      have e : ((0 : Int) : Rat) = 0 := rfl
      grind
    have h2 : goalN m m = -1 := if_neg (Nat.lt_irrefl m)
    rw [h1, h2]
    have e' : ((-1 : Int) : Rat) = -1 := rfl
    grind
  rw [e] at h
  grind
section
variable {K : PySem.W.Frag} {σ : L2.St} {H H' F : Hp} {ta tb te tx tl : TE} {P P' : V → Hp → Prop} {n m : Nat} {Pi Pj : Nat → V → Hp → Prop} {v : V}
theorem en_callV {sp : Sp} {dvs vs : List V} {E : XK} {ta : TA} (h : EvA ta σ H vs) (hs : ∀ H1, Ex H H1 → ∀ Q : VK, (∀ p H2, H1 p = none → Ex H1 H2 → P (.ref p) H2 → Q (.ref p) H2) → sp (vs ++ dvs) H1 Q E) : EvN (tCall sp dvs E ta) σ H P := fun H1 e Q q =>
  h H1 e _ fun H2 e2 => hs H2 (e.trans e2) Q fun p H3 hp e3 k => q p H3 (fresh_back e2 hp) (e2.trans e3) k
theorem q_two2 {D : Ends} {tz : TS} {i j : Nat} {AB : V → V → Hp → Prop} {Pz : V → Hp → Prop} (h : EvP te σ H Pz) (hz : ∀ v H, Pz v H → ∃ T a b, v = .ref T ∧ SqT K H T [a, b] ∧ AB a b H) (k : ∀ a b H1, Ex H H1 → AB a b H1 → tz D ((σ.set i (some a)).set j (some b)) H1) :
    tSeq (tAsg te (gTup K 2 (gCons (gName i) (gCons (gName j) gNil)))) tz D σ H := h H (Ex.refl H) _ fun v H1 e1 pv => by
  obtain ⟨T, a, b, rfl, s, hab⟩ := hz v H1 pv
  exact g_pair s (k a b H1 e1 hab)
def PartsAB (K : PySem.W.Frag) (n h a : Nat) (col : Nat → Nat → Int) (goal : Nat → Int) : V → V → Hp → Prop := fun w q H => (w = .str "parts" ∧ ∃ f, RowP K n f q H ∧ Yes n h a col goal f) ∨ (w = .str "prices" ∧ ∃ f, RowP K h f q H ∧ No n h a col goal f)
theorem partsAB {h a : Nat} {col : Nat → Nat → Int} {goal : Nat → Int} : ∀ v H, PartsR K n h a col goal v H → ∃ T a' b, v = .ref T ∧ SqT K H T [a', b] ∧ PartsAB K n h a col goal a' b H := by
  rintro v H ⟨T, q, f, rfl, ⟨h1, h2, h3⟩ | ⟨h1, h2, h3⟩⟩
  · exact ⟨T, _, q, rfl, h1, .inl ⟨rfl, f, h2, h3⟩⟩
  · exact ⟨T, _, q, rfl, h1, .inr ⟨rfl, f, h2, h3⟩⟩
/-- [..] + [e], lists of lists -/
theorem en_snoc {h : Nat} {c : Nat → Nat → Int} {d : Nat → Int} (ha : EvN ta σ H (LsN n fun i => IntsP h (c i))) (hb : EvP tb σ H (IntsP h d)) (hz : n ≤ 40000) :
    EvN (tOp rCat ta (tLst (tCons tb tNil))) σ H (ColsP (n + 1) h fun j => if j < n then c j else d) := fun H1 e Q q => by
  show ta σ H1 fun x G => (tLst (tCons tb tNil)) σ G fun w G4 => rCat x w G4 Q
  refine ha H1 e _ fun p H2 hp e2 ⟨p', xs, ep, h1, h2, h3⟩ => ?_
  cases ep
  show tb σ H2 fun x G => [x].length ≤ sizeLine ∧ ∀ l, G l = none → rCat (.ref p) (.ref l) (upd G l (.lst [x])) Q
  refine hb H2 (e.trans e2) _ fun x H3 e3 hx => ⟨by show 1 ≤ sizeLine; decide, fun l hl => ?_⟩
  have e4 : Ex H3 (upd H3 l (.lst [x])) := Ex.new hl
  refine ⟨p, l, xs, [x], rfl, rfl, e4 _ _ (e3 _ _ h1), upd_same, sz_of (by simp; omega), fun r hr => q r _ (fresh_back ((e2.trans e3).trans e4) hr) (((e2.trans e3).trans e4).trans (Ex.new hr)) ⟨r, _, rfl, upd_same, by simp [h2], fun i y hi => ?_⟩⟩
  show IntsP h (if i < n then c i else d) y _
  rw [List.getElem?_append] at hi
  split at hi
  · rw [if_pos (by omega)]
    exact ints_mono _ _ _ ((e3.trans e4).trans (Ex.new hr)) (h3 i y hi).1
  · have h0 : i - xs.length < 1 := by have := (List.getElem?_eq_some_iff.mp hi).1; simpa using this
    rw [if_neg (by omega)]
    have : i - xs.length = 0 := by omega
    rw [this] at hi
    simp at hi
    subst hi
    exact ints_mono _ _ _ (e4.trans (Ex.new hr)) hx
end
section
variable {P : Program} {w : World} {K : PySem.W.Frag} {mg : Str → Option Value} {base : Heap}
abbrev sSomeSpot : Stmt := top 37
abbrev nSomeSpot : List Str := ["many", "rows", "columns", "word", "found", "row"]
def SomeP (K : PySem.W.Frag) (n m : Nat) (R : Nat → Row) : V → Hp → Prop := fun v H => (∃ T ti f, v = .ref T ∧ SqT K H T [ti, .non] ∧ RowP K n f ti H ∧ (∀ i, i < n → Sz 112 (f i)) ∧ Nev n m R f) ∨
  (∃ T sp z, v = .ref T ∧ SqT K H T [.non, sp] ∧ RowP K m z sp H ∧ Cd 113 m z ∧ Hold m n R z)
def spSomeSpot (K : PySem.W.Frag) : Sp := fun vs H Q _ => ∃ (n m A M : Nat) (R : Nat → Row) (v : V), vs = [.int (m : Int), v] ∧ RwsP K n m R v H ∧ Mb m A M ∧ Rb A M m n R ∧ n ≤ 60 ∧ RetP (SomeP K n m R) H Q
theorem scSomeSpot : FnScope nSomeSpot ["many", "rows"] (defScope sSomeSpot) := ⟨rfl, rfl, rfl, by decide +kernel, rfl, by decide +kernel, by decide +kernel⟩
theorem ok_someSpot {f fC fR fP fS : Addr} {fd fdC fdR fdP fdS : FuncData} (F : Fun K "some_spot" "some_spot" sSomeSpot f fd) (Co : Has P w K mg base "column_of" 1 ["row"] (spColumnOf K) fC fdC) (Re : Has P w K mg base "rest_column" 1 ["many"] spRestColumn fR fdR)
    (Pf : Has P w K mg base "parts_for" 9 ["columns", "goal"] (spPartsFor K) fP fdP) (So : Has P w K mg base "spot_of" 5 ["prices"] (spSpotOf K) fS fdS) : FnOk P w K mg base CX0 10 f fd ["many", "rows"] (spSomeSpot K) := by
  refine F.ok scSomeSpot (fun vs H Q E h => ?_) (fun cdv A outer s H vs Q E hr h => ?_)
  · obtain ⟨n, m, A', M, R, v, rfl, _⟩ := h
    rfl
  · obtain ⟨n, m, A', M, R, v, rfl, hv, mb, rb, hn, k⟩ := h
    refine ⟨_, pss_cons (ps_set (i := 2) scSomeSpot.nd rfl (.inl rfl) (pe_op op_cat (pe_lc (own := [("row", 5)]) (g := gName 5) (tt := tYes) rfl scSomeSpot.nd (pi_tup (pv 1)) (blkOk_by (N := nSomeSpot) (sc := defScope sSomeSpot) (by decide +kernel))
          (fun _ _ _ _ _ => pg_name (i := 5) scSomeSpot.nd rfl (.inl rfl)) (fun _ _ _ _ _ => pts_nil) (fun _ _ _ _ _ => pe_cl Co (hr.mono (by decide)) (pa_cons (pv 5) pa_nil))) (pe_lst (pa_cons (pe_cl Re (hr.mono (by decide)) (pa_cons (pv 0) pa_nil)) pa_nil))))
      (pss_cons (ps_asg (pe_cl Pf hr (pa_cons (pv 2) (pa_cons (pe_op op_cat (pe_op op_rep (pe_lst (pa_cons pe_int pa_nil)) (pv 0)) (pe_lst (pa_cons (pe_un un_neg pe_int) pa_nil))) pa_nil))) (pg_tup rfl (pgs_cons (pg_name (i := 3) scSomeSpot.nd rfl (.inl rfl)) (pgs_cons (pg_name (i := 4) scSomeSpot.nd rfl (.inl rfl)) pgs_nil))))
      (pss_one (ps_ret (pe_ifExp (pt_cmpR op_eq (pv 3) pe_str (nomark _)) (pe_tup (pa_cons (pe_slice sl_list (pv 4) po_none (po_some (pe_un un_neg pe_int))) (pa_cons pe_non pa_nil))) (pe_tup (pa_cons pe_non (pa_cons (pe_cl So (hr.mono (by decide)) (pa_cons (pv 4) pa_nil)) pa_nil))))))), ?_⟩
    refine qn_asg (P := ColsP (n + 1) (m + 1) (colsOf n m R)) (en_snoc (n := n) (c := fun j => colOf m (R j)) (d := restCol m) (en_lcN (sr_tupP (ep_varM rfl hv rws_mono) fun _ => rw_mono) (by omega) (fun _ => ints_mono) (fun _ => ints_lst) ?_) (en_callV (P := IntsP (m + 1) (restCol m)) (ea_cons (ev_var rfl) ea_nil) fun H1 e1 Q q => ⟨m, rfl, by have := mb.m5; omega, q⟩).p (by omega)) fun cs H1 c0 e1 hc => ?_
    · intro i x H2 hi e2 hX
      exact ⟨_, fun Q q => q, rfl, en_callV (ea_cons (ev_var rfl) ea_nil) fun H3 e3 Q q => ⟨m, R i, x, rfl, rw_mono _ _ _ e3 hX, by have := mb.m5; omega, q⟩⟩
    have Bd : Bds (n + 1) (m + 1) M 112 (colsOf n m R) (goalN m) := bds_of mb rb hn fun i hi => by
      have := mb.A1
      have := mb.AM
      unfold goalN bd
      split
      · simp
      · show 1 ≤ M; omega
    refine q_two2 (ep_call (P := PartsR K (n + 1) (m + 1) 112 (colsOf n m R) (goalN m)) (ap_two cols_mono (ep_varM rfl hc cols_mono) (en_fill (m := m) (a := 0) (b := -1) ev_c (ev_var rfl) (ev_un ev_c ru_neg) (by have := mb.m5; omega)).p) fun vs H2 e2 ⟨x, y, ev, h1, h2⟩ Q q => ?_) partsAB fun wd fo H2 e2 hab => ?_
    · subst ev
      exact ⟨n + 1, m + 1, M, 112, colsOf n m R, goalN m, x, y, rfl, h1, h2, Bd, q⟩
    · rcases hab with ⟨rfl, f, hf, y⟩ | ⟨rfl, g, hg, no⟩
      · refine sp_ret (P := SomeP K n m R) (ep_if (b := true) (et_is (et_test (ev_op (ev_var rfl) ev_c (rv_eq rfl))) (by simp)) (fun _ => ?_) fun z => absurd z (by decide)) (k.go (e1.trans e2))
        exact ep_w (ep_pair (P := RowP K n f) (P' := fun v _ => v = .non) (ep_cutL (ep_varM rfl hf row_mono) fun _ => Fr.mono) row_mono (ep_of ev_c fun _ _ => rfl) mono_eq) fun v H3 e3 ⟨T, a, b, h1, h2, h3, h4⟩ => .inl ⟨T, a, f, h1, h4 ▸ h2, h3, fun i hi => y.sz i (by omega), nev_of y⟩
      · have neg := spot_pos no
        refine sp_ret (P := SomeP K n m R) (ep_if (b := false) (et_is (et_test (ev_op (ev_var rfl) ev_c (rv_eq rfl))) (by decide +kernel)) (fun z => absurd z (by decide)) fun _ => ?_) (k.go (e1.trans e2))
        refine ep_w (ep_pair (P := fun v _ => v = .non) (P' := RowP K m fun k => (0 - g k) / (0 - g m)) (ep_of ev_c fun _ _ => rfl) mono_eq (en_callV (ea_cons (ev_var rfl) ea_nil) fun H3 e3 Q q => ⟨m, 116, g, fo, rfl, row_mono _ _ _ e3 hg, no.sz, by have := mb.m5; omega, by decide, by decide, by grind, q⟩).p row_mono) fun v H3 e3 ⟨T, a, b, h1, h2, h3, h4⟩ => .inr ⟨T, b, _, h1, h3 ▸ h2, h4, cd_quot no.cd (by grind), fun i hi => SX.point_pos neg (bar_row no hi)⟩
end
end EW
set_option Elab.async false
set_option linter.all false
set_option maxRecDepth 100000
set_option maxHeartbeats 4000000
set_option exponentiation.threshold 10000
namespace EW
open PySem PySem.Spec PyProof.Rows L2 Evl
/-! ### tuples of ints, compared -/
def pdInts (xs : List Int) : PyData := .tuple (xs.map PyData.int)
theorem pdLay : ∀ xs : List Int, PyData.canLayAll0 (xs.map PyData.int) = true
  | [] => by simp [PyData.canLayAll0]
  | x :: xs => by
    have := pdLay xs
    simp [PyData.canLayAll0, PyData.canLay0, this]
theorem pdDepth : ∀ xs : List Int, PyData.depthAll (xs.map PyData.int) ≤ 1
  | [] => by simp [PyData.depthAll]
  | x :: xs => by
    have := pdDepth xs
    simp only [List.map_cons, PyData.depthAll]
    have : PyData.depth (.int x) ≤ 1 := by simp [PyData.depth]
    omega
theorem pd_shaped (xs : List Int) : SeqAt.shaped (pdInts xs) = true := by
  have h1 := pdDepth xs
  have h2 : PyData.depth (pdInts xs) ≤ 64 := by
    unfold pdInts
    simp only [PyData.depth]
    omega
  show (PyData.canLay0 (pdInts xs) && decide (PyData.depth (pdInts xs) ≤ 64)) = true
  rw [Bool.and_eq_true]
  refine ⟨?_, decide_eq_true h2⟩
  unfold pdInts
  simp only [PyData.canLay0]
  exact pdLay xs
theorem pd_eqvAll : ∀ xs ys : List Int, PyData.eqvAll (xs.map PyData.int) (ys.map PyData.int) = decide (xs = ys)
  | [], [] => by simp [PyData.eqvAll]
  | [], y :: ys => by simp [PyData.eqvAll]
  | x :: xs, [] => by simp [PyData.eqvAll]
  | x :: xs, y :: ys => by
    have := pd_eqvAll xs ys
    simp only [List.map_cons, PyData.eqvAll, PyData.eqv, this]
    rw [Bool.eq_iff_iff]
    simp
theorem pd_eqv (xs ys : List Int) : PyData.eqv (pdInts xs) (pdInts ys) = decide (xs = ys) := by
  unfold pdInts
  simp only [PyData.eqv]
  exact pd_eqvAll xs ys
section
variable {K : PySem.W.Frag} {σ : L2.St} {H H' F : Hp} {ta tb te tx tl : TE} {P P' : V → Hp → Prop} {n m : Nat} {Pi Pj : Nat → V → Hp → Prop} {v : V}
theorem dp_all {H : Hp} : ∀ xs : List Int, DpAll K H (xs.map V.int) (xs.map PyData.int)
  | [] => .nil
  | x :: xs => .cons (.int x) (dp_all xs)
theorem intsT_list {f : Nat → Int} (h : IntsT K m f v H) : ∃ p, v = .ref p ∧ SqT K H p (((List.range m).map f).map V.int) := by
  obtain ⟨p, xs, rfl, hp, hl, hx⟩ := h
  refine ⟨p, rfl, ?_⟩
  have : xs = ((List.range m).map f).map V.int := by
    apply List.ext_getElem?
    intro i
    rw [List.map_map, List.getElem?_map]
    by_cases hi : i < m
    · have := hx i xs[i] (by simp [hl, hi])
      simp [hl, hi, this]
    · simp [hl, hi]
  rw [← this]
  exact hp
theorem dp_ints {f : Nat → Int} (h : IntsT K m f v H) : Dp K H v (pdInts ((List.range m).map f)) := by
  obtain ⟨p, rfl, s⟩ := intsT_list h
  exact .tup s (dp_all _)
/-- equality of two tuples of ints -/
theorem ev_eqInts {f g : Nat → Int} (ha : EvP ta σ H (IntsT K m f)) (hb : EvP tb σ H (IntsT K m g)) : Ev (tOp (rEqD K) ta tb) σ H (.bl (decide ((List.range m).map f = (List.range m).map g))) := fun H1 e Q k =>
  ha H1 e _ fun x H2 e2 h1 => hb H2 (e.trans e2) _ fun y H3 e3 h2 => ⟨_, _, dp_ints (intsT_mono _ _ _ e3 h1), dp_ints h2, pd_shaped _, pd_shaped _, by
    rw [pd_eqv]
    exact k H3 (e2.trans e3)⟩
theorem range_map_eq {f g : Nat → Int} : (List.range m).map f = (List.range m).map g ↔ ∀ j, j < m → f j = g j := by
  constructor
  · intro h j hj
    have := congrArg (fun l => l[j]?) h
    simpa [hj] using this
  · intro h
    apply List.map_congr_left
    intro j hj
    exact h j (List.mem_range.mp hj)
/-- (c, row[1]) -/
theorem ep_rowC {c : Int} {f : Nat → Int} (hb : EvP tb σ H (IntsT K m f)) : EvP (tTup (tCons (tC (.int c)) (tCons tb tNil))) σ H (RwP K m (c, f)) := ep_w (eu2 hb intsT_mono) fun v H2 e ⟨T, q, h1, h2, h3⟩ => ⟨T, q, h1, h2, h3⟩
/-- (0,) * n -/
theorem ep_zeros {te : TE} (hm : Ev te σ H (.int (n : Int))) (hn : n ≤ 1000) : EvP (tOp (rRepU K) (tTup (tCons (tC (.int 0)) tNil)) te) σ H (IntsT K n fun _ => 0) := fun H1 e Q q => by
  show (tTup (tCons (tC (.int 0)) tNil)) σ H1 fun x G => te σ G fun y G2 => rRepU K x y G2 Q
  refine eu_tup (vs := [.int 0]) (ea_cons ev_c ea_nil) (by show 1 ≤ 100000; decide) H1 e _ fun l H2 l0 e2 hl => hm H2 (e.trans e2) _ fun H3 e3 => ⟨l, (n : Int), [.int 0], rfl, rfl, st_of (e3 _ _ hl), by simp, by omega, by omega, by simp, fun h1 => ?_, fun p hp => q _ _ ((e2.trans e3).trans (Ex.new hp)) ⟨p, _, rfl, st_of upd_same, by simp, fun i x hi => ?_⟩⟩
  · have : n = 1 := by omega
    subst this
    refine q _ H3 (e2.trans e3) ⟨l, [.int 0], rfl, st_of (e3 _ _ hl), rfl, fun i x hi => ?_⟩
    cases i with
    | zero => simpa using hi.symm
    | succ i => simp at hi
  · have el : (List.replicate (n : Int).toNat [V.int 0]).flatten = List.replicate n (V.int 0) := by simp
    rw [el, List.getElem?_replicate] at hi
    split at hi
    · exact (Option.some.inj hi).symm
    · cases hi
end
/-! ### times that a ROW follows by -/
def TB (n : Nat) : Nat := (n + 1) * 112 + 1
structure Fol (n m : Nat) (R : Nat → Row) (r : Row) (b : Nat) (t : Nat → Int) : Prop where
  b0 : 0 < b
  bz : b < 2 ^ TB n
  tz : ∀ i, i < n → (t i).natAbs < 2 ^ TB n
  nn : ∀ i, i < n → 0 ≤ t i
  k : ∀ j, j < m → SX.sm n (fun i => (t i : Rat) * ((R i).2 j : Rat)) = (b : Rat) * (r.2 j : Rat)
  c : SX.sm n (fun i => (t i : Rat) * ((R i).1 : Rat)) ≤ (b : Rat) * (r.1 : Rat)
theorem Fol.fol {n m : Nat} {R : Nat → Row} {r : Row} {b : Nat} {t : Nat → Int} (h : Fol n m R r b t) {z : Nat → Rat} (hz : Hold m n R z) : 0 ≤ rv m r z := by
  have bp : (0 : Rat) < (b : Rat) := by exact_mod_cast h.b0
  have h1 : 0 ≤ SX.val m ((b : Rat) * (r.1 : Rat)) (fun j => (b : Rat) * (r.2 j : Rat)) z := by
    refine SX.follows_of (n := n) (c := fun i => ((R i).1 : Rat)) (k := fun i j => ((R i).2 j : Rat)) (f := fun i => if i < n then (t i : Rat) else (b : Rat) * (r.1 : Rat) - SX.sm n (fun i => (t i : Rat) * ((R i).1 : Rat))) ?_ ?_ ?_ ?_ hz
    · intro i hi
      simp only [hi, if_true]
      exact_mod_cast h.nn i hi
    · simp only [Nat.lt_irrefl, if_false]
      have := h.c
      grind
    · intro j hj
      rw [← h.k j hj]
      exact SX.sm_congr fun i hi => by simp only [hi, if_true]
    · have e : SX.sm n (fun i => (if i < n then (t i : Rat) else (b : Rat) * (r.1 : Rat) - SX.sm n (fun i => (t i : Rat) * ((R i).1 : Rat))) * ((R i).1 : Rat)) = SX.sm n (fun i => (t i : Rat) * ((R i).1 : Rat)) := SX.sm_congr fun i hi => by simp only [hi, if_true]
      rw [e]
      simp only [Nat.lt_irrefl, if_false]
      grind
  have e : SX.val m ((b : Rat) * (r.1 : Rat)) (fun j => (b : Rat) * (r.2 j : Rat)) z = (b : Rat) * rv m r z := by
    unfold SX.val rv
    have : SX.sm m (fun j => (b : Rat) * (r.2 j : Rat) * z j) = (b : Rat) * SX.sm m (fun j => (r.2 j : Rat) * z j) := by
      rw [← SX.sm_mul]
      exact SX.sm_congr fun j hj => by grind
    grind
  rw [e] at h1
  by_cases q : 0 ≤ rv m r z
  · exact q
  · have := Rat.mul_pos bp (show 0 < - rv m r z by grind)
    grind
section
variable {P : Program} {w : World} {K : PySem.W.Frag} {mg : Str → Option Value} {base : Heap}
/-! ### spot_along -/
abbrev sAlong : Stmt := top 38
abbrev nAlong : List Str := ["spot", "way", "row", "falls", "here", "long", "own", "by"]
def fallsOf (m : Nat) (r : Row) (y : Nat → Rat) : Rat := 0 - rv m ((0 : Int), r.2) y
def along (m : Nat) (r : Row) (z y : Nat → Rat) : Nat → Rat := if rv m r z < 0 then z else fun j => z j + (rv m r z + 1) / fallsOf m r y * y j
def spAlong (K : PySem.W.Frag) : Sp := fun vs H Q _ => ∃ (m : Nat) (r : Row) (z y : Nat → Rat) (s u v : V), vs = [s, u, v] ∧ RowP K m z s H ∧ RowP K m y u H ∧ RwP K m r v H ∧ Sml m r ∧ Cd 113 m z ∧ Cd 113 m y ∧ m ≤ 24 ∧ fallsOf m r y ≠ 0 ∧
  RetP (fun v H => RowP K m (along m r z y) v H ∧ Cd 250 m (along m r z y)) H Q
theorem cd_along {m : Nat} {r : Row} {z y : Nat → Rat} (sm : Sml m r) (cz : Cd 113 m z) (cy : Cd 113 m y) (m24 : m ≤ 24) (nz : fallsOf m r y ≠ 0) : Cd 250 m (along m r z y) := by
  unfold along
  split
  · exact cz.mono (by decide)
  have sm0 : Sml m ((0 : Int), r.2) := ⟨by show (0 : Int).natAbs < 2 ^ 12; decide, sm.k⟩
  obtain ⟨d1, d10, dl1, hd1⟩ := cz
  obtain ⟨d2, d20, dl2, hd2⟩ := cy
  obtain ⟨V, eV, lV⟩ := cd_rv sm dl1 hd1 (Nat.le_refl m)
  obtain ⟨F, eF, lF⟩ := cd_rv sm0 dl2 hd2 (Nat.le_refl m)
  have lV' : V.natAbs < 2 ^ 130 := by
    have h3 : (m + 1) * 2 ^ (12 + 113) ≤ 32 * 2 ^ (12 + 113) := Nat.mul_le_mul_right _ (by omega)
    rw [pow5] at h3
    omega
  have lF' : F.natAbs < 2 ^ 130 := by
    have h3 : (m + 1) * 2 ^ (12 + 113) ≤ 32 * 2 ^ (12 + 113) := Nat.mul_le_mul_right _ (by omega)
    rw [pow5] at h3
    omega
  have q1 : (d1 : Rat) ≠ 0 := by exact_mod_cast d10
  have q2 : (d2 : Rat) ≠ 0 := by exact_mod_cast d20
  have ef : (d2 : Rat) * fallsOf m r y = ((-F : Int) : Rat) := by
    unfold fallsOf rv
    rw [Rat.intCast_neg, ← eF]
    grind
  have ev : (d1 : Rat) * rv m r z = (V : Rat) := eV
  have F0 : (-F : Int) ≠ 0 := fun w => by
    rw [w] at ef
    exact (Rat.mul_eq_zero.mp ef).elim q2 nz
  refine ⟨d1 * -F, Int.mul_ne_zero d10 F0, ?_, fun j hj => ?_⟩
  · rw [Int.natAbs_mul, Int.natAbs_neg]
    have := Nat.mul_lt_mul'' dl1 lF'
    rw [← Nat.pow_add] at this
    exact Nat.lt_of_lt_of_le this (Nat.pow_le_pow_right (by decide) (by decide))
  · obtain ⟨s, es, ls⟩ := hd1 j hj
    obtain ⟨w, ew, lw⟩ := hd2 j hj
    refine ⟨-F * s + (V + d1) * w, ?_, ?_⟩
    · have c := Rat.div_mul_cancel (a := rv m r z + 1) nz
      simp only [Rat.intCast_add, Rat.intCast_mul, Rat.intCast_neg] at ef ⊢
      rw [← es, ← ew, ← ev]
      generalize (rv m r z + 1) / fallsOf m r y = t at c ⊢
      generalize rv m r z = v at c ev ⊢
      generalize fallsOf m r y = f at c ef ⊢
      grind
    · have h1 : (-F * s).natAbs < 2 ^ 243 := by
        rw [Int.natAbs_mul, Int.natAbs_neg]
        have := Nat.mul_lt_mul'' lF' ls
        rw [← Nat.pow_add] at this
        exact this
      have h2 : ((V + d1) * w).natAbs < 2 ^ 244 := by
        rw [Int.natAbs_mul]
        have a : (V + d1).natAbs < 2 ^ 131 := by omega
        have := Nat.mul_lt_mul'' a lw
        rw [← Nat.pow_add] at this
        exact this
      have := Int.natAbs_add_le (-F * s) ((V + d1) * w)
      omega
theorem scAlong : FnScope nAlong ["spot", "way", "row"] (defScope sAlong) := ⟨rfl, rfl, rfl, by decide +kernel, rfl, by decide +kernel, by decide +kernel⟩
theorem ok_along {f fV fD fA fP fQ fL aN : Addr} {fd fdV fdD fdA fdP fdQ fdL : FuncData} (F : Fun K "spot_along" "spot_along" sAlong f fd) (B : Bl2 mg) (N : FrC K mg "NOTHING" 0 aN) (Va : Has P w K mg base "value_at" 4 ["row", "spot"] (spValueAt K) fV fdV)
    (D : Has P w K mg base "difference" 3 f2N (spFr2 K (fun _ => True) (· - ·)) fD fdD) (Ad : Has P w K mg base "added" 3 f2N (spFr2 K (fun _ => True) (· + ·)) fA fdA) (Pr : Has P w K mg base "product" 3 f2N (spFr2 K (fun _ => True) (· * ·)) fP fdP)
    (Qu : Has P w K mg base "quotient" 3 f2N (spFr2 K (fun q => q ≠ 0) (· / ·)) fQ fdQ) (Le : Has P w K mg base "less" 1 f2N (spLess K) fL fdL) : FnOk P w K mg base CX0 5 f fd ["spot", "way", "row"] (spAlong K) := by
  refine F.ok scAlong (fun vs H Q E h => ?_) (fun cdv A outer s H vs Q E hr h => ?_)
  · obtain ⟨m, r, z, y, s, u, v, rfl, _⟩ := h
    rfl
  · obtain ⟨m, r, z, y, s', u, v, rfl, hz, hy, hv, sm, cz, cy, m5, nz, k⟩ := h
    refine ⟨_, pss_cons (ps_set (i := 3) scAlong.nd rfl (.inl rfl) (pe_cl D (hr.mono (by decide)) (pa_cons (pe_glob (v := .ref aN) rfl N.gl rfl) (pa_cons (pe_cl Va hr (pa_cons (pe_tup (pa_cons pe_int (pa_cons (pe_ix ix_tup (pv 2) pe_int (fun _ _ => rfl)) pa_nil))) (pa_cons (pv 1) pa_nil))) pa_nil))))
      (pss_cons (ps_set (i := 4) scAlong.nd rfl (.inl rfl) (pe_cl Va hr (pa_cons (pv 2) (pa_cons (pv 0) pa_nil))))
      (pss_cons (ps_if (pt_val (pe_cl Le (hr.mono (by decide)) (pa_cons (pv 4) (pa_cons (pe_glob (v := .ref aN) rfl N.gl rfl) pa_nil)))) (pss_one (ps_ret (pv 0))) pss_nil)
      (pss_cons (ps_set (i := 5) scAlong.nd rfl (.inr rfl) (pe_cl Qu (hr.mono (by decide)) (pa_cons (pe_cl Ad (hr.mono (by decide)) (pa_cons (pv 4) (pa_cons (pe_tup (pa_cons pe_int (pa_cons pe_int pa_nil))) pa_nil))) (pa_cons (pv 3) pa_nil))))
      (pss_one (ps_ret (pe_lc (own := [("own", 6), ("by", 7)]) (g := gTup K 2 (gCons (gName 6) (gCons (gName 7) gNil))) (tt := tYes) rfl scAlong.nd (pi_zip (by rfl) B.zip (pa_cons (pv 0) (pa_cons (pv 1) pa_nil))) (blkOk_by (N := nAlong) (sc := defScope sAlong) (by decide +kernel))
          (fun _ _ _ _ _ => pgT K rfl rfl (pgs_cons (pg_name (i := 6) scAlong.nd rfl (.inl rfl)) (pgs_cons (pg_name (i := 7) scAlong.nd rfl (.inl rfl)) pgs_nil))) (fun _ _ _ _ _ => pts_nil)
          (fun _ _ _ _ _ => pe_cl Ad (hr.mono (by decide)) (pa_cons (pv 6) (pa_cons (pe_cl Pr (hr.mono (by decide)) (pa_cons (pv 5) (pa_cons (pv 7) pa_nil))) pa_nil)))))))))
      , ?_⟩
    have sm0 : Sml m ((0 : Int), r.2) := ⟨by show (0 : Int).natAbs < 2 ^ 12; decide, sm.k⟩
    have sz : ∀ j, j < m → Sz 113 (z j) := fun j hj => cz.sz hj
    have sy : ∀ j, j < m → Sz 113 (y j) := fun j hj => cy.sz hj
    have s1 : Sz 130 (rv m ((0 : Int), r.2) y) := sz_rv sm0 cy (Nat.le_refl m) m5
    have s2 : Sz 130 (rv m r z) := sz_rv sm cz (Nat.le_refl m) m5
    refine qp_asg (P := Fr K (fallsOf m r y)) (ep_fr2 1 130 (ep_of ev_c fun H1 _ => N.fr H1) (ep_call (P := Fr K (rv m ((0 : Int), r.2) y)) (ap_two rw_mono (ep_rowC (ep_row1 (ep_varM rfl hv rw_mono))) (ep_varM rfl hy row_mono)) fun vs H2 e2 ⟨a, b, ev, h1, h2⟩ Q q => ?_) (sz0 (by decide)) s1 ⟨by decide, by decide, by decide⟩ trivial) fun fa H1 e1 hf => ?_
    · subst ev
      exact ⟨m, 113, _, y, a, b, rfl, h1, h2, sm0, cy, m5, by decide, by decide, q⟩
    refine qp_asg (P := Fr K (rv m r z)) (ep_callV (ea_cons (ev_var rfl) (ea_cons (ev_var rfl) ea_nil)) fun H2 e2 Q q => ⟨m, 113, r, z, v, s', rfl, rw_mono _ _ _ (e1.trans e2) hv, row_mono _ _ _ (e1.trans e2) hz, sm, cz, m5, by decide, by decide, q⟩) fun hh H2 e2 hhv => ?_
    have e12 := e1.trans e2
    refine q_when (b := decide (rv m r z < 0)) (et_B (ev_less 130 1 (ep_varM rfl hhv Fr.mono) (ep_of ev_c fun H3 _ => N.fr H3) s2 (sz0 (by decide)) ⟨by decide, by decide, by decide⟩)) (fun hb H3 e3 => ?_) fun hb H3 e3 => ?_
    · have c : rv m r z < 0 := of_decide_eq_true hb
      have ea : along m r z y = z := if_pos c
      rw [ea] at k
      exact sp_ret (ep_of (ev_var rfl) fun H4 e4 => ⟨row_mono _ _ _ ((e12.trans e3).trans e4) hz, cz.mono (by decide)⟩) (k.go (e12.trans e3))
    · have c : ¬ rv m r z < 0 := of_decide_eq_false hb
      have cal := cd_along sm cz cy m5 nz
      have ea : along m r z y = fun j => z j + (rv m r z + 1) / fallsOf m r y * y j := if_neg c
      rw [ea] at k cal
      have sf : Sz 133 (fallsOf m r y) := ((sz0 (a := 1) (by decide)).sub s1).mono (by decide)
      have s3 : Sz 133 (rv m r z + 1) := s2.add (sz1 (a := 2) (by decide))
      have s4 : Sz 266 ((rv m r z + 1) / fallsOf m r y) := (s3.div sf nz).mono (by decide)
      refine qp_asg (P := Fr K ((rv m r z + 1) / fallsOf m r y)) (ep_fr2 133 133 (ep_fr2 130 2 (ep_varM rfl (Fr.mono _ _ _ e3 hhv) Fr.mono) (ep_w (ep_int1 (i := 1) ev_c) fun v H _ q => q) s2 (sz1 (by decide)) ⟨by decide, by decide, by decide⟩ trivial) (ep_varM rfl (Fr.mono _ _ _ (e2.trans e3) hf) Fr.mono) s3 sf ⟨by decide, by decide, by decide⟩ nz) fun lo H4 e4 hl => ?_
      have e14 := (e12.trans e3).trans e4
      refine sp_ret (ep_w (en_lc (Pi := fun j => Fr K (z j + (rv m r z + 1) / fallsOf m r y * y j)) (sr_zipP (ap_two row_mono (ep_varM rfl (row_mono _ _ _ e14 hz) row_mono) (ep_varM rfl (row_mono _ _ _ e14 hy) row_mono)) (fun _ => Fr.mono) fun _ => Fr.mono) (by omega) (fun _ => Fr.mono) ?_).p fun v H5 e5 q => ⟨q, cal⟩) (k.go e14)
      · rintro i x H5 hi e5 ⟨T', p1, p2, rfl, hT, h1, h2⟩
        refine ⟨_, fun Q q => g_pair hT q, rfl, EvP.d tst_fr ?_⟩
        exact ep_fr2 113 379 (ep_varM rfl h1 Fr.mono) (ep_fr2 266 113 (ep_varM rfl (Fr.mono _ _ _ e5 hl) Fr.mono) (ep_varM rfl h2 Fr.mono) s4 (sy i hi) ⟨by decide, by decide, by decide⟩ trivial) (sz i hi) (s4.mul (sy i hi)) ⟨by decide, by decide, by decide⟩ trivial
end
end EW
set_option Elab.async false
set_option linter.all false
set_option maxRecDepth 100000
set_option maxHeartbeats 4000000
set_option exponentiation.threshold 10000
namespace EW
open PySem PySem.Spec PyProof.Rows L2 Evl
section
variable {P : Program} {w : World} {K : PySem.W.Frag} {mg : Str → Option Value} {base : Heap}
/-! ### quick_times -/
abbrev sQuick : Stmt := top 39
abbrev nQuick : List Str := ["rows", "row", "at", "own", "by", "to"]
def QkP (K : PySem.W.Frag) (n m : Nat) (R : Nat → Row) (r : Row) : V → Hp → Prop := fun v H => v = .non ∨ ∃ T u t, v = .ref T ∧ SqT K H T [.int 1, u] ∧ IntsT K n t u H ∧ Fol n m R r 1 t
theorem qk_mono {n m : Nat} {R : Nat → Row} {r : Row} : Mono (QkP K n m R r) := fun v H H' e p => p.elim .inl fun ⟨T, u, t, h1, h2, h3, h4⟩ => .inr ⟨T, u, t, h1, ex_t e h2, intsT_mono _ _ _ e h3, h4⟩
def spQuick (K : PySem.W.Frag) : Sp := fun vs H Q _ => ∃ (n m : Nat) (R : Nat → Row) (r : Row) (v u : V), vs = [v, u] ∧ RwsP K n m R v H ∧ RwP K m r u H ∧ m ≤ 1000 ∧ n ≤ 1000 ∧ RetP (QkP K n m R r) H Q
theorem scQuick : FnScope nQuick ["rows", "row"] (defScope sQuick) := ⟨rfl, rfl, rfl, by decide +kernel, rfl, by decide +kernel, by decide +kernel⟩
theorem fol_zero {n m : Nat} {R : Nat → Row} {r : Row} (h : ∀ j, j < m → r.2 j = 0) (c : 0 ≤ r.1) : Fol n m R r 1 (fun _ => 0) where
  b0 := by decide
  bz := Nat.one_lt_two_pow (by unfold TB; omega)
  tz := fun _ _ => Nat.two_pow_pos _
  nn := fun _ _ => by decide
  k := fun j hj => by
    rw [SX.sm_zero fun i hi => ?_]
    · rw [h j hj]
      have e : ((0 : Int) : Rat) = 0 := rfl
      rw [e]
      grind
    · have e : ((0 : Int) : Rat) = 0 := rfl
      rw [e]
      grind
  c := by
    rw [SX.sm_zero fun i hi => ?_]
    · have : (0 : Rat) ≤ (r.1 : Rat) := by exact_mod_cast c
      have e : ((1 : Nat) : Rat) = 1 := rfl
      rw [e]
      grind
    · have e : ((0 : Int) : Rat) = 0 := rfl
      rw [e]
      grind
theorem fol_one {n m a : Nat} {R : Nat → Row} {r : Row} (ha : a < n) (h : ∀ j, j < m → (R a).2 j = r.2 j) (c : (R a).1 ≤ r.1) : Fol n m R r 1 (fun i => if i = a then 1 else 0) where
  b0 := by decide
  bz := Nat.one_lt_two_pow (by unfold TB; omega)
  tz := fun i _ => by
    show (if i = a then (1 : Int) else 0).natAbs < _
    split
    · exact Nat.one_lt_two_pow (by unfold TB; omega)
    · exact Nat.two_pow_pos _
  nn := fun i _ => by
    show (0 : Int) ≤ if i = a then 1 else 0
    split <;> decide
  k := fun j hj => by
    rw [SX.sm_one ha fun i hi ne => ?_]
    · simp only [if_true]
      rw [h j hj]
      have e : ((1 : Int) : Rat) = 1 := rfl
      have e' : ((1 : Nat) : Rat) = 1 := rfl
      rw [e, e']
    · simp only [ne, if_false]
      have e : ((0 : Int) : Rat) = 0 := rfl
      rw [e]
      grind
  c := by
    rw [SX.sm_one ha fun i hi ne => ?_]
    · simp only [if_true]
      have : ((R a).1 : Rat) ≤ (r.1 : Rat) := by exact_mod_cast c
      have e : ((1 : Int) : Rat) = 1 := rfl
      have e' : ((1 : Nat) : Rat) = 1 := rfl
      rw [e, e']
      grind
    · simp only [ne, if_false]
      have e : ((0 : Int) : Rat) = 0 := rfl
      rw [e]
      grind
theorem ok_quick {f : Addr} {fd : FuncData} (F : Fun K "quick_times" "quick_times" sQuick f fd) (B : Bl2 mg) : FnOk P w K mg base CX0 1 f fd ["rows", "row"] (spQuick K) := by
  refine F.ok scQuick (fun vs H Q E h => ?_) (fun cdv A outer s H vs Q E hr h => ?_)
  · obtain ⟨n, m, R, r, v, u, rfl, _⟩ := h
    rfl
  · obtain ⟨n, m, R, r, v, u, rfl, hv, hu, hm, hn, k⟩ := h
    refine ⟨_, pss_cons (ps_if (PW.pt (pw_and (pt_val (pe_callB (cr_all rfl) (by rfl) B.all (by decide +kernel) (pa_cons (pe_lc (own := [("by", 4)]) (g := gName 4) (tt := tYes) rfl scQuick.nd (pi_tup (pe_ix ix_tup (pv 1) pe_int (fun _ _ => rfl))) (blkOk_by (N := nQuick) (sc := defScope sQuick) (by decide +kernel))
          (fun _ _ _ _ _ => pg_name (i := 4) scQuick.nd rfl (.inl rfl)) (fun _ _ _ _ _ => pts_nil) (fun _ _ _ _ _ => pe_cmpR op_eq (pv 4) pe_int (nomark _))) pa_nil))) (pw_and1 (pt_cmpR op_ge (pe_ix ix_tup (pv 1) pe_int (fun _ _ => rfl)) pe_int (nomark _)))))
        (pss_one (ps_ret (pe_tup (pa_cons pe_int (pa_cons (pe_op op_repU (pe_tup (pa_cons pe_int pa_nil)) (pe_callB call_len_seq (by rfl) B.len PySem.boot_len (pa_cons (pv 0) pa_nil))) pa_nil))))) pss_nil)
      (pss_cons (ps_for PassesOwn.never rfl (pi_enumT (by rfl) B.enum (pa_cons (pv 0) pa_nil)) (pg_tup rfl (pgs_cons (pg_name (i := 2) scQuick.nd rfl (.inr rfl)) (pgs_cons (pg_name (i := 3) scQuick.nd rfl (.inl rfl)) pgs_nil)))
        (pss_one (ps_if (PW.pt (pw_and (pt_cmpR (op_eqD hr.units) (pe_ix ix_tup (pv 3) pe_int (fun _ _ => rfl)) (pe_ix ix_tup (pv 1) pe_int (fun _ _ => rfl)) (nomark _)) (pw_and1 (pt_cmpR op_le (pe_ix ix_tup (pv 3) pe_int (fun _ _ => rfl)) (pe_ix ix_tup (pv 1) pe_int (fun _ _ => rfl)) (nomark _)))))
          (pss_one (ps_ret (pe_tup (pa_cons pe_int (pa_cons (pe_callTy call_tuple_of (by rfl) B.tuple (by decide +kernel) (pa_cons (pe_lc (own := [("to", 5)]) (g := gName 5) (tt := tYes) rfl scQuick.nd (pi_range1 rfl B.range (pa_cons (pe_callB call_len_seq (by rfl) B.len PySem.boot_len (pa_cons (pv 0) pa_nil)) pa_nil)) (blkOk_by (N := nQuick) (sc := defScope sQuick) (by decide +kernel))
            (fun _ _ _ _ _ => pg_name (i := 5) scQuick.nd rfl (.inl rfl)) (fun _ _ _ _ _ => pts_nil) (fun _ _ _ _ _ => pe_callTy call_int1 (by rfl) B.int (by decide +kernel) (pa_cons (pe_cmpR op_eq (pv 5) (pv 2) (nomark _)) pa_nil))) pa_nil)) pa_nil))))) pss_nil)))
      (pss_one (ps_ret pe_non))), ?_⟩
    refine q_when (b := (List.range m).all (fun j => decide (r.2 j = 0)) && decide (0 ≤ r.1)) (et_and (et_B (ev_allN (n := m) (f := fun j => decide (r.2 j = 0)) (en_lc (sr_tupP (ep_row1 (ep_varM rfl hu rw_mono)) fun _ => mono_eq) (by omega) (fun _ => mono_eq) ?_))) fun _ => et_test (ev_op (ev_row0 (ep_varM rfl hu rw_mono)) ev_c rv_I0)) (fun hb H1 e1 => ?_) fun hb H1 e1 => ?_
    · intro i x H2 hi e2 hX
      subst hX
      refine ⟨_, fun Q q => q, rfl, EvP.d tst_eq (ev_p (ev_is (ev_op (ev_var rfl) ev_c (rv_eq rfl)) ?_))⟩
      congr 1
      rw [decide_eq_decide]
      constructor
      · intro z
        injection z
      · intro z
        rw [z]
    · simp only [Bool.and_eq_true, List.all_eq_true, List.mem_range, decide_eq_true_eq] at hb
      refine sp_ret (ep_w (eu2 (ep_zeros (n := n) (ev_lenT (ep_varM rfl (rws_mono _ _ _ e1 hv) rws_mono)) hn) intsT_mono) fun v H2 e2 ⟨T, q, h1, h2, h3⟩ => .inr ⟨T, q, _, h1, h2, h3, fol_zero hb.1 hb.2⟩) (k.go e1)
    · have hv1 := rws_mono _ _ _ e1 hv
      refine q_forP (sr_enumT (ap_1 (ep_varM rfl hv1 rws_mono)) fun _ => rw_mono) (fun B i σ H' => Ex B H' ∧ ∃ x y z t, σ = [some v, some u, x, y, z, t]) (fun H2 e2 => ⟨Ex.refl _, _, _, _, _, rfl⟩) (fun _ _ _ _ _ p => p.1) ?_ ?_
      · rintro B' i x σ H2 H3 hi eB ⟨e2, y1, y2, y3, y4, rfl⟩ e3 ⟨T', p1, p2, rfl, hT, rfl, h2⟩
        refine g_pair hT ?_
        have e := ((e1.trans eB).trans e2).trans e3
        refine s_when (b := decide ((List.range m).map (R i).2 = (List.range m).map r.2) && decide ((R i).1 ≤ r.1)) (et_and (et_test (ev_eqInts (ep_row1 (ep_varM rfl h2 rw_mono)) (ep_row1 (ep_varM rfl (rw_mono _ _ _ e hu) rw_mono)))) fun _ => et_test (ev_op (ev_row0 (ep_varM rfl h2 rw_mono)) (ev_row0 (ep_varM rfl (rw_mono _ _ _ e hu) rw_mono)) rv_I0)) (fun hb H4 e4 => ?_) fun hb H4 e4 => ?_
        · simp only [Bool.and_eq_true, decide_eq_true_eq] at hb
          have hk := range_map_eq.mp hb.1
          refine sp_ret (ep_w (eu2 (P := IntsT K n fun t => if t = i then 1 else 0) (ep_tuple (en_lc (Pi := fun t x _ => x = .int (if t = i then 1 else 0)) (sr_rangeN (m := n) (ea_cons (ev_lenT (ep_varM rfl (rws_mono _ _ _ (e.trans e4) hv) rws_mono)) ea_nil) (by omega)) (by omega) (fun _ => mono_eq) ?_).p fun _ => mono_eq) intsT_mono) fun v H5 e5 ⟨T, q, h1, h2, h3⟩ => .inr ⟨T, q, _, h1, h2, h3, fol_one hi hk hb.2⟩) (k.go (e.trans e4))
          intro t x H5 ht e5 hX
          subst hX
          refine ⟨_, fun Q q => q, rfl, EvP.d tst_eq (ev_p (ev_is (ev_intB (ev_op (ev_var rfl) (ev_var rfl) (rv_eq rfl))) ?_))⟩
          by_cases z : t = i
          · subst z
            simp
          · have : ¬ (t : Int) = (i : Int) := by omega
            simp [z, this]
        · exact ⟨(e2.trans e3).trans e4, _, _, _, _, rfl⟩
      · rintro B' σ H2 eB ⟨e2, y1, y2, y3, y4, rfl⟩
        exact sp_ret (ep_of ev_c fun _ _ => .inl rfl) (k.go ((e1.trans eB).trans e2))
end
end EW
set_option Elab.async false
set_option linter.all false
set_option maxRecDepth 100000
set_option maxHeartbeats 4000000
set_option exponentiation.threshold 10000
namespace EW
open PySem PySem.Spec PyProof.Rows L2 Evl
/-! ### what of parts and prices follows -/
theorem isI {q : Rat} {z : Int} (h : (z : Rat) = q) : q.num = z ∧ ((q.num : Int) : Rat) = q := by
  subst h
  exact ⟨rfl, rfl⟩
theorem tz_of {q : Rat} {b n : Nat} {z : Int} (s : Sz 112 q) (bl : b < 2 ^ (1 + n * 112)) (hz : (z : Rat) = q * (b : Rat)) : (q * (b : Rat)).num.natAbs < 2 ^ TB n := by
  rw [← hz]
  show z.natAbs < _
  have e : z * (q.den : Int) = q.num * (b : Int) := by
    have h : (z : Rat) * (q.den : Rat) = (q.num : Rat) * (b : Rat) := by
      rw [hz]
      have := num_den q
      have := den_ne q
      grind
    have h2 : ((z * (q.den : Int) : Int) : Rat) = ((q.num * (b : Int) : Int) : Rat) := by
      rw [Rat.intCast_mul, Rat.intCast_mul]
      exact h
    exact_mod_cast h2
  have e2 : z.natAbs * q.den = q.num.natAbs * b := by
    have := congrArg Int.natAbs e
    rw [Int.natAbs_mul, Int.natAbs_mul] at this
    simpa using this
  have l1 : z.natAbs ≤ z.natAbs * q.den := Nat.le_mul_of_pos_right _ q.den_pos
  have l2 : q.num.natAbs * b < 2 ^ 112 * 2 ^ (1 + n * 112) := Nat.mul_lt_mul'' s.num bl
  rw [← Nat.pow_add] at l2
  have : 112 + (1 + n * 112) = TB n := by unfold TB; omega
  rw [this] at l2
  omega
theorem fol_parts {n m a b : Nat} {R : Nat → Row} {r : Row} {f : Nat → Rat} (y : Yes (n + 1) (m + 1) a (colsOf n m R) (colOf m r) f) (b0 : 0 < b) (bl : b < 2 ^ (1 + n * 112)) (sf : ∀ i, i < n → Sz 112 (f i)) (ht : ∀ i, i < n → ∃ z : Int, (z : Rat) = f i * (b : Rat)) : Fol n m R r b (fun i => (f i * (b : Rat)).num) := by
  have hq : ∀ i, i < n → (((f i * (b : Rat)).num : Int) : Rat) = f i * (b : Rat) := fun i hi => by
    obtain ⟨z, hz⟩ := ht i hi
    exact (isI hz).2
  have bp : (0 : Rat) < (b : Rat) := by exact_mod_cast b0
  have hs : ∀ g : Nat → Rat, SX.sm n (fun i => (((f i * (b : Rat)).num : Int) : Rat) * g i) = (b : Rat) * SX.sm n (fun i => f i * g i) := fun g => by
    rw [← SX.sm_mul]
    exact SX.sm_congr fun i hi => by rw [hq i hi]; grind
  refine ⟨b0, Nat.lt_of_lt_of_le bl (Nat.pow_le_pow_right (by decide) (by unfold TB; omega)), fun i hi => by
    obtain ⟨z, hz⟩ := ht i hi
    exact tz_of (sf i hi) bl hz, fun i hi => ?_, fun j hj => ?_, ?_⟩
  · have h1 := Rat.mul_nonneg (y.nn i) (Rat.le_of_lt bp)
    rw [← hq i hi] at h1
    exact_mod_cast h1
  · rw [hs]
    have h := y.come j (by omega)
    rw [sm_cols] at h
    have h1 : restCol m j = 0 := if_pos hj
    have h2 : colOf m r j = r.2 j := if_pos hj
    rw [h1, h2] at h
    have h3 : SX.sm n (fun i => f i * (colOf m (R i) j : Rat)) = SX.sm n (fun i => f i * ((R i).2 j : Rat)) := SX.sm_congr fun i hi => by
      unfold colOf
      rw [if_pos hj]
    rw [h3] at h
    have e : ((0 : Int) : Rat) = 0 := rfl
    rw [e] at h
    have : SX.sm n (fun i => f i * ((R i).2 j : Rat)) = (r.2 j : Rat) := by grind
    rw [this]
  · rw [hs]
    have h := y.come m (by omega)
    rw [sm_cols] at h
    have h1 : restCol m m = 1 := if_neg (Nat.lt_irrefl m)
    have h2 : colOf m r m = r.1 := if_neg (Nat.lt_irrefl m)
    rw [h1, h2] at h
    have h3 : SX.sm n (fun i => f i * (colOf m (R i) m : Rat)) = SX.sm n (fun i => f i * ((R i).1 : Rat)) := SX.sm_congr fun i hi => by
      unfold colOf
      rw [if_neg (Nat.lt_irrefl m)]
    rw [h3] at h
    have e : ((1 : Int) : Rat) = 1 := rfl
    rw [e] at h
    have nn := y.nn n
    have : SX.sm n (fun i => f i * ((R i).1 : Rat)) ≤ (r.1 : Rat) := by grind
    have h4 := Rat.mul_nonneg (Rat.le_of_lt bp) (show 0 ≤ (r.1 : Rat) - SX.sm n (fun i => f i * ((R i).1 : Rat)) by grind)
    grind
theorem cd_turn {D m : Nat} {g : Nat → Rat} (h : Cd D (m + 1) g) : Cd D m (fun k => 0 - g k) := by
  obtain ⟨d, d0, dl, hd⟩ := h
  refine ⟨d, d0, dl, fun j hj => ?_⟩
  obtain ⟨u, e, ul⟩ := hd j (by omega)
  refine ⟨-u, ?_, by rw [Int.natAbs_neg]; exact ul⟩
  rw [Rat.intCast_neg, ← e]
  grind
/-- whole times that come to less than 0 -/
structure NevI (n m : Nat) (R : Nat → Row) (t : Nat → Int) : Prop where
  tz : ∀ i, i < n → (t i).natAbs < 2 ^ TB n
  nn : ∀ i, i < n → 0 ≤ t i
  k : ∀ j, j < m → SX.sm n (fun i => (t i : Rat) * ((R i).2 j : Rat)) = 0
  c : SX.sm n (fun i => (t i : Rat) * ((R i).1 : Rat)) < 0
theorem NevI.no {n m : Nat} {R : Nat → Row} {t : Nat → Int} {z : Nat → Rat} (h : NevI n m R t) : ¬ Hold m n R z := Nev.no (f := fun i => (t i : Rat)) ⟨fun i hi => by exact_mod_cast h.nn i hi, h.k, h.c⟩
theorem nevI_of {n m b : Nat} {R : Nat → Row} {f : Nat → Rat} (y : Nev n m R f) (b0 : 0 < b) (bl : b < 2 ^ (1 + n * 112)) (sf : ∀ i, i < n → Sz 112 (f i)) (ht : ∀ i, i < n → ∃ z : Int, (z : Rat) = f i * (b : Rat)) : NevI n m R (fun i => (f i * (b : Rat)).num) := by
  have hq : ∀ i, i < n → (((f i * (b : Rat)).num : Int) : Rat) = f i * (b : Rat) := fun i hi => by
    obtain ⟨z, hz⟩ := ht i hi
    exact (isI hz).2
  have bp : (0 : Rat) < (b : Rat) := by exact_mod_cast b0
  have hs : ∀ g : Nat → Rat, SX.sm n (fun i => (((f i * (b : Rat)).num : Int) : Rat) * g i) = (b : Rat) * SX.sm n (fun i => f i * g i) := fun g => by
    rw [← SX.sm_mul]
    exact SX.sm_congr fun i hi => by rw [hq i hi]; grind
  refine ⟨fun i hi => by
    obtain ⟨z, hz⟩ := ht i hi
    exact tz_of (sf i hi) bl hz, fun i hi => ?_, fun j hj => ?_, ?_⟩
  · have h1 := Rat.mul_nonneg (y.nn i hi) (Rat.le_of_lt bp)
    rw [← hq i hi] at h1
    exact_mod_cast h1
  · rw [hs, y.k j hj]
    grind
  · rw [hs]
    have := Rat.mul_pos bp (show 0 < - SX.sm n (fun i => f i * ((R i).1 : Rat)) by have := y.c; grind)
    grind
/-- prices that bar a ROW: a point, or a way -/
theorem spot_low {n m a : Nat} {R : Nat → Row} {r : Row} {g : Nat → Rat} (w : No (n + 1) (m + 1) a (colsOf n m R) (colOf m r) g) (neg : g m < 0) : Hold m n R (fun k => (0 - g k) / (0 - g m)) ∧ rv m r (fun k => (0 - g k) / (0 - g m)) < 0 := by
  refine ⟨fun i hi => SX.point_pos neg (bar_row w hi), SX.point_neg neg ?_⟩
  have h := w.pos
  have e : SX.sm (m + 1) (fun k => g k * (colOf m r k : Rat)) = SX.sm (m + 1) (fun k => g k * SX.colQ m (r.1 : Rat) (fun j => (r.2 j : Rat)) k) := SX.sm_congr fun k hk => by rw [col_q]
  rw [e] at h
  exact h
theorem falls_pos {n m a : Nat} {R : Nat → Row} {r : Row} {g : Nat → Rat} (w : No (n + 1) (m + 1) a (colsOf n m R) (colOf m r) g) (z : g m = 0) : 0 < fallsOf m r (fun k => 0 - g k) := by
  have h := w.pos
  have e : SX.sm (m + 1) (fun k => g k * (colOf m r k : Rat)) = SX.sm (m + 1) (fun k => g k * SX.colQ m (r.1 : Rat) (fun j => (r.2 j : Rat)) k) := SX.sm_congr fun k hk => by rw [col_q]
  rw [e] at h
  have q := SX.way_of (m := m) (c0 := (r.1 : Rat)) (k0 := fun j => (r.2 j : Rat)) (g := g) z
  unfold fallsOf rv
  have e0 : ((0 : Int) : Rat) = 0 := rfl
  simp only [e0]
  grind
theorem along_ok {n m a : Nat} {R : Nat → Row} {r : Row} {g z : Nat → Rat} (w : No (n + 1) (m + 1) a (colsOf n m R) (colOf m r) g) (z0 : g m = 0) (hz : Hold m n R z) : Hold m n R (along m r z (fun k => 0 - g k)) ∧ rv m r (along m r z (fun k => 0 - g k)) < 0 := by
  have fp := falls_pos w z0
  unfold along
  split
  · exact ⟨hz, by assumption⟩
  · rename_i c
    have c : 0 ≤ rv m r z := by grind
    have dir : ∀ r' : Row, SX.sm m (fun j => (r'.2 j : Rat) * (0 - g j)) = - fallsOf m r' (fun k => 0 - g k) := fun r' => by
      unfold fallsOf rv
      have e0 : ((0 : Int) : Rat) = 0 := rfl
      simp only [e0]
      grind
    have t0 : 0 ≤ (rv m r z + 1) / fallsOf m r (fun k => 0 - g k) := SX.div_nonneg (by grind) fp
    constructor
    · intro i hi
      rw [rv_val, SX.val_add]
      have b := bar_row w hi
      have q := SX.way_of (m := m) (c0 := ((R i).1 : Rat)) (k0 := fun j => ((R i).2 j : Rat)) (g := g) z0
      have h1 : 0 ≤ SX.sm m (fun j => ((R i).2 j : Rat) * (0 - g j)) := by grind
      have h2 := Rat.mul_nonneg t0 h1
      have h3 := hz i hi
      rw [rv_val] at h3
      grind
    · rw [rv_val, SX.val_add, dir, ← rv_val]
      have := SX.div_mul_self (a := rv m r z + 1) fp
      grind
section
variable {K : PySem.W.Frag} {σ : L2.St} {H H' F : Hp} {ta tb te : TE} {P P' : V → Hp → Prop} {n m : Nat} {Pi Pj : Nat → V → Hp → Prop} {v c : V}
/-- (c, *pair) -/
theorem ep_star2 {AB : V → V → Hp → Prop} (h : EvP te σ H P) (hz : ∀ v H, P v H → ∃ T a b, v = .ref T ∧ SqT K H T [a, b] ∧ AB a b H) (mAB : ∀ a b H H', Ex H H' → AB a b H → AB a b H') :
    EvP (tTup (tCons (tC c) (StX.tStar K te tNil))) σ H (fun v H => ∃ T a b, v = .ref T ∧ SqT K H T [c, a, b] ∧ AB a b H) := fun H1 e Q q => by
  refine h H1 e _ fun v H2 e2 pv => ?_
  obtain ⟨T, a, b, ev, s, hab⟩ := hz v H2 pv
  exact ⟨T, [a, b], ev, .inl s, by show 3 ≤ sizeLine; decide, fun p hp => q _ _ (e2.trans (Ex.new hp)) ⟨p, a, b, rfl, st_of upd_same, mAB a b _ _ (Ex.new hp) hab⟩⟩
theorem wh_ints {f : Nat → Rat} {b : Nat} {t : V} (h : TsP K n (fun i x _ => ∃ z : Int, x = .int z ∧ (z : Rat) = f i * (b : Rat)) t H) : IntsT K n (fun i => (f i * (b : Rat)).num) t H ∧ ∀ i, i < n → ∃ z : Int, (z : Rat) = f i * (b : Rat) := by
  refine ⟨ts_congr (fun i x H hi ⟨z, h1, h2⟩ => by rw [h1]; show V.int z = V.int (f i * (b : Rat)).num; rw [(isI h2).1]) h, fun i hi => ?_⟩
  obtain ⟨p, xs, _, _, hl, hx⟩ := h
  obtain ⟨x, hx'⟩ := nd_at hl hi
  obtain ⟨z, _, hz⟩ := hx i x hx'
  exact ⟨z, hz⟩
def SomeAB (K : PySem.W.Frag) (n m : Nat) (R : Nat → Row) : V → V → Hp → Prop := fun a b H => (b = .non ∧ ∃ f, RowP K n f a H ∧ (∀ i, i < n → Sz 112 (f i)) ∧ Nev n m R f) ∨ (a = .non ∧ ∃ z, RowP K m z b H ∧ Cd 113 m z ∧ Hold m n R z)
theorem someAB {R : Nat → Row} : ∀ v H, SomeP K n m R v H → ∃ T a b, v = .ref T ∧ SqT K H T [a, b] ∧ SomeAB K n m R a b H := by
  rintro v H (⟨T, ti, f, rfl, h1, h2, h3, h4⟩ | ⟨T, sp, z, rfl, h1, h2, h3, h4⟩)
  · exact ⟨T, ti, _, rfl, h1, .inl ⟨rfl, f, h2, h3, h4⟩⟩
  · exact ⟨T, _, sp, rfl, h1, .inr ⟨rfl, z, h2, h3, h4⟩⟩
theorem row_nn {f : Nat → Rat} (h : RowP K n f v H) : v ≠ .non := by
  obtain ⟨p, _, rfl, _⟩ := h
  exact fun z => by cases z
end
section
variable {P : Program} {w : World} {K : PySem.W.Frag} {mg : Str → Option Value} {base : Heap}
/-! ### told_following -/
abbrev sTold : Stmt := top 40
abbrev nTold : List Str := ["many", "rows", "row", "quick", "columns", "word", "found", "times", "spot", "way", "low", "own"]
/-- what follows tells -/
def FolP (K : PySem.W.Frag) (n m : Nat) (R : Nat → Row) (r : Row) : V → Hp → Prop := fun v H =>
  (∃ T b u t, v = .ref T ∧ SqT K H T [.str "times", .int ((b : Nat) : Int), u] ∧ IntsT K n t u H ∧ Fol n m R r b t) ∨
  (∃ T u t, v = .ref T ∧ SqT K H T [.str "never", u] ∧ IntsT K n t u H ∧ NevI n m R t) ∨
  (∃ T u z, v = .ref T ∧ SqT K H T [.str "spot", u] ∧ FrsT K m z u H ∧ Cd 250 m z ∧ Hold m n R z ∧ rv m r z < 0)
def spTold (K : PySem.W.Frag) : Sp := fun vs H Q _ => ∃ (n m A M : Nat) (R : Nat → Row) (r : Row) (v u : V), vs = [.int (m : Int), v, u] ∧ RwsP K n m R v H ∧ RwP K m r u H ∧ Mb m A M ∧ Rb A M m n R ∧ r.1.natAbs ≤ M ∧ (∀ j, j < m → (r.2 j).natAbs ≤ A) ∧ n ≤ 60 ∧ RetP (FolP K n m R r) H Q
structure Words (mg : Str → Option Value) : Prop where
  times : ∃ t, mg "TIMES" = some (.str "times" t)
  never : ∃ t, mg "NEVER" = some (.str "never" t)
  spot : ∃ t, mg "SPOT" = some (.str "spot" t)
theorem scTold : FnScope nTold ["many", "rows", "row"] (defScope sTold) := ⟨rfl, rfl, rfl, by decide +kernel, rfl, by decide +kernel, by decide +kernel⟩
theorem ok_told {f fQ fC fR fP fW fS fT fL fU fA aN : Addr} {fd fdQ fdC fdR fdP fdW fdS fdT fdL fdU fdA : FuncData} (F : Fun K "told_following" "told_following" sTold f fd) (B : Bl2 mg) (Wo : Words mg) (N : FrC K mg "NOTHING" 0 aN) (Qk : Has P w K mg base "quick_times" 1 ["rows", "row"] (spQuick K) fQ fdQ)
    (Co : Has P w K mg base "column_of" 1 ["row"] (spColumnOf K) fC fdC) (Re : Has P w K mg base "rest_column" 1 ["many"] spRestColumn fR fdR) (Pf : Has P w K mg base "parts_for" 9 ["columns", "goal"] (spPartsFor K) fP fdP) (Wh : Has P w K mg base "whole" 2 ["fractions"] (spWhole K) fW fdW)
    (So : Has P w K mg base "some_spot" 10 ["many", "rows"] (spSomeSpot K) fS fdS) (Tu : Has P w K mg base "turned_prices" 4 ["prices"] (spTurned K) fT fdT) (Le : Has P w K mg base "less" 1 f2N (spLess K) fL fdL) (Qu : Has P w K mg base "quotient" 3 f2N (spFr2 K (fun q => q ≠ 0) (· / ·)) fU fdU)
    (Al : Has P w K mg base "spot_along" 5 ["spot", "way", "row"] (spAlong K) fA fdA) : FnOk P w K mg base CX0 11 f fd ["many", "rows", "row"] (spTold K) := by
  obtain ⟨⟨tt, gt⟩, ⟨tn, gn⟩, ⟨ts, gs⟩⟩ := Wo
  refine F.ok scTold (fun vs H Q E h => ?_) (fun cdv A outer s H vs Q E hr h => ?_)
  · obtain ⟨n, m, A', M, R, r, v, u, rfl, _⟩ := h
    rfl
  · obtain ⟨n, m, A', M, R, r, v, u, rfl, hv, hu, mb, rb, rc, rk, hn, k⟩ := h
    refine ⟨_, pss_cons (ps_set (i := 3) scTold.nd rfl (.inl rfl) (pe_cl Qk (hr.mono (by decide)) (pa_cons (pv 1) (pa_cons (pv 2) pa_nil))))
      (pss_cons (ps_if (pt_cmpR op_notN1 (pv 3) pe_non (nomark _)) (pss_one (ps_ret (pe_tup (pa_cons (pe_glob (v := .str "times") rfl gt ⟨_, rfl⟩) (StX.pa_star (pv 3) pa_nil))))) pss_nil)
      (pss_cons (ps_set (i := 4) scTold.nd rfl (.inl rfl) (pe_op op_cat (pe_lc (own := [("own", 11)]) (g := gName 11) (tt := tYes) rfl scTold.nd (pi_tup (pv 1)) (blkOk_by (N := nTold) (sc := defScope sTold) (by decide +kernel))
          (fun _ _ _ _ _ => pg_name (i := 11) scTold.nd rfl (.inl rfl)) (fun _ _ _ _ _ => pts_nil) (fun _ _ _ _ _ => pe_cl Co (hr.mono (by decide)) (pa_cons (pv 11) pa_nil))) (pe_lst (pa_cons (pe_cl Re (hr.mono (by decide)) (pa_cons (pv 0) pa_nil)) pa_nil))))
      (pss_cons (ps_asg (pe_cl Pf (hr.mono (by decide)) (pa_cons (pv 4) (pa_cons (pe_cl Co (hr.mono (by decide)) (pa_cons (pv 2) pa_nil)) pa_nil))) (pg_tup rfl (pgs_cons (pg_name (i := 5) scTold.nd rfl (.inl rfl)) (pgs_cons (pg_name (i := 6) scTold.nd rfl (.inl rfl)) pgs_nil))))
      (pss_cons (ps_if (pt_cmpR op_eq (pv 5) pe_str (nomark _)) (pss_one (ps_ret (pe_tup (pa_cons (pe_glob (v := .str "times") rfl gt ⟨_, rfl⟩) (StX.pa_star (pe_cl Wh (hr.mono (by decide)) (pa_cons (pe_slice sl_list (pv 6) po_none (po_some (pe_un un_neg pe_int))) pa_nil)) pa_nil))))) pss_nil)
      (pss_cons (ps_asg (pe_cl So hr (pa_cons (pv 0) (pa_cons (pv 1) pa_nil))) (pg_tup rfl (pgs_cons (pg_name (i := 7) scTold.nd rfl (.inl rfl)) (pgs_cons (pg_name (i := 8) scTold.nd rfl (.inl rfl)) pgs_nil))))
      (pss_cons (ps_if (pt_cmpR op_notN1 (pv 7) pe_non (nomark _)) (pss_one (ps_ret (pe_tup (pa_cons (pe_glob (v := .str "never") rfl gn ⟨_, rfl⟩) (pa_cons (pe_ix ix_tup (pe_cl Wh (hr.mono (by decide)) (pa_cons (pv 7) pa_nil)) pe_int (fun _ _ => rfl)) pa_nil))))) pss_nil)
      (pss_cons (ps_asg (pe_cl Tu (hr.mono (by decide)) (pa_cons (pv 6) pa_nil)) (pg_tup rfl (pgs_cons (pg_name (i := 9) scTold.nd rfl (.inl rfl)) (pgs_cons (pg_name (i := 10) scTold.nd rfl (.inr rfl)) pgs_nil))))
      (pss_cons (ps_if (pt_val (pe_cl Le (hr.mono (by decide)) (pa_cons (pe_glob (v := .ref aN) rfl N.gl rfl) (pa_cons (pv 10) pa_nil)))) (pss_one (ps_ret (pe_tup (pa_cons (pe_glob (v := .str "spot") rfl gs ⟨_, rfl⟩) (pa_cons (pe_callTy call_tuple_of (by rfl) B.tuple (by decide +kernel) (pa_cons (pe_lc (own := [("own", 11)]) (g := gName 11) (tt := tYes) rfl scTold.nd (pi_list (pv 9)) (blkOk_by (N := nTold) (sc := defScope sTold) (by decide +kernel))
          (fun _ _ _ _ _ => pg_name (i := 11) scTold.nd rfl (.inl rfl)) (fun _ _ _ _ _ => pts_nil) (fun _ _ _ _ _ => pe_cl Qu (hr.mono (by decide)) (pa_cons (pv 11) (pa_cons (pv 10) pa_nil)))) pa_nil)) pa_nil))))) pss_nil)
      (pss_one (ps_ret (pe_tup (pa_cons (pe_glob (v := .str "spot") rfl gs ⟨_, rfl⟩) (pa_cons (pe_callTy call_tuple_of (by rfl) B.tuple (by decide +kernel) (pa_cons (pe_cl Al (hr.mono (by decide)) (pa_cons (pv 8) (pa_cons (pv 9) (pa_cons (pv 2) pa_nil)))) pa_nil)) pa_nil))))))))))))), ?_⟩
    have m5 := mb.m5
    refine qp_asg (P := QkP K n m R r) (ep_callV (ea_cons (ev_var rfl) (ea_cons (ev_var rfl) ea_nil)) fun H1 e1 Q q => ⟨n, m, R, r, v, u, rfl, rws_mono _ _ _ e1 hv, rw_mono _ _ _ e1 hu, by omega, by omega, q⟩) fun qv H1 e1 hq => ?_
    refine q_when (b := !decide (qv = .non)) (et_notN (ev_var rfl)) (fun hb H2 e2 => ?_) fun hb H2 e2 => ?_
    · rcases hq with rfl | hq
      · simp at hb
      · refine sp_ret (P := FolP K n m R r) (ep_w (ep_star2 (P := fun v H => ∃ T u t, v = .ref T ∧ SqT K H T [.int 1, u] ∧ IntsT K n t u H ∧ Fol n m R r 1 t) (AB := fun a b H => a = .int 1 ∧ ∃ t, IntsT K n t b H ∧ Fol n m R r 1 t) (ep_of (ev_var rfl) fun H3 e3 => (show ∃ T u t, qv = .ref T ∧ SqT K H3 T [.int 1, u] ∧ IntsT K n t u H3 ∧ Fol n m R r 1 t from by
          obtain ⟨T, u, t, h1, h2, h3, h4⟩ := hq
          exact ⟨T, u, t, h1, ex_t (e2.trans e3) h2, intsT_mono _ _ _ (e2.trans e3) h3, h4⟩)) (fun v H ⟨T, u, t, h1, h2, h3, h4⟩ => ⟨T, _, u, h1, h2, rfl, t, h3, h4⟩) (fun a b H H' e ⟨h1, t, h2, h3⟩ => ⟨h1, t, intsT_mono _ _ _ e h2, h3⟩)) fun v H3 e3 ⟨T, a, b, h1, h2, h3, t, h4, h5⟩ => .inl ⟨T, 1, b, t, h1, by subst h3; exact h2, h4, h5⟩) (k.go (e1.trans e2))
    have e12 := e1.trans e2
    have hv2 := rws_mono _ _ _ e12 hv
    have hu2 := rw_mono _ _ _ e12 hu
    refine qn_asg (P := ColsP (n + 1) (m + 1) (colsOf n m R)) (en_snoc (n := n) (c := fun j => colOf m (R j)) (d := restCol m) (en_lcN (sr_tupP (ep_varM rfl hv2 rws_mono) fun _ => rw_mono) (by omega) (fun _ => ints_mono) (fun _ => ints_lst) ?_) (en_callV (P := IntsP (m + 1) (restCol m)) (ea_cons (ev_var rfl) ea_nil) fun H1 e1 Q q => ⟨m, rfl, by omega, q⟩).p (by omega)) fun cs H3 c0 e3 hc => ?_
    · intro i x H2 hi e2 hX
      exact ⟨_, fun Q q => q, rfl, en_callV (ea_cons (ev_var rfl) ea_nil) fun H3 e3 Q q => ⟨m, R i, x, rfl, rw_mono _ _ _ e3 hX, by omega, q⟩⟩
    have Bd : Bds (n + 1) (m + 1) M 112 (colsOf n m R) (colOf m r) := bds_of mb rb hn fun i hi => by
      unfold colOf bd
      split
      · exact rk i (by assumption)
      · exact rc
    have hu3 := rw_mono _ _ _ e3 hu2
    refine q_two2 (ep_call (P := PartsR K (n + 1) (m + 1) 112 (colsOf n m R) (colOf m r)) (ap_two cols_mono (ep_varM rfl hc cols_mono) (en_callV (P := IntsP (m + 1) (colOf m r)) (ea_cons (ev_var rfl) ea_nil) fun H4 e4 Q q => ⟨m, r, u, rfl, rw_mono _ _ _ e4 hu3, by omega, q⟩).p) fun vs H4 e4 ⟨x, y, ev, h1, h2⟩ Q q => ?_) partsAB fun wd fo H4 e4 hab => ?_
    · subst ev
      exact ⟨n + 1, m + 1, M, 112, colsOf n m R, colOf m r, x, y, rfl, h1, h2, Bd, q⟩
    have e14 := (e12.trans e3).trans e4
    have na : n * 112 ≤ 60 * 112 := Nat.mul_le_mul_right _ hn
    rcases hab with ⟨rfl, f, hf, y⟩ | ⟨rfl, g, hg, no⟩
    · refine q_when (b := true) (et_is (et_test (ev_op (ev_var rfl) ev_c (rv_eq rfl))) (by simp)) (fun _ H5 e5 => ?_) fun z => absurd z (by decide)
      refine sp_ret (P := FolP K n m R r) (ep_w (ep_star2 (AB := fun a b H => ∃ b' : Nat, a = .int (b' : Int) ∧ 0 < b' ∧ b' < 2 ^ (1 + n * 112) ∧ TsP K n (fun i x _ => ∃ z : Int, x = .int z ∧ (z : Rat) = f i * (b' : Rat)) b H) (ep_call (P := WhP K n 112 f) (ap_1 (ep_cutL (ep_varM rfl (row_mono _ _ _ e5 hf) row_mono) fun _ => Fr.mono)) fun vs H6 e6 ⟨x, ev, h1⟩ Q q => ?_)
        (fun v H ⟨T, b, t, h1, h2, h3, hbl, h4⟩ => ⟨T, _, t, h1, h2, b, rfl, h3, hbl, h4⟩) (fun a b H H' e ⟨b', h1, h2, hbl, h3⟩ => ⟨b', h1, h2, hbl, ts_mono (fun _ => fun _ _ _ _ q => q) _ _ _ e h3⟩)) fun v H6 e6 ⟨T, a, b, h1, h2, b', h3, h4, hbl, h5⟩ => .inl ⟨T, b', b, _, h1, by subst h3; exact h2, (wh_ints h5).1, fol_parts y h4 hbl (fun i hi => y.sz i (by omega)) (wh_ints h5).2⟩) (k.go (e14.trans e5))
      subst ev
      exact ⟨n, 112, f, x, rfl, h1, fun i hi => y.sz i (by omega), by omega, by decide, by decide, by omega, q⟩
    refine q_when (b := false) (et_is (et_test (ev_op (ev_var rfl) ev_c (rv_eq rfl))) (by decide +kernel)) (fun z => absurd z (by decide)) fun _ H5 e5 => ?_
    have e15 := e14.trans e5
    refine q_two2 (ep_callV (P := SomeP K n m R) (ea_cons (ev_var rfl) (ea_cons (ev_var rfl) ea_nil)) fun H6 e6 Q q => ⟨n, m, A', M, R, v, rfl, rws_mono _ _ _ (e15.trans e6) hv, mb, rb, hn, q⟩) someAB fun ti sp H6 e6 hab => ?_
    have e16 := e15.trans e6
    rcases hab with ⟨rfl, f, hf, sf, nev⟩ | ⟨rfl, z, hz, sz, hold⟩
    · refine q_when (b := true) (et_is (et_notN (ev_var rfl)) (by simp [row_nn hf])) (fun _ H7 e7 => ?_) fun z => absurd z (by decide)
      refine sp_ret (P := FolP K n m R r) (ep_w (eu2 (P := fun x H => ∃ b' : Nat, 0 < b' ∧ b' < 2 ^ (1 + n * 112) ∧ TsP K n (fun i x _ => ∃ z : Int, x = .int z ∧ (z : Rat) = f i * (b' : Rat)) x H) (fun H8 e8 Q q => ?_) fun v H H' e ⟨b', h1, hbl, h2⟩ => ⟨b', h1, hbl, ts_mono (fun _ => fun _ _ _ _ q => q) _ _ _ e h2⟩) fun v H8 e8 ⟨T, x, h1, h2, b', h3, hbl, h4⟩ => .inr (.inl ⟨T, x, _, h1, h2, (wh_ints h4).1, nevI_of nev h3 hbl sf (wh_ints h4).2⟩)) (k.go (e16.trans e7))
      exact (ep_callV (P := WhP K n 112 f) (ea_cons (ev_var rfl) ea_nil) fun H9 e9 Q q => ⟨n, 112, f, ti, rfl, row_mono _ _ _ (e7.trans e9) hf, sf, by omega, by decide, by decide, by omega, q⟩) H8 e8 _ fun x H9 e9 ⟨T, b, t, h1, h2, h3, hbl, h4⟩ => ⟨T, _, 1, _, h1, rfl, h2, at1, q _ H9 e9 ⟨b, h3, hbl, h4⟩⟩
    refine q_when (b := false) (et_is (et_notN (ev_var rfl)) (by simp)) (fun z => absurd z (by decide)) fun _ H7 e7 => ?_
    have e17 := e16.trans e7
    have hg7 := row_mono _ _ _ ((e5.trans e6).trans e7) hg
    refine q_two (A := RowP K m fun k => 0 - g k) (B := Fr K (0 - g m)) (ep_callV (P := TuP K m g) (ea_cons (ev_var rfl) ea_nil) fun H8 e8 Q q => ⟨m, 116, g, fo, rfl, row_mono _ _ _ e8 hg7, no.sz, by omega, by decide, by decide, q⟩) (fun v H ⟨T, a, b, h1, h2, h3, h4⟩ => ⟨T, a, b, h1, h2, h3, h4⟩) fun wy lo H8 e8 hw hl => ?_
    have e18 := e17.trans e8
    have sl : Sz 118 (0 - g m) := sz_turn (no.sz m (by omega))
    refine q_when (b := decide (0 < 0 - g m)) (et_B (ev_less 1 118 (ep_of ev_c fun H9 _ => N.fr H9) (ep_varM rfl hl Fr.mono) (sz0 (by decide)) sl ⟨by decide, by decide, by decide⟩)) (fun hb H9 e9 => ?_) fun hb H9 e9 => ?_
    · have neg : g m < 0 := by have := of_decide_eq_true hb; grind
      refine sp_ret (P := FolP K n m R r) (ep_w (eu2 (ep_tuple (n := m) (Pi := fun k => Fr K ((0 - g k) / (0 - g m))) (en_lc (sr_listP (ep_varM rfl (row_mono _ _ _ e9 hw) row_mono) fun _ => Fr.mono) (by omega) (fun _ => Fr.mono) ?_).p fun _ => Fr.mono) frsT_mono) fun v H10 e10 ⟨T, x, h1, h2, h3⟩ => .inr (.inr ⟨T, x, _, h1, h2, h3, (cd_quot no.cd (by grind)).mono (by decide), spot_low no neg⟩)) (k.go (e18.trans e9))
      intro i x H10 hi e10 hX
      exact ⟨_, fun Q q => q, rfl, EvP.d tst_fr (ep_fr2 118 118 (ep_varM rfl hX Fr.mono) (ep_varM rfl (Fr.mono _ _ _ (e9.trans e10) hl) Fr.mono) (sz_turn (no.sz i (by omega))) sl ⟨by decide, by decide, by decide⟩ (by grind))⟩
    · have z0 : g m = 0 := by
        have h1 := bar_rest no
        have h2 := of_decide_eq_false hb
        grind
      have fp := falls_pos no z0
      have sml : Sml m r := ⟨by have := mb.M8; omega, fun j hj => by have := mb.M8; have := mb.AM; have := rk j hj; omega⟩
      have cy : Cd 113 m (fun k => 0 - g k) := cd_turn no.cd
      refine sp_ret (P := FolP K n m R r) (ep_w (eu2 (P := fun x H => FrsT K m (along m r z fun k => 0 - g k) x H ∧ Cd 250 m (along m r z fun k => 0 - g k)) (fun H10 e10 Q q => ?_) fun v H H' e ⟨h1, h2⟩ => ⟨frsT_mono _ _ _ e h1, h2⟩) fun v H10 e10 ⟨T, x, h1, h2, h3, h4⟩ => .inr (.inr ⟨T, x, _, h1, h2, h3, h4, along_ok no z0 hold⟩)) (k.go (e18.trans e9))
      refine (ep_callV (P := fun v H => RowP K m (along m r z fun k => 0 - g k) v H ∧ Cd 250 m (along m r z fun k => 0 - g k)) (ea_cons (ev_var rfl) (ea_cons (ev_var rfl) (ea_cons (ev_var rfl) ea_nil))) fun H11 e11 Q q => ⟨m, r, z, _, sp, wy, u, rfl, row_mono _ _ _ (((e7.trans e8).trans e9).trans e11) hz, row_mono _ _ _ (e9.trans e11) hw, rw_mono _ _ _ ((e18.trans e9).trans e11) hu, sml, sz, cy, m5, by grind, q⟩) H10 e10 _ fun x H11 e11 ⟨⟨p, xs, ep, h1, h2, h3⟩, h4⟩ =>
        ⟨p, xs, by rw [ep], .inl ⟨sq_of h1, fun l hn => q _ _ (e11.trans (Ex.new hn)) ⟨⟨l, xs, rfl, st_of upd_same, h2, fun i x k => Fr.mono _ _ _ (Ex.new hn) (h3 i x k)⟩, h4⟩⟩⟩
end
end EW
set_option Elab.async false
set_option linter.all false
set_option maxRecDepth 100000
set_option maxHeartbeats 4000000
set_option exponentiation.threshold 10000
namespace EW
open PySem PySem.Spec PyProof.Rows L2 Evl
section
variable {P : Program} {w : World} {K : PySem.W.Frag} {mg : Str → Option Value} {base : Heap}
abbrev sFollows : Stmt := top 41
abbrev nFollows : List Str := ["many", "rows", "row"]
theorem scFollows : FnScope nFollows ["many", "rows", "row"] (defScope sFollows) := ⟨rfl, rfl, rfl, by decide +kernel, rfl, by decide +kernel, by decide +kernel⟩
theorem ok_follows {f fC fT : Addr} {fd fdC fdT : FuncData} (F : Fun K "follows" "follows" sFollows f fd) (C : Has P w K mg base "check_following" 4 ["many", "rows", "row"] (spCheckFollowing K) fC fdC) (T : Has P w K mg base "told_following" 11 ["many", "rows", "row"] (spTold K) fT fdT) :
    FnOk P w K mg base CX0 12 f fd ["many", "rows", "row"] (spTold K) := by
  refine F.ok scFollows (fun vs H Q E h => ?_) (fun cdv A outer s H vs Q E hr h => ?_)
  · obtain ⟨n, m, A', M, R, r, v, u, rfl, _⟩ := h
    rfl
  · obtain ⟨n, m, A', M, R, r, v, u, rfl, hv, hu, mb, rb, rc, rk, hn, k⟩ := h
    refine ⟨_, pss_cons (ps_expr (pe_cl C (hr.mono (by decide)) (pa_cons (pv 0) (pa_cons (pv 1) (pa_cons (pv 2) pa_nil))))) (pss_one (ps_ret (pe_cl T hr (pa_cons (pv 0) (pa_cons (pv 1) (pa_cons (pv 2) pa_nil)))))), ?_⟩
    have m5 := mb.m5
    refine q_drop (v := .non) (ev_call (ea_cons (ev_var rfl) (ea_cons (ev_var rfl) (ea_cons (ev_var rfl) ea_nil))) fun H1 e1 Q q E => ⟨m, n, R, r, v, u, rfl, rws_mono _ _ _ e1 hv, rw_mono _ _ _ e1 hu, by omega, hn, q⟩) fun H1 e1 => ?_
    exact sp_ret (P := FolP K n m R r) (ep_callV (ea_cons (ev_var rfl) (ea_cons (ev_var rfl) (ea_cons (ev_var rfl) ea_nil))) fun H2 e2 Q q => ⟨n, m, A', M, R, r, v, u, rfl, rws_mono _ _ _ (e1.trans e2) hv, rw_mono _ _ _ (e1.trans e2) hu, mb, rb, rc, rk, hn, q⟩) (k.go e1)
end
end EW
set_option Elab.async false
set_option linter.all false
set_option maxRecDepth 100000
set_option maxHeartbeats 4000000
set_option exponentiation.threshold 30000
namespace EW
open PySem PySem.Spec PyProof.Rows L2 Evl
/-! ### data in the heap -/
mutual
inductive Dq (K : PySem.W.Frag) (H : Hp) : V → PyData → Prop
  | non : Dq K H .non .none
  | bl (b : Bool) : Dq K H (.bl b) (.bool b)
  | int (i : Int) : Dq K H (.int i) (.int i)
  | str (x : Str) : Dq K H (.str x) (.str x)
  | lst {a : Addr} {xs : List V} {ds : List PyData} : SqL K H a xs → DqAll K H xs ds → Dq K H (.ref a) (.list ds)
  | tup {a : Addr} {xs : List V} {ds : List PyData} : SqT K H a xs → DqAll K H xs ds → Dq K H (.ref a) (.tuple ds)
  | dct {a : Addr} : H a = some (.dK []) → Dq K H (.ref a) (.dict [])
inductive DqAll (K : PySem.W.Frag) (H : Hp) : List V → List PyData → Prop
  | nil : DqAll K H [] []
  | cons {v : V} {vs : List V} {d : PyData} {ds : List PyData} : Dq K H v d → DqAll K H vs ds → DqAll K H (v :: vs) (d :: ds)
end
section
variable {K : PySem.W.Frag} {H H' : Hp}
mutual
theorem Dq.mono (e : Ex H H') : ∀ {v : V} {d : PyData}, Dq K H v d → Dq K H' v d
  | _, _, .non => .non
  | _, _, .bl b => .bl b
  | _, _, .int i => .int i
  | _, _, .str x => .str x
  | _, _, .lst s a => .lst (ex_l e s) (a.mono e)
  | _, _, .tup s a => .tup (ex_t e s) (a.mono e)
  | _, _, .dct h => .dct (e _ _ h)
theorem DqAll.mono (e : Ex H H') : ∀ {vs : List V} {ds : List PyData}, DqAll K H vs ds → DqAll K H' vs ds
  | _, _, .nil => .nil
  | _, _, .cons h t => .cons (h.mono e) (t.mono e)
end
theorem DqAll.len : ∀ {vs : List V} {ds : List PyData}, DqAll K H vs ds → vs.length = ds.length
  | _, _, .nil => rfl
  | _, _, .cons _ t => by simp [t.len]
theorem DqAll.at_ : ∀ {vs : List V} {ds : List PyData}, DqAll K H vs ds → ∀ {i : Nat} {v : V}, vs[i]? = some v → ∃ d, ds[i]? = some d ∧ Dq K H v d
  | _, _, .nil, i, v, h => by simp at h
  | _, _, .cons a t, 0, v, h => by
    cases h
    exact ⟨_, rfl, a⟩
  | _, _, .cons a t, i + 1, v, h => by
    obtain ⟨d, h1, h2⟩ := t.at_ (i := i) (v := v) (by simpa using h)
    exact ⟨d, by simpa using h1, h2⟩
def tyN : PyData → String
  | .none => "NoneType"
  | .bool _ => "bool"
  | .int _ => "int"
  | .str _ => "str"
  | .list _ => "list"
  | .tuple _ => "tuple"
  | .dict _ => "dict"
def isT : PyData → Bool
  | .tuple _ => true
  | _ => false
def isIn : PyData → Bool
  | .int _ => true
  | _ => false
def isS : PyData → Bool
  | .str _ => true
  | _ => false
theorem Dq.ty {v : V} {d : PyData} (h : Dq K H v d) : TyX K H v (.type (tyN d)) := by
  cases h with
  | non => exact .base .non
  | bl b => exact .base (.bl b)
  | int i => exact .base (.int i)
  | str x => exact .base (.str x)
  | lst s _ =>
    rcases s with (s | ⟨o, s⟩) | ⟨o, its, k, h1, h2, _⟩
    · exact .base (.lst s)
    · exact .base (.frz s)
    · exact .kList h1 h2
  | tup s _ =>
    rcases s with (s | ⟨o, s⟩) | ⟨o, its, k, h1, h2, _⟩
    · exact .base (.tup s)
    · exact .fTuple s
    · exact .kTuple h1 h2
  | dct h => exact .base (.dK h)
theorem kit_tup (d : PyData) : PySem.W.kitOne K (.type (tyN d)) (.type "tuple") = some (isT d) := by
  cases d <;> (simp only [tyN, isT]; exact kit_ty (by decide +kernel))
theorem kit_str (d : PyData) : PySem.W.kitOne K (.type (tyN d)) (.type "str") = some (isS d) := by
  cases d <;> (simp only [tyN, isS]; exact kit_ty (by decide +kernel))
def isB : PyData → Bool
  | .bool _ => true
  | _ => false
theorem kit_bool (d : PyData) : PySem.W.kitOne K (.type (tyN d)) (.type "bool") = some (isB d) := by
  cases d <;> (simp only [tyN, isB]; exact kit_ty (by decide +kernel))
theorem kit_int (d : PyData) : PySem.W.kitOne K (.type (tyN d)) (.type "int") = some (isIn d || isB d) := by
  cases d <;> (simp only [tyN, isIn, isB]; exact kit_ty (by decide +kernel))
theorem Dq.intIs {v : V} {d : PyData} (h : Dq K H v d) : IntIs K v (isIn d) H := ⟨_, _, _, h.ty, kit_int d, kit_bool d, by cases d <;> rfl⟩
variable {σ : L2.St} {ta tb te : TE} {P P' : V → Hp → Prop} {d : PyData} {v : V} {n m : Nat}
theorem dq_mono : Mono (fun v H => Dq K H v d) := fun _ _ _ e h => h.mono e
theorem ev_isTD (ha : EvP ta σ H (fun v H => Dq K H v d)) : Ev (tCB (rIsi K) (tCons ta (tCons (tC (.ty "tuple")) tNil))) σ H (.bl (isT d)) := fun H1 e Q q => ha H1 e _ fun v H2 e2 h =>
  ⟨v, .ty "tuple", _, .type "tuple", _, rfl, .ty _, h.ty, kit_tup d, q H2 e2⟩
theorem ev_isSD (ha : EvP ta σ H (fun v H => Dq K H v d)) : Ev (tCB (rIsi K) (tCons ta (tCons (tC (.ty "str")) tNil))) σ H (.bl (isS d)) := fun H1 e Q q => ha H1 e _ fun v H2 e2 h =>
  ⟨v, .ty "str", _, .type "str", _, rfl, .ty _, h.ty, kit_str d, q H2 e2⟩
theorem ev_isID {E : XK} (ha : EvP ta σ H (fun v H => Dq K H v d)) : Ev (tCall (spIsInt K) [] E (tCons ta tNil)) σ H (.bl (isIn d)) := fun H1 e Q q => ha H1 e _ fun v H2 e2 h =>
  ⟨v, _, rfl, h.intIs, fun H3 e3 => q H3 (e2.trans e3)⟩
theorem ev_lenD {ds : List PyData} (ha : EvP ta σ H (fun v H => Dq K H v (.tuple ds))) : Ev (tCB (fun xs H Q => ∃ p ys, xs = [V.ref p] ∧ (SqL K H p ys ∨ SqT K H p ys) ∧ Q (.int ys.length) H) (tCons ta tNil)) σ H (.int (ds.length : Int)) := fun H1 e Q q =>
  ha H1 e _ fun v H2 e2 h => by
    cases h with
    | tup s a => exact ⟨_, _, rfl, .inr s, by rw [a.len]; exact q H2 e2⟩
theorem ep_ixD {ds : List PyData} {i : Nat} (ha : EvP ta σ H (fun v H => Dq K H v (.tuple ds))) (hi : ds[i]? = some d) : EvP (tOp (rIxT K) ta (tC (.int (i : Int)))) σ H (fun v H => Dq K H v d) := fun H1 e Q q =>
  ha H1 e _ fun x H2 e2 h => by
    cases h with
    | tup s a =>
      rename_i p xs
      have hlt : i < xs.length := by
        have := (List.getElem?_eq_some_iff.mp hi).1
        rw [a.len]
        exact this
      have hv : xs[i]? = some xs[i] := by simp [hlt]
      obtain ⟨d', h1, h2⟩ := a.at_ hv
      have : d' = d := Option.some.inj (h1.symm.trans hi)
      subst this
      exact ⟨p, xs, (i : Int), xs[i], rfl, rfl, s, atI_nat hv, q _ H2 e2 h2⟩
theorem dq_int {i : Int} (h : Dq K H v (.int i)) : v = .int i := by cases h; rfl
theorem dq_str {x : Str} (h : Dq K H v (.str x)) : v = .str x := by cases h; rfl
theorem ev_dInt {i : Int} (ha : EvP ta σ H (fun v H => Dq K H v (.int i))) : Ev ta σ H (.int i) := p_ev (ep_w ha fun v _ _ h => dq_int h)
theorem ev_dStr {x : Str} (ha : EvP ta σ H (fun v H => Dq K H v (.str x))) : Ev ta σ H (.str x) := p_ev (ep_w ha fun v _ _ h => dq_str h)
/-- the members of a tuple, one by one -/
theorem dq_tsP {ds : List PyData} (h : Dq K H v (.tuple ds)) : TsP K ds.length (fun i x H => ∃ d, ds[i]? = some d ∧ Dq K H x d) v H := by
  cases h with
  | tup s a => exact ⟨_, _, rfl, s, a.len, fun i x hx => a.at_ hx⟩
theorem dqm_mono {ds : List PyData} (i : Nat) : Mono (fun x H => ∃ d, ds[i]? = some d ∧ Dq K H x d) := fun _ _ _ e ⟨d, h1, h2⟩ => ⟨d, h1, h2.mono e⟩
def pdI (n : Nat) (t : Nat → Int) : PyData := .tuple ((List.range n).map fun i => .int (t i))
theorem pdI_at {t : Nat → Int} {i : Nat} (hi : i < n) : ((List.range n).map fun i => PyData.int (t i))[i]? = some (.int (t i)) := by simp [hi]
theorem dq_ints {t : Nat → Int} (h : Dq K H v (pdI n t)) : IntsT K n t v H := by
  unfold pdI at h
  cases h with
  | tup s a =>
    refine ⟨_, _, rfl, s, by rw [a.len]; simp, fun i x hx => ?_⟩
    obtain ⟨d, h1, h2⟩ := a.at_ hx
    have hi : i < n := by
      have := (List.getElem?_eq_some_iff.mp h1).1
      simpa using this
    rw [pdI_at hi] at h1
    have := Option.some.inj h1
    subst this
    exact dq_int h2
theorem all_of : ∀ {xs : List V} {ds : List PyData}, xs.length = ds.length → (∀ (i : Nat) (x : V) (d : PyData), xs[i]? = some x → ds[i]? = some d → Dq K H x d) → DqAll K H xs ds
  | [], [], _, _ => .nil
  | x :: xs, d :: ds, hl, h => .cons (h 0 x d rfl rfl) (all_of (by simpa using hl) fun i y e h1 h2 => h (i + 1) y e (by simpa using h1) (by simpa using h2))
  | [], _ :: _, hl, _ => by simp at hl
  | _ :: _, [], hl, _ => by simp at hl
theorem ints_dq {t : Nat → Int} (h : IntsT K n t v H) : Dq K H v (pdI n t) := by
  obtain ⟨p, xs, rfl, s, hl, hx⟩ := h
  refine .tup s (all_of (by simp [hl]) fun i x d h1 h2 => ?_)
  have := hx i x h1
  subst this
  have hi : i < n := by
    have := (List.getElem?_eq_some_iff.mp h1).1
    omega
  rw [pdI_at hi] at h2
  have := Option.some.inj h2
  subst this
  exact .int _
def frD (q : Rat) : PyData := .tuple [.int q.num, .int (q.den : Int)]
def pdZ (m : Nat) (z : Nat → Rat) : PyData := .tuple ((List.range m).map fun j => frD (z j))
theorem fr_dq {q : Rat} (h : Fr K q v H) : Dq K H v (frD q) := by
  obtain ⟨a, rfl, s⟩ := h
  exact .tup s (.cons (.int _) (.cons (.int _) .nil))
theorem dq_fr {q : Rat} (h : Dq K H v (frD q)) : Fr K q v H := by
  unfold frD at h
  cases h with
  | tup s a =>
    cases a with
    | cons h1 t => cases t with
      | cons h2 t2 => cases t2 with
        | nil =>
          have e1 := dq_int h1
          have e2 := dq_int h2
          subst e1 e2
          exact ⟨_, rfl, s⟩
theorem frs_dq {z : Nat → Rat} (h : FrsT K m z v H) : Dq K H v (pdZ m z) := by
  obtain ⟨p, xs, rfl, s, hl, hx⟩ := h
  refine .tup s (all_of (by simp [hl]) fun i x d h1 h2 => ?_)
  have hi : i < m := by
    have := (List.getElem?_eq_some_iff.mp h1).1
    omega
  have : ((List.range m).map fun j => frD (z j))[i]? = some (frD (z i)) := by simp [hi]
  rw [this] at h2
  have := Option.some.inj h2
  subst this
  exact fr_dq (hx i x h1)
theorem dq_frs {z : Nat → Rat} (h : Dq K H v (pdZ m z)) : FrsT K m z v H := by
  unfold pdZ at h
  cases h with
  | tup s a =>
    refine ⟨_, _, rfl, s, by rw [a.len]; simp, fun i x hx => ?_⟩
    obtain ⟨d, h1, h2⟩ := a.at_ hx
    have hi : i < m := by
      have := (List.getElem?_eq_some_iff.mp h1).1
      simpa using this
    have : ((List.range m).map fun j => frD (z j))[i]? = some (frD (z i)) := by simp [hi]
    rw [this] at h1
    have := Option.some.inj h1
    subst this
    exact dq_fr h2
end
end EW
set_option Elab.async false
set_option linter.all false
set_option maxRecDepth 100000
set_option maxHeartbeats 4000000
set_option exponentiation.threshold 30000
namespace EW
open PySem PySem.Spec PyProof.Rows L2 Evl
def BoP (S : Prop) (v : V) (_ : Hp) : Prop := ∃ b : Bool, v = .bl b ∧ (b = true ↔ S)
theorem bo_mono {S : Prop} : Mono (BoP S) := fun _ _ _ _ h => h
variable {K : PySem.W.Frag} {σ : L2.St} {H H' : Hp} {ta tb te : TE} {t u : TT} {S T : Prop} {v : V} {Q : VK}
theorem et_orT (h : EvT t σ H true) : EvT (tOr t u) σ H true := et_is (b := true) (et_or (b := true) h fun z => by cases z) rfl
theorem et_orF {b : Bool} (h1 : EvT t σ H false) (h2 : EvT u σ H b) : EvT (tOr t u) σ H b := et_is (et_or h1 fun _ => h2) (by simp)
theorem et_andF (h : EvT t σ H false) : EvT (tAnd t u) σ H false := et_is (b := false) (et_and (b := true) h fun z => by cases z) rfl
theorem et_andT {b : Bool} (h1 : EvT t σ H true) (h2 : EvT u σ H b) : EvT (tAnd t u) σ H b := et_is (et_and h1 fun _ => h2) (by simp)
theorem et_boP {S : Prop} (h : EvP te σ H (BoP S)) (no : ¬ S) : EvT (tTest te) σ H false := et_test (p_ev (ep_w h fun v _ _ ⟨b, hv, hb⟩ => by
  cases b
  · exact hv
  · exact absurd (hb.mp rfl) no))
theorem et_boB {S : Prop} (h : EvP te σ H (BoP S)) (no : ¬ S) : EvT (tB te) σ H false := et_B (p_ev (ep_w h fun v _ _ ⟨b, hv, hb⟩ => by
  cases b
  · exact hv
  · exact absurd (hb.mp rfl) no))
theorem et_boY {S : Prop} (h : EvP te σ H (BoP S)) (yes : S) : EvT (tB te) σ H true := et_B (p_ev (ep_w h fun v _ _ ⟨b, hv, hb⟩ => by rw [hv, hb.mpr yes]))
open Classical in
theorem et_boV {S : Prop} (h : EvP ta σ H (BoP S)) : EvT (tB ta) σ H (decide S) := et_B (p_ev (ep_w h fun v _ _ ⟨b, hv, hb⟩ => by
  cases b
  · rw [hv, decide_eq_false fun k => absurd (hb.mpr k) (by decide)]
  · rw [hv, decide_eq_true (hb.mp rfl)]))
theorem ev_bo {S : Prop} (h : EvP te σ H (BoP S)) (yes : S) : Ev te σ H (.bl true) := p_ev (ep_w h fun v _ _ ⟨b, hv, hb⟩ => by rw [hv, hb.mpr yes])
theorem bo_of {b : Bool} (h : Ev te σ H (.bl b)) (e : b = true ↔ S) : EvP te σ H (BoP S) := ep_of h fun _ _ => ⟨b, rfl, e⟩
open Classical in
theorem bo_ev (h : EvP te σ H (BoP S)) : Ev te σ H (.bl (decide S)) := p_ev (ep_w h fun v _ _ ⟨b, hv, hb⟩ => by
  cases b
  · rw [hv, decide_eq_false fun k => absurd (hb.mpr k) (by decide)]
  · rw [hv, decide_eq_true (hb.mp rfl)])
theorem bo_not (h : EvP te σ H (BoP S)) (e : T ↔ ¬ S) : EvT (tNot (tB te)) σ H (@decide T (Classical.propDecidable T)) := by
  classical
  refine et_is (et_not (et_boV h)) ?_
  by_cases s : S
  · rw [decide_eq_true s, decide_eq_false fun t => e.mp t s]; rfl
  · rw [decide_eq_false s, decide_eq_true (e.mpr s)]; rfl
/-- a return of False -/
theorem ret_no {D : Ends} (no : ¬ S) {G : Hp} (k : RetP (BoP S) H D.rt) (e : Ex H G) : tRet (tC (.bl false)) D σ G := s_ret ev_c fun H2 e2 => k _ _ (e.trans e2) ⟨false, rfl, by simp [no]⟩
section
variable {P : Program} {w : World} {mg : Str → Option Value} {base : Heap}
/-! ### is_fraction -/
abbrev sIsFr : Stmt := top 14
def spIsFr (K : PySem.W.Frag) : Sp := fun vs H Q _ => ∃ v d, vs = [v] ∧ Dq K H v d ∧ RetP (BoP (∃ q : Rat, d = frD q)) H Q
theorem scIsFr : FnScope ["value"] ["value"] (defScope sIsFr) := ⟨rfl, rfl, rfl, by decide +kernel, rfl, by decide +kernel, by decide +kernel⟩
theorem fr_iff {a b : Int} : (decide (0 < b) && decide ((Int.gcd a b : Int) = 1)) = true ↔ ∃ q : Rat, PyData.tuple [.int a, .int b] = frD q := by
  rw [Bool.and_eq_true, decide_eq_true_eq, decide_eq_true_eq]
  constructor
  · rintro ⟨h1, h2⟩
    refine ⟨⟨a, b.natAbs, by omega, ?_⟩, ?_⟩
    · have : Nat.gcd a.natAbs b.natAbs = 1 := by
        have : Int.gcd a b = 1 := by omega
        exact this
      exact this
    · show _ = PyData.tuple [.int a, .int (b.natAbs : Int)]
      rw [Int.natAbs_of_nonneg (by omega)]
  · rintro ⟨q, h⟩
    unfold frD at h
    simp at h
    obtain ⟨rfl, rfl⟩ := h
    have := q.den_pos
    refine ⟨by omega, ?_⟩
    have h1 : Int.gcd q.num (q.den : Int) = 1 := q.reduced
    rw [h1]
    rfl
theorem ok_isFr {f fI fC : Addr} {fd fdI fdC : FuncData} (F : Fun K "is_fraction" "is_fraction" sIsFr f fd) (B : Bl2 mg) (B1 : Blt mg) (I : Has P w K mg base "is_integer" 1 ["value"] (spIsInt K) fI fdI) (Co : Has P w K mg base "common" 1 ["one", "other"] spCommon fC fdC) : FnOk P w K mg base CX0 2 f fd ["value"] (spIsFr K) := by
  refine F.ok scIsFr (fun vs H Q E h => ?_) (fun cdv A outer s H vs Q E hr h => ?_)
  · obtain ⟨v, d, rfl, _⟩ := h
    rfl
  · obtain ⟨v, d, rfl, hv, k⟩ := h
    refine ⟨_, pss_cons (ps_if (pw_or (pt_not (pt_val (pe_callB call_isi (by rfl) B1.isi (by decide +kernel) (pa_cons (pv 0) (pa_cons (pe_bltn (v := .ty "tuple") (by rfl) B.tuple (by decide +kernel) rfl) pa_nil)))))
        (pw_or (pt_cmpR op_ne (pe_callB call_len_seq (by rfl) B.len PySem.boot_len (pa_cons (pv 0) pa_nil)) pe_int (nomark _))
        (pw_or (pt_not (pt_val (pe_cl I hr (pa_cons (pe_ix ix_tup (pv 0) pe_int (fun _ _ => rfl)) pa_nil))))
        (pw_or1 (pt_not (pt_val (pe_cl I hr (pa_cons (pe_ix ix_tup (pv 0) pe_int (fun _ _ => rfl)) pa_nil)))))))).pt (pss_one (ps_ret pe_bl)) pss_nil)
      (pss_one (ps_ret (pe_and (pe_cmpR op_gt (pe_ix ix_tup (pv 0) pe_int (fun _ _ => rfl)) pe_int (nomark _)) (pe_one (pe_cmpR op_eq (pe_cl Co hr (pa_cons (pe_ix ix_tup (pv 0) pe_int (fun _ _ => rfl)) (pa_cons (pe_ix ix_tup (pv 0) pe_int (fun _ _ => rfl)) pa_nil))) pe_int (nomark _)))))), ?_⟩
    have hv0 : ∀ {d'}, d = d' → EvP (tVar 0) [some v] H (fun v H => Dq K H v d') := fun e => ep_varM rfl (e ▸ hv) dq_mono
    by_cases t1 : isT d = true
    · cases d with
      | tuple ds =>
        by_cases t2 : ds.length = 2
        · obtain ⟨x, y, rfl⟩ : ∃ x y, ds = [x, y] := by
            match ds, t2 with
            | [x, y], _ => exact ⟨x, y, rfl⟩
          have hx : ∀ {G}, Ex H G → EvP (tOp (rIxT K) (tVar 0) (tC (.int 0))) [some v] G (fun v H => Dq K H v x) := fun e => ep_ixD (i := 0) (ep_varM rfl (hv.mono e) dq_mono) rfl
          have hy : ∀ {G}, Ex H G → EvP (tOp (rIxT K) (tVar 0) (tC (.int 1))) [some v] G (fun v H => Dq K H v y) := fun e => ep_ixD (i := 1) (ep_varM rfl (hv.mono e) dq_mono) rfl
          by_cases t3 : isIn x = true
          · by_cases t4 : isIn y = true
            · cases x with
              | int a =>
                cases y with
                | int b =>
                  refine q_when (b := false) (et_orF (et_is (et_not (et_B (ev_isTD (hv0 rfl)))) rfl) (et_orF (et_is (et_test (ev_op (ev_lenD (hv0 rfl)) ev_c (rv_ne rfl))) (by rfl)) (et_orF (et_is (et_not (et_B (ev_isID (hx (Ex.refl _))))) rfl) (et_is (et_not (et_B (ev_isID (hy (Ex.refl _))))) rfl)))) (fun z => by cases z) fun _ H1 e1 => ?_
                  refine sp_ret (bo_of (ev_andV (ev_op (ev_dInt (hy e1)) ev_c rv_I0) fun _ => ev_op (ev_call (ea_cons (ev_dInt (hx e1)) (ea_cons (ev_dInt (hy e1)) ea_nil)) sv_common) ev_c (rv_eq rfl)) ?_) (k.go e1)
                  rw [← fr_iff]
                  simp
                | _ => simp [isIn] at t4
              | _ => simp [isIn] at t3
            · refine q_when (b := true) (et_orF (et_is (et_not (et_B (ev_isTD (hv0 rfl)))) rfl) (et_orF (et_is (et_test (ev_op (ev_lenD (hv0 rfl)) ev_c (rv_ne rfl))) (by rfl)) (et_orF (et_is (et_not (et_B (ev_isID (hx (Ex.refl _))))) (by rw [t3]; rfl)) (et_is (et_not (et_B (ev_isID (hy (Ex.refl _))))) (by simpa using t4))))) (fun _ H1 e1 => ret_no ?_ k e1) fun z => by cases z
              rintro ⟨q, h⟩
              unfold frD at h
              simp at h
              rw [h.2] at t4
              simp [isIn] at t4
          · refine q_when (b := true) (et_orF (et_is (et_not (et_B (ev_isTD (hv0 rfl)))) rfl) (et_orF (et_is (et_test (ev_op (ev_lenD (hv0 rfl)) ev_c (rv_ne rfl))) (by rfl)) (et_orT (et_is (et_not (et_B (ev_isID (hx (Ex.refl _))))) (by simpa using t3))))) (fun _ H1 e1 => ret_no ?_ k e1) fun z => by cases z
            rintro ⟨q, h⟩
            unfold frD at h
            simp at h
            rw [h.1] at t3
            simp [isIn] at t3
        · refine q_when (b := true) (et_orF (et_is (et_not (et_B (ev_isTD (hv0 rfl)))) rfl) (et_orT (et_is (et_test (ev_op (ev_lenD (hv0 rfl)) ev_c (rv_ne rfl))) ?_))) (fun _ H1 e1 => ret_no ?_ k e1) fun z => by cases z
          · have : ¬ (ds.length : Int) = 2 := by omega
            simp [this]
          · rintro ⟨q, h⟩
            unfold frD at h
            simp at h
            rw [h] at t2
            simp at t2
      | _ => simp [isT] at t1
    · refine q_when (b := true) (et_orT (et_is (et_not (et_B (ev_isTD (hv0 rfl)))) (by simpa using t1))) (fun _ H1 e1 => ret_no ?_ k e1) fun z => by cases z
      rintro ⟨q, h⟩
      rw [h] at t1
      simp [isT, frD] at t1
end
end EW
set_option Elab.async false
set_option linter.all false
set_option maxRecDepth 100000
set_option maxHeartbeats 4000000
set_option exponentiation.threshold 10000
namespace EW
open PySem PySem.Spec PyProof.Rows L2 Evl
/-! ### all but the pot stands -/
def Xb (p : Addr) (H H' : Hp) : Prop := ∀ a o, a ≠ p → H a = some o → H' a = some o
theorem Xb.refl (p : Addr) (H : Hp) : Xb p H H := fun _ _ _ h => h
theorem Xb.trans {p : Addr} {H H1 H2 : Hp} (a : Xb p H H1) (b : Xb p H1 H2) : Xb p H H2 := fun x o n h => b x o n (a x o n h)
theorem xb_ex {p : Addr} {H H' : Hp} (e : Ex H H') : Xb p H H' := fun a o _ h => e a o h
theorem xb_up {p : Addr} {H : Hp} {o : HO} : Xb p H (upd H p o) := fun a o n h => by rw [upd_ne n]; exact h
/-- the draws: what is left of the own digits, the mixed number, how many were mixed -/
def Pot (p : Addr) (c : Nat) (H : Hp) : Prop := ∃ a b k : Nat, H p = some (.lst [.int (a : Int), .int (b : Int), .int (k : Int)]) ∧ a < 2 ^ 1000 ∧ b < 2 ^ 61 ∧ k ≤ c
theorem pot_ex {p : Addr} {c : Nat} {H H' : Hp} (e : Ex H H') (h : Pot p c H) : Pot p c H' := by
  obtain ⟨a, b, k, h1, h2⟩ := h
  exact ⟨a, b, k, e _ _ h1, h2⟩
theorem pot_le {p : Addr} {c d : Nat} {H : Hp} (l : c ≤ d) (h : Pot p c H) : Pot p d H := by
  obtain ⟨a, b, k, h1, h2, h3, h4⟩ := h
  exact ⟨a, b, k, h1, h2, h3, by omega⟩
theorem pot_mt {p : Addr} {c : Nat} {H : Hp} (h : Pot p c H) : ∃ o, H p = some o ∧ Mt o := by
  obtain ⟨a, b, k, h1, _⟩ := h
  exact ⟨_, h1, mt_l⟩
/-- what a change of a list leaves -/
def MonoB (P : V → Hp → Prop) : Prop := ∀ p v H H', (∃ o, H p = some o ∧ Mt o) → Xb p H H' → P v H → P v H'
section
variable {K : PySem.W.Frag} {n m : Nat} {Pi : Nat → V → Hp → Prop}
theorem sqT_xb {p a : Addr} {H H' : Hp} {xs : List V} (hp : ∃ o, H p = some o ∧ Mt o) (e : Xb p H H') (s : SqT K H a xs) : SqT K H' a xs := by
  obtain ⟨o, hD, mt⟩ := hp
  rcases s with s | s
  · have ne := ne_mt s hD mt
    rcases s with s | ⟨ob, s⟩
    · exact .inl (.inl (e _ _ ne s))
    · exact .inl (.inr ⟨ob, e _ _ ne s⟩)
  · exact .inr s
theorem fr_xb {q : Rat} : MonoB (Fr K q) := fun p v H H' hp e ⟨a, h1, h2⟩ => ⟨a, h1, sqT_xb hp e h2⟩
theorem ts_xb (h : ∀ i, MonoB (Pi i)) : MonoB (TsP K n Pi) := fun p v H H' hp e ⟨a, xs, h1, h2, h3, h4⟩ => ⟨a, xs, h1, sqT_xb hp e h2, h3, fun i x q => h i p x H H' hp e (h4 i x q)⟩
theorem eq_xb {y : V} : MonoB (fun x _ => x = y) := fun _ _ _ _ _ _ q => q
theorem intsT_xb {f : Nat → Int} : MonoB (IntsT K m f) := ts_xb fun _ => eq_xb
theorem rw_xb {r : Row} : MonoB (RwP K m r) := fun p v H H' hp e ⟨T, t, h1, h2, h3⟩ => ⟨T, t, h1, sqT_xb hp e h2, intsT_xb p _ _ _ hp e h3⟩
theorem rws_xb {R : Nat → Row} : MonoB (RwsP K n m R) := ts_xb fun _ => rw_xb
theorem frsT_xb {f : Nat → Rat} : MonoB (FrsT K n f) := ts_xb fun _ => fr_xb
end
/-- a value, the pot changed by it: c draws were mixed at most, then d -/
def EvM (te : TE) (σ : L2.St) (p : Addr) (c d : Nat) (H : Hp) (P : V → Hp → Prop) : Prop := ∀ H1, Xb p H H1 → Pot p c H1 → ∀ Q : VK, (∀ v H2, Xb p H1 H2 → Pot p d H2 → P v H2 → Q v H2) → te σ H1 Q
section
variable {K : PySem.W.Frag} {σ : L2.St} {H H' F : Hp} {ta tb tc te : TE} {P P' Pz : V → Hp → Prop} {n m c d e : Nat} {p : Addr} {D : Ends} {tz : TS}
theorem m_of (h : ∀ H1, Xb p H H1 → Pot p c H1 → EvP te σ H1 P) : EvM te σ p c c H P := fun H1 x po Q q => h H1 x po H1 (Ex.refl _) Q fun v H2 e2 pv => q v H2 (xb_ex e2) (pot_ex e2 po) pv
theorem m_w (h : EvM te σ p c d H P) (q : ∀ v H2, Xb p H H2 → P v H2 → P' v H2) : EvM te σ p c d H P' := fun H1 x po Q k => h H1 x po Q fun v H2 x2 p2 pv => k v H2 x2 p2 (q v H2 (x.trans x2) pv)
theorem m_mono (x : Xb p H H') (h : EvM te σ p c d H P) : EvM te σ p c d H' P := fun H1 x1 => h H1 (x.trans x1)
/-- an operation on a changing value and a still one -/
theorem m_op {r : R2} (ha : EvM ta σ p c d H P) (hb : EvM tb σ p d e H P') (mP : MonoB P) (hr : ∀ x y H1, Xb p H H1 → Pot p e H1 → P x H1 → P' y H1 → EvP (fun _ G Q => r x y G Q) σ H1 Pz) : EvM (tOp r ta tb) σ p c e H Pz := fun H1 x po Q q =>
  ha H1 x po _ fun u H2 x2 p2 pu => hb H2 (x.trans x2) p2 _ fun v H3 x3 p3 pv => hr u v H3 ((x.trans x2).trans x3) p3 (mP p _ _ _ (pot_mt p2) x3 pu) pv H3 (Ex.refl _) Q fun w H4 e4 pw => q w H4 ((x2.trans x3).trans (xb_ex e4)) (pot_ex e4 p3) pw
theorem rp_I {C : Int → Int → Prop} {g : Int → Int → V} {i j : Int} (hc : C i j) : EvP (fun _ G Q => rI C g (.int i) (.int j) G Q) σ H (fun v _ => v = g i j) := fun H1 e Q q => ⟨i, j, rfl, rfl, hc, q _ H1 (Ex.refl _) rfl⟩
theorem rp_I0 {g : Int → Int → V} {i j : Int} : EvP (fun _ G Q => rI0 g (.int i) (.int j) G Q) σ H (fun v _ => v = g i j) := fun H1 e Q q => ⟨i, j, rfl, rfl, q _ H1 (Ex.refl _) rfl⟩
/-- int(an int) -/
theorem m_int {G : Int → Prop} (ha : EvM ta σ p c d H (fun v _ => ∃ i : Int, v = .int i ∧ G i)) : EvM (tCB (fun xs H Q => (∃ i, xs = [V.int i] ∧ Q (.int i) H) ∨ ∃ k, xs = [V.bl k] ∧ Q (.int (if k then 1 else 0)) H) (tCons ta tNil)) σ p c d H (fun v _ => ∃ i : Int, v = .int i ∧ G i) := fun H1 x po Q q =>
  ha H1 x po _ fun v H2 x2 p2 ⟨i, ev, pi⟩ => .inl ⟨i, by rw [ev], q _ H2 x2 p2 ⟨i, rfl, pi⟩⟩
/-- a statement of it -/
theorem qm_asg {i : Nat} (h : EvM te σ p c d H P) (po : Pot p c H) (k : ∀ v H1, Xb p H H1 → Pot p d H1 → P v H1 → tz D (σ.set i (some v)) H1) : tSeq (tAsg te (gName i)) tz D σ H := h H (Xb.refl _ _) po _ fun v H1 x p1 pv => k v H1 x p1 pv
theorem sm_ret (h : EvM te σ p c d H P) (po : Pot p c H) (k : ∀ v H1, Xb p H H1 → Pot p d H1 → P v H1 → D.rt v H1) : tRet te D σ H := h H (Xb.refl _ _) po _ fun v H1 x p1 pv => k v H1 x p1 pv
end
theorem q_setP {σ : L2.St} {H : Hp} {ta tb te : TE} {P : V → Hp → Prop} {D : Ends} {tz : TS} {l : Addr} {j : Nat} (h : EvP te σ H P) (mP : Mono P) (ho : ∀ H1, Ex H H1 → Ev ta σ H1 (.ref l)) (hi : ∀ H1, Ex H H1 → Ev tb σ H1 (.int (j : Int))) (k : ∀ v H1, Ex H H1 → P v H1 → ∃ xs, H1 l = some (.lst xs) ∧ j < xs.length ∧ tz D σ (upd H1 l (.lst (xs.set j v)))) :
    tSeq (tAsg te (gSub ta tb rSetL)) tz D σ H := s_setP (D := { D with nx := tz D }) h mP ho hi k
/-! ### numbers of bounded size -/
def NN (n : Nat) (v : V) (_ : Hp) : Prop := ∃ k : Nat, v = .int (k : Int) ∧ k < 2 ^ n
theorem nn_mono {n : Nat} : Mono (NN n) := fun _ _ _ _ q => q
section
variable {K : PySem.W.Frag} {σ : L2.St} {H : Hp} {ta tb te : TE} {m n : Nat}
theorem nn_of {k : Nat} (h : Ev te σ H (.int (k : Int))) (hk : k < 2 ^ n) : EvP te σ H (NN n) := ep_of h fun _ _ => ⟨k, rfl, hk⟩
theorem nn_c {k : Nat} (hk : k < 2 ^ n) : EvP (tC (.int (k : Int))) σ H (NN n) := nn_of ev_c hk
theorem nn_add {k : Nat} (ha : EvP ta σ H (NN m)) (hb : EvP tb σ H (NN n)) (l : m ≤ k) (l' : n ≤ k) : EvP (tOp (rI0 fun i j => .int (i + j)) ta tb) σ H (NN (k + 1)) := fun H1 e Q q =>
  ha H1 e _ fun x H2 e2 ⟨a, h1, h2⟩ => hb H2 (e.trans e2) _ fun y H3 e3 ⟨b, h3, h4⟩ => ⟨a, b, h1, h3, q _ H3 (e2.trans e3) ⟨a + b, by push_cast; rfl, by
    have := Nat.pow_le_pow_right (show 0 < 2 by decide) l
    have := Nat.pow_le_pow_right (show 0 < 2 by decide) l'
    rw [Nat.pow_succ]
    omega⟩⟩
theorem nn_mul (ha : EvP ta σ H (NN m)) (hb : EvP tb σ H (NN n)) (m0 : 0 < m) (n0 : 0 < n) (l : m + n ≤ 1000000) : EvP (tOp (rI CMulW fun i j => .int (i * j)) ta tb) σ H (NN (m + n)) := fun H1 e Q q =>
  ha H1 e _ fun x H2 e2 ⟨a, h1, h2⟩ => hb H2 (e.trans e2) _ fun y H3 e3 ⟨b, h3, h4⟩ => ⟨a, b, h1, h3, wide_mul (by simpa using h2) (by simpa using h4) m0 n0 l, q _ H3 (e2.trans e3) ⟨a * b, by push_cast; rfl, by
    rw [Nat.pow_add]
    exact Nat.mul_lt_mul'' h2 h4⟩⟩
theorem nn_mod {u : Nat} (ha : EvP ta σ H (NN m)) (hb : Ev tb σ H (.int (u : Int))) (u0 : 0 < u) (hu : u ≤ 2 ^ n) : EvP (tOp (rI (fun _ j => j ≠ 0) fun i j => .int (i.fmod j)) ta tb) σ H (fun v _ => ∃ k : Nat, v = .int (k : Int) ∧ k < u) := fun H1 e Q q =>
  ha H1 e _ fun x H2 e2 ⟨a, h1, h2⟩ => hb H2 (e.trans e2) _ fun H3 e3 => ⟨a, u, h1, rfl, by omega, q _ H3 (e2.trans e3) ⟨a % u, by show V.int ((a : Int).fmod (u : Int)) = _; rw [Int.fmod_eq_emod_of_nonneg _ (Int.natCast_nonneg u)]; rfl, Nat.mod_lt _ u0⟩⟩
theorem nn_modP (ha : EvP ta σ H (NN m)) (hb : EvP tb σ H (fun v _ => ∃ u : Nat, v = .int (u : Int) ∧ 0 < u ∧ u ≤ 2 ^ n)) : EvP (tOp (rI (fun _ j => j ≠ 0) fun i j => .int (i.fmod j)) ta tb) σ H (NN n) := fun H1 e Q q =>
  ha H1 e _ fun x H2 e2 ⟨a, h1, h2⟩ => hb H2 (e.trans e2) _ fun y H3 e3 ⟨u, h3, u0, hu⟩ => ⟨a, u, h1, h3, by omega, q _ H3 (e2.trans e3) ⟨a % u, by show V.int ((a : Int).fmod (u : Int)) = _; rw [Int.fmod_eq_emod_of_nonneg _ (Int.natCast_nonneg u)]; rfl, Nat.lt_of_lt_of_le (Nat.mod_lt _ u0) hu⟩⟩
theorem nn_div {u : Nat} (ha : EvP ta σ H (NN m)) (hb : Ev tb σ H (.int (u : Int))) (u0 : 0 < u) (hu : u < 2 ^ 9000) : EvP (tOp (rI CDivX fun i j => .int (i.fdiv j)) ta tb) σ H (NN m) := fun H1 e Q q =>
  ha H1 e _ fun x H2 e2 ⟨a, h1, h2⟩ => hb H2 (e.trans e2) _ fun H3 e3 => ⟨a, u, h1, rfl, ⟨by omega, PySem.Flt.log2_lt_of (by decide) (by simpa using hu)⟩, q _ H3 (e2.trans e3) ⟨a / u, by show V.int ((a : Int).fdiv (u : Int)) = _; rw [Int.fdiv_eq_ediv_of_nonneg _ (Int.natCast_nonneg u)]; rfl, Nat.lt_of_le_of_lt (Nat.div_le_self _ _) h2⟩⟩
theorem nn_pow {k : Nat} (ha : EvP ta σ H (NN m)) (k0 : k ≠ 0) (hm : m * k ≤ 2 ^ 27) : EvP (tOp (rI CPowX fun i j => .int (i ^ j.toNat)) ta (tC (.int (k : Int)))) σ H (NN (m * k)) := fun H1 e Q q =>
  ha H1 e _ fun x H2 e2 ⟨a, h1, h2⟩ => ⟨a, (k : Int), h1, rfl, powX_ok (by simpa using h2) hm, q _ H2 e2 ⟨a ^ k, by push_cast; rfl, by
    rw [Nat.pow_mul]
    exact Nat.pow_lt_pow_left h2 k0⟩⟩
theorem nn_int (ha : EvP ta σ H (NN m)) : EvP (tCB (fun xs H Q => (∃ i, xs = [V.int i] ∧ Q (.int i) H) ∨ ∃ k, xs = [V.bl k] ∧ Q (.int (if k then 1 else 0)) H) (tCons ta tNil)) σ H (NN m) := fun H1 e Q q => ha H1 e _ fun x H2 e2 ⟨a, h1, h2⟩ => .inl ⟨a, by rw [h1], q _ H2 e2 ⟨a, rfl, h2⟩⟩
end
section
variable {P : Program} {w : World} {K : PySem.W.Frag} {mg : Str → Option Value} {base : Heap}
/-! ### _law_take -/
abbrev sTake : Stmt := top 50
abbrev nTake : List Str := ["pot", "upto", "digit", "prime", "blend"]
def spTake : Sp := fun vs H Q _ => ∃ (p : Addr) (c u : Nat), vs = [.ref p, .int (u : Int)] ∧ Pot p c H ∧ c < 2 ^ 60 ∧ 0 < u ∧ u < 2 ^ 60 ∧ ∀ (t : Nat) H2, t < u → Xb p H H2 → Pot p (c + 1) H2 → Q (.int (t : Int)) H2
theorem scTake : FnScope nTake ["pot", "upto"] (defScope sTake) := ⟨rfl, rfl, rfl, by decide +kernel, rfl, by decide +kernel, by decide +kernel⟩
theorem ok_take {f : Addr} {fd : FuncData} (F : Fun K "_law_take" "_law_take" sTake f fd) (B : Bl2 mg) : FnOk P w K mg base CX0 1 f fd ["pot", "upto"] spTake := by
  refine F.ok scTake (fun vs H Q E h => ?_) (fun cdv A outer s H vs Q E hr h => ?_)
  · obtain ⟨p, c, u, rfl, _⟩ := h
    rfl
  · obtain ⟨p, c, u, rfl, ⟨a, b, k, hp, ha, hb, hk⟩, hc, u0, u1, kk⟩ := h
    refine ⟨_, pss_cons (ps_if (pt_cmpR op_gt (pe_ix ix_list (pv 0) pe_int (fun _ _ => rfl)) pe_int (nomark _))
        (pss_cons (ps_set (i := 2) scTake.nd rfl (.inl rfl) (pe_op op_modN (pe_callTy call_int1 (by rfl) B.int (by decide +kernel) (pa_cons (pe_ix ix_list (pv 0) pe_int (fun _ _ => rfl)) pa_nil)) (pv 1)))
        (pss_cons (ps_asg (pe_op op_fdivX (pe_ix ix_list (pv 0) pe_int (fun _ _ => rfl)) (pv 1)) (pg_sub (pv 0) pe_int set_list))
        (pss_one (ps_ret (pv 2))))) pss_nil)
      (pss_cons (ps_asg (pe_op op_add (pe_ix ix_list (pv 0) pe_int (fun _ _ => rfl)) pe_int) (pg_sub (pv 0) pe_int set_list))
      (pss_cons (ps_set (i := 3) scTake.nd rfl (.inl rfl) (pe_ix ix_list (pe_lst (pa_cons pe_int (pa_cons pe_int (pa_cons pe_int (pa_cons pe_int (pa_cons pe_int pa_nil)))))) (pe_op op_modN (pe_callTy call_int1 (by rfl) B.int (by decide +kernel) (pa_cons (pe_ix ix_list (pv 0) pe_int (fun _ _ => rfl)) pa_nil)) pe_int) (fun _ _ => rfl)))
      (pss_cons (ps_set (i := 4) scTake.nd rfl (.inl rfl) (pe_op op_modN (pe_callTy call_int1 (by rfl) B.int (by decide +kernel) (pa_cons (pe_op op_powX (pe_callTy call_int1 (by rfl) B.int (by decide +kernel) (pa_cons (pe_op op_add (pe_op op_add (pe_ix ix_list (pv 0) pe_int (fun _ _ => rfl)) (pe_op op_mulW (pe_op op_mulW pe_int (pe_ix ix_list (pv 0) pe_int (fun _ _ => rfl))) (pe_ix ix_list (pv 0) pe_int (fun _ _ => rfl)))) pe_int) pa_nil)) pe_int) pa_nil)) (pv 3)))
      (pss_cons (ps_set (i := 4) scTake.nd rfl (.inl rfl) (pe_op op_modN (pe_callTy call_int1 (by rfl) B.int (by decide +kernel) (pa_cons (pe_op op_mulW (pv 4) (pe_op op_add (pe_op op_modN (pe_callTy call_int1 (by rfl) B.int (by decide +kernel) (pa_cons (pv 4) pa_nil)) pe_int) (pe_op op_mulW pe_int (pe_ix ix_list (pv 0) pe_int (fun _ _ => rfl))))) pa_nil)) pe_int))
      (pss_one (ps_ret (pe_op op_modN (pe_callTy call_int1 (by rfl) B.int (by decide +kernel) (pa_cons (pe_op op_fdivX (pv 4) pe_int) pa_nil)) (pv 1)))))))), ?_⟩
    have ix : ∀ (σ : L2.St) (G : Hp) (x y z : V) (j : Int) (v : V), σ[0]? = some (some (.ref p)) → G p = some (.lst [x, y, z]) → atI [x, y, z] j = some v → Ev (tOp (rIxL K) (tVar 0) (tC (.int j))) σ G v := fun σ G x y z j v hσ hG hv => ev_op (ev_var hσ) ev_c (rv_ixL (sq_of hG) hv)
    refine q_when (b := decide ((0 : Int) < (a : Int))) (et_test (ev_op (ix _ _ _ _ _ _ _ rfl hp at0) ev_c rv_I0)) (fun hz H1 e1 => ?_) fun hz H1 e1 => ?_
    · have h1 := e1 _ _ hp
      refine qp_asg (nn_mod (n := 60) (nn_int (nn_of (ix _ _ _ _ _ _ _ rfl h1 at0) ha)) (ev_var rfl) u0 (by omega)) fun dv H2 e2 ⟨t, et, ht⟩ => ?_
      subst et
      have h2 := e2 _ _ h1
      refine q_setP (j := 0) (nn_div (nn_of (ix _ _ _ _ _ _ _ rfl h2 at0) ha) (ev_var rfl) u0 (Nat.lt_trans u1 (Nat.pow_lt_pow_right (by decide) (by decide)))) nn_mono (fun H3 e3 => ev_var rfl) (fun H3 e3 => ev_c) fun v H3 e3 ⟨a', hv, ha'⟩ => ?_
      subst hv
      have h3 := e3 _ _ h2
      refine ⟨_, h3, by show 0 < 3; decide, s_ret (ev_var rfl) fun H4 e4 => kk t H4 ht (((xb_ex ((e1.trans e2).trans e3)).trans xb_up).trans (xb_ex e4)) (pot_ex e4 ⟨a', b, k, upd_same, ha', hb, by omega⟩)⟩
    · have h1 := e1 _ _ hp
      refine q_setP (P := fun v _ => v = .int ((k + 1 : Nat) : Int)) (j := 2) (ep_of (ev_op (ix _ _ _ _ _ _ _ rfl h1 at2) ev_c rv_I0) fun _ _ => by push_cast; rfl) mono_eq (fun H3 e3 => ev_var rfl) (fun H3 e3 => ev_c) fun v H2 e2 hv => ?_
      subst hv
      have h2 := e2 _ _ h1
      refine ⟨_, h2, by show 2 < 3; decide, ?_⟩
      have x2 : Xb p H (upd H2 p (.lst ([V.int (a : Int), .int (b : Int), .int (k : Int)].set 2 (.int ((k + 1 : Nat) : Int))))) := (xb_ex (e1.trans e2)).trans xb_up
      have h3 : (upd H2 p (.lst ([V.int (a : Int), .int (b : Int), .int (k : Int)].set 2 (.int ((k + 1 : Nat) : Int))))) p = some (.lst [.int (a : Int), .int (b : Int), .int ((k + 1 : Nat) : Int)]) := upd_same
      generalize upd H2 p (.lst ([V.int (a : Int), .int (b : Int), .int (k : Int)].set 2 (.int ((k + 1 : Nat) : Int)))) = H3 at x2 h3 ⊢
      have k61 : k + 1 < 2 ^ 61 := by omega
      refine qp_asg (P := fun v _ => ∃ u : Nat, v = .int (u : Int) ∧ 0 < u ∧ u ≤ 2 ^ 32) (fun H4 e4 Q q => ?_) fun pr H4 e4 hpr => ?_
      · refine el_lst (vs := [.int 2147483647, .int 2147483629, .int 2147483587, .int 2147483579, .int 2147483563]) (ea_cons ev_c (ea_cons ev_c (ea_cons ev_c (ea_cons ev_c (ea_cons ev_c ea_nil))))) (by decide) H4 e4 _ fun l H5 l0 e5 hl => ?_
        refine (nn_mod (u := 5) (n := 3) (nn_int (nn_of (ix _ _ _ _ _ _ _ rfl ((e4.trans e5) _ _ h3) at2) k61)) ev_c (by decide) (by decide)) H5 (Ex.refl _) _ fun y H6 e6 ⟨t, ey, ht⟩ => ?_
        subst ey
        have hx : ∃ u : Nat, ([V.int 2147483647, .int 2147483629, .int 2147483587, .int 2147483579, .int 2147483563])[t]? = some (.int (u : Int)) ∧ 0 < u ∧ u ≤ 2 ^ 32 := by
          have : t = 0 ∨ t = 1 ∨ t = 2 ∨ t = 3 ∨ t = 4 := by omega
          rcases this with rfl | rfl | rfl | rfl | rfl
          · exact ⟨2147483647, rfl, by decide, by decide⟩
          · exact ⟨2147483629, rfl, by decide, by decide⟩
          · exact ⟨2147483587, rfl, by decide, by decide⟩
          · exact ⟨2147483579, rfl, by decide, by decide⟩
          · exact ⟨2147483563, rfl, by decide, by decide⟩
        obtain ⟨u', hu', hu2⟩ := hx
        exact ⟨l, _, (t : Int), _, rfl, rfl, sq_of (e6 _ _ hl), atI_nat hu', q _ H6 (e5.trans e6) ⟨u', rfl, hu2⟩⟩
      have h4 := e4 _ _ h3
      have p2 : ∀ (σ : L2.St) (G : Hp), σ[0]? = some (some (.ref p)) → Ex H4 G → EvP (tOp (rIxL K) (tVar 0) (tC (.int 2))) σ G (NN 61) := fun σ G hσ eG => nn_of (ix _ _ _ _ _ _ _ hσ (eG _ _ h4) at2) k61
      refine qp_asg (P := NN 32) (nn_modP (m := 141 * 3) (n := 32) (nn_int (nn_pow (m := 141) (k := 3) (nn_int (nn_add (k := 140) (nn_add (m := 61) (n := 139) (k := 139) (nn_of (ix _ _ _ _ _ _ _ rfl h4 at1) hb) (nn_mul (m := 78) (n := 61) (nn_mul (m := 17) (n := 61) (nn_c (k := 126125) (by decide)) (p2 _ _ rfl (Ex.refl _)) (by decide) (by decide) (by decide)) (p2 _ _ rfl (Ex.refl _)) (by decide) (by decide) (by decide)) (by decide) (by decide)) (nn_c (n := 13) (k := 7173) (by decide)) (by decide) (by decide))) (by decide) (by decide))) (ep_of (ev_var rfl) fun _ _ => hpr)) fun bl H5 e5 hbl => ?_
      refine qp_asg (P := NN 61) (ep_w (nn_mod (m := 107) (n := 61) (u := 2305843009213693907) (nn_int (nn_mul (m := 32) (n := 75) (ep_of (ev_var rfl) fun _ _ => hbl) (nn_add (k := 74) (m := 16) (n := 74) (ep_w (nn_mod (m := 32) (n := 16) (u := 33655) (nn_int (ep_of (ev_var rfl) fun _ _ => hbl)) ev_c (by decide) (by decide)) fun v _ _ ⟨t, h1, h2⟩ => ⟨t, h1, by omega⟩) (nn_mul (m := 13) (n := 61) (nn_c (k := 4047) (by decide)) (p2 _ _ rfl e5) (by decide) (by decide) (by decide)) (by decide) (by decide)) (by decide) (by decide) (by decide))) ev_c (by decide) (by decide)) fun v _ _ ⟨t, h1, h2⟩ => ⟨t, h1, by omega⟩) fun b2 H6 e6 hb2 => ?_
      refine sp_ret (nn_mod (m := 61) (n := 60) (nn_int (nn_div (u := 10717) (ep_of (ev_var rfl) fun _ _ => hb2) ev_c (by decide) (by decide))) (ev_var rfl) u0 (by omega)) fun v H7 e7 ⟨t, hv, ht⟩ => ?_
      subst hv
      have e37 := ((e4.trans e5).trans e6).trans e7
      exact kk t H7 ht (x2.trans (xb_ex e37)) (pot_ex e37 ⟨a, b, k + 1, h3, ha, hb, by omega⟩)
end
end EW
set_option Elab.async false
set_option linter.all false
set_option maxRecDepth 100000
set_option maxHeartbeats 4000000
set_option exponentiation.threshold 10000
namespace EW
open PySem PySem.Spec PyProof.Rows L2 Evl
/-- any int -/
def AI (v : V) (_ : Hp) : Prop := ∃ i : Int, v = .int i
section
variable {K : PySem.W.Frag} {σ : L2.St} {H : Hp} {ta tb te : TE} {m n : Nat}
theorem ai_of {i : Int} (h : Ev te σ H (.int i)) : EvP te σ H AI := ep_of h fun _ _ => ⟨i, rfl⟩
theorem ai_add (ha : EvP ta σ H AI) (hb : EvP tb σ H AI) : EvP (tOp (rI0 fun i j => .int (i + j)) ta tb) σ H AI := fun H1 e Q q =>
  ha H1 e _ fun x H2 e2 ⟨a, h1⟩ => hb H2 (e.trans e2) _ fun y H3 e3 ⟨b, h3⟩ => ⟨a, b, h1, h3, q _ H3 (e2.trans e3) ⟨a + b, rfl⟩⟩
theorem ai_mod {u : Nat} (ha : EvP ta σ H AI) (hb : Ev tb σ H (.int (u : Int))) (u0 : 0 < u) : EvP (tOp (rI (fun _ j => j ≠ 0) fun i j => .int (i.fmod j)) ta tb) σ H (fun v _ => ∃ k : Nat, v = .int (k : Int) ∧ k < u) := fun H1 e Q q =>
  ha H1 e _ fun x H2 e2 ⟨a, h1⟩ => hb H2 (e.trans e2) _ fun H3 e3 => ⟨a, u, h1, rfl, by omega, q _ H3 (e2.trans e3) ⟨(a % (u : Int)).toNat, by
    show V.int (a.fmod (u : Int)) = _
    rw [Int.fmod_eq_emod_of_nonneg _ (Int.natCast_nonneg u), Int.toNat_of_nonneg (Int.emod_nonneg _ (by omega))], by
    have := Int.emod_lt_of_pos a (show (0 : Int) < u by omega)
    have := Int.emod_nonneg a (show (u : Int) ≠ 0 by omega)
    omega⟩⟩
theorem ai_int (ha : EvP ta σ H AI) : EvP (tCB (fun xs H Q => (∃ i, xs = [V.int i] ∧ Q (.int i) H) ∨ ∃ k, xs = [V.bl k] ∧ Q (.int (if k then 1 else 0)) H) (tCons ta tNil)) σ H AI := fun H1 e Q q => ha H1 e _ fun x H2 e2 ⟨a, h1⟩ => .inl ⟨a, by rw [h1], q _ H2 e2 ⟨a, rfl⟩⟩
theorem ai_ge {j : Int} (ha : EvP ta σ H AI) (hb : Ev tb σ H (.int j)) : EvP (tOp (rI0 fun i j => .bl (decide (j ≤ i))) ta tb) σ H (fun v _ => ∃ b : Bool, v = .bl b) := fun H1 e Q q =>
  ha H1 e _ fun x H2 e2 ⟨a, h1⟩ => hb H2 (e.trans e2) _ fun H3 e3 => ⟨a, j, h1, rfl, q _ H3 (e2.trans e3) ⟨_, rfl⟩⟩
theorem nn_intB (ha : EvP ta σ H (fun v _ => ∃ b : Bool, v = .bl b)) : EvP (tCB (fun xs H Q => (∃ i, xs = [V.int i] ∧ Q (.int i) H) ∨ ∃ k, xs = [V.bl k] ∧ Q (.int (if k then 1 else 0)) H) (tCons ta tNil)) σ H (NN 1) := fun H1 e Q q => ha H1 e _ fun x H2 e2 ⟨b, h1⟩ => .inr ⟨b, by rw [h1], q _ H2 e2 (by
  cases b
  · exact ⟨0, rfl, by decide⟩
  · exact ⟨1, rfl, by decide⟩)⟩
theorem ai_sumCut {a : Addr} {ns : List Int} (ha : Ev ta σ H (.ref a)) (hs : SqL K H a (ns.map V.int)) : EvP (tCB (rSum K) (tCons (tSl (rSlL K) ta tNoPart (tPart (tC (.int 1)))) tNil)) σ H AI := fun H1 e Q q => ha H1 e _ fun H2 e2 => ⟨1, rfl, a, _, rfl, ex_l (e.trans e2) hs, fun p hp => ⟨p, (ns.drop (HT.sIx ns.length 0 none)).take (HT.sIx ns.length ns.length (some 1) - HT.sIx ns.length 0 none), rfl, by
  have : cutV (ns.map V.int) none (some 1) = ((ns.drop (HT.sIx ns.length 0 none)).take (HT.sIx ns.length ns.length (some 1) - HT.sIx ns.length 0 none)).map V.int := by
    unfold cutV
    rw [List.length_map, List.map_take, List.map_drop]
  rw [this]
  exact sq_of upd_same, q _ _ (e2.trans (Ex.new hp)) ⟨_, rfl⟩⟩⟩
theorem en_lst3 {tc : TE} {A B C : V → Hp → Prop} (ha : EvP ta σ H A) (mA : Mono A) (hb : EvP tb σ H B) (mB : Mono B) (hc : EvP tc σ H C) (mC : Mono C) : EvN (tLst (tCons ta (tCons tb (tCons tc tNil)))) σ H (fun v H => ∃ p x y z, v = .ref p ∧ H p = some (.lst [x, y, z]) ∧ A x H ∧ B y H ∧ C z H) := fun H1 e Q q =>
  ha H1 e _ fun x H2 e2 hx => hb H2 (e.trans e2) _ fun y H3 e3 hy => hc H3 ((e.trans e2).trans e3) _ fun z H4 e4 hz => ⟨by show 3 ≤ sizeLine; decide, fun p hp => q p _ (fresh_back ((e2.trans e3).trans e4) hp) (((e2.trans e3).trans e4).trans (Ex.new hp)) ⟨p, x, y, z, rfl, upd_same, mA _ _ _ ((e3.trans e4).trans (Ex.new hp)) hx, mB _ _ _ (e4.trans (Ex.new hp)) hy, mC _ _ _ (Ex.new hp) hz⟩⟩
theorem ai_abs (ha : EvP ta σ H AI) : EvP (tCB (fun xs H Q => ∃ i, xs = [V.int i] ∧ Q (.int (if i < 0 then -i else i)) H) (tCons ta tNil)) σ H AI := fun H1 e Q q => ha H1 e _ fun x H2 e2 ⟨a, h1⟩ => ⟨a, by rw [h1], q _ H2 e2 ⟨_, rfl⟩⟩
end
section
variable {P : Program} {w : World} {K : PySem.W.Frag} {mg : Str → Option Value} {base : Heap}
structure Bl3 (mg : Str → Option Value) : Prop where
  list : mg "list" = none
  max : mg "max" = none
  min : mg "min" = none
  sum : mg "sum" = none
  abs : mg "abs" = none
/-! ### _law_cells -/
abbrev sCells : Stmt := top 52
def spCells (K : PySem.W.Frag) : Sp := fun vs H Q _ => ∃ (a : Addr) (ns : List Int) (k : Nat), vs = [.ref a, .int (k : Int)] ∧ SqL K H a (ns.map V.int) ∧ k ≤ 100 ∧ ∀ p H2, H p = none → Ex H H2 → (∃ n, n ≤ 100 ∧ IntsP n (fun i => (i : Int)) (.ref p) H2) → Q (.ref p) H2
theorem scCells : FnScope ["script", "most"] ["script", "most"] (defScope sCells) := ⟨rfl, rfl, rfl, by decide +kernel, rfl, by decide +kernel, by decide +kernel⟩
theorem ok_cells {f : Addr} {fd : FuncData} (F : Fun K "_law_cells" "_law_cells" sCells f fd) (B : Bl2 mg) (B3 : Bl3 mg) : FnOk P w K mg base CX0 1 f fd ["script", "most"] (spCells K) := by
  refine F.ok scCells (fun vs H Q E h => ?_) (fun cdv A outer s H vs Q E hr h => ?_)
  · obtain ⟨a, ns, k, rfl, _⟩ := h
    rfl
  · obtain ⟨a, ns, k, rfl, hs, hk, kk⟩ := h
    refine ⟨_, pss_one (ps_ret (pe_listRg rfl (by rfl) B3.list (prg_1 (by rfl) B.range (pe_callB (call_max2 rfl) (by rfl) B3.max (by decide +kernel) (pa_cons pe_int (pa_cons (pe_callB (call_min2 rfl) (by rfl) B3.min (by decide +kernel) (pa_cons (pv 1) (pa_cons (pe_callB call_len_seq (by rfl) B.len PySem.boot_len (pa_cons (pv 0) pa_nil)) pa_nil))) pa_nil)))))), ?_⟩
    have e1 : Ev (tCB (fun xs H Q => ∃ p ys, xs = [V.ref p] ∧ (SqL K H p ys ∨ SqT K H p ys) ∧ Q (.int ys.length) H) (tCons (tVar 0) tNil)) [some (.ref a), some (.int (k : Int))] H (.int (ns.length : Int)) := fun H1 e Q q => ev_var rfl H1 e _ fun H2 e2 => ⟨a, _, rfl, .inl (ex_l (e.trans e2) hs), by rw [List.length_map]; exact q H2 e2⟩
    have e2 : Ev (tCB (fun xs H Q => ∃ i j, xs = [V.int i, V.int j] ∧ Q (.int (if j < i then j else i)) H) (tCons (tVar 1) (tCons (tCB (fun xs H Q => ∃ p ys, xs = [V.ref p] ∧ (SqL K H p ys ∨ SqT K H p ys) ∧ Q (.int ys.length) H) (tCons (tVar 0) tNil)) tNil))) [some (.ref a), some (.int (k : Int))] H (.int (if (ns.length : Int) < k then (ns.length : Int) else k)) := ev_cb (ea_cons (ev_var rfl) (ea_cons e1 ea_nil)) fun H1 _ Q q => ⟨_, _, rfl, q H1 (Ex.refl H1)⟩
    have e3 : Ev (tCB rMax2 (tCons (tC (.int 1)) (tCons (tCB (fun xs H Q => ∃ i j, xs = [V.int i, V.int j] ∧ Q (.int (if j < i then j else i)) H) (tCons (tVar 1) (tCons (tCB (fun xs H Q => ∃ p ys, xs = [V.ref p] ∧ (SqL K H p ys ∨ SqT K H p ys) ∧ Q (.int ys.length) H) (tCons (tVar 0) tNil)) tNil))) tNil))) [some (.ref a), some (.int (k : Int))] H (.int (if (if (ns.length : Int) < k then (ns.length : Int) else k) > 1 then (if (ns.length : Int) < k then (ns.length : Int) else k) else 1)) := ev_max2 ev_c e2
    have hb : ∃ t : Nat, t ≤ 100 ∧ (if (if (ns.length : Int) < k then (ns.length : Int) else k) > 1 then (if (ns.length : Int) < k then (ns.length : Int) else k) else 1) = (t : Int) := by
      by_cases h1 : (ns.length : Int) < k
      · simp only [if_pos h1]
        by_cases h2 : (ns.length : Int) > 1
        · exact ⟨ns.length, by omega, by rw [if_pos h2]⟩
        · exact ⟨1, by decide, by rw [if_neg h2]; rfl⟩
      · simp only [if_neg h1]
        by_cases h2 : (k : Int) > 1
        · exact ⟨k, hk, by rw [if_pos h2]⟩
        · exact ⟨1, by decide, by rw [if_neg h2]; rfl⟩
    obtain ⟨t, ht, et⟩ := hb
    rw [et] at e3
    show (tCB rMax2 _) _ H (fun x H1 => ∃ n, x = V.int n ∧ (RgOk 0 n ∧ ∀ q, H1 q = none → Q (.ref q) (upd H1 q (.lst (rgV 0 n)))))
    refine e3 H (Ex.refl _) _ fun H1 x1 => ⟨(t : Int), rfl, RgOk.of_le (by decide) (by omega) (by decide) (by omega), fun q hq => kk q _ (fresh_back x1 hq) (x1.trans (Ex.new hq)) ⟨t, ht, q, _, rfl, upd_same, by rw [rgV_length]; omega, fun i x hi => ?_⟩⟩
    unfold rgV at hi
    rw [List.getElem?_map] at hi
    have hlt : i < ((t : Int) - 0).toNat := by
      cases h : (List.range ((t : Int) - 0).toNat)[i]? with
      | none => rw [h] at hi; cases hi
      | some j => have := (List.getElem?_eq_some_iff.mp h).1; simpa using this
    rw [List.getElem?_range hlt] at hi
    have := Option.some.inj hi
    rw [← this]
    show V.int (0 + (i : Int)) = V.int (i : Int)
    rw [Int.zero_add]
/-! ### _law_pot -/
abbrev sPot : Stmt := top 49
abbrev nPot : List Str := ["script", "place", "cell", "own", "small"]
def spPot (K : PySem.W.Frag) : Sp := fun vs H Q _ => ∃ (a : Addr) (ns : List Int) (k : Nat), vs = [.ref a, .int (k : Int)] ∧ SqL K H a (ns.map V.int) ∧ k ≤ 100 ∧ ∀ p H2, H p = none → Ex H H2 → Pot p 0 H2 → Q (.ref p) H2
theorem scPot : FnScope nPot ["script", "place"] (defScope sPot) := ⟨rfl, rfl, rfl, by decide +kernel, rfl, by decide +kernel, by decide +kernel⟩
theorem ok_pot {f : Addr} {fd : FuncData} (F : Fun K "_law_pot" "_law_pot" sPot f fd) (B : Bl2 mg) (B3 : Bl3 mg) : FnOk P w K mg base CX0 1 f fd ["script", "place"] (spPot K) := by
  refine F.ok scPot (fun vs H Q E h => ?_) (fun cdv A outer s H vs Q E hr h => ?_)
  · obtain ⟨a, ns, k, rfl, _⟩ := h
    rfl
  · obtain ⟨a, ns, k, rfl, hs, hk, kk⟩ := h
    refine ⟨_, pss_cons (ps_set (i := 2) scPot.nd rfl (.inl rfl) (pe_ifExp (pt_cmpR op_lt (pv 1) (pe_callB call_len_seq (by rfl) B.len PySem.boot_len (pa_cons (pv 0) pa_nil)) (nomark _)) (pe_ix ix_list (pv 0) (pv 1) (fun _ _ => rfl))
        (pe_op op_add (pe_op op_add (pe_op op_modN (pe_callB (cr_sum rfl) (by rfl) B3.sum (by decide +kernel) (pa_cons (pe_slice sl_list (pv 0) po_none (po_some pe_int)) pa_nil)) pe_int) (pe_op op_mulW pe_int (pv 1))) pe_int)))
      (pss_cons (ps_set (i := 3) scPot.nd rfl (.inl rfl) (pe_op op_mulW (pe_op op_modN (pe_callTy call_int1 (by rfl) B.int (by decide +kernel) (pa_cons (pe_callB call_abs (by rfl) B3.abs (by decide +kernel) (pa_cons (pv 2) pa_nil)) pa_nil)) (pe_op op_powX (pe_op op_powX pe_int pe_int) pe_int))
        (pe_callTy call_int1 (by rfl) B.int (by decide +kernel) (pa_cons (pe_cmpR op_ge (pe_callB call_abs (by rfl) B3.abs (by decide +kernel) (pa_cons (pv 2) pa_nil)) (pe_op op_powX pe_int pe_int) (nomark _)) pa_nil))))
      (pss_cons (ps_set (i := 4) scPot.nd rfl (.inl rfl) (pe_op op_modN (pe_callTy call_int1 (by rfl) B.int (by decide +kernel) (pa_cons (pv 2) pa_nil)) pe_int))
      (pss_one (ps_ret (pe_lst (pa_cons (pv 3) (pa_cons (pe_op op_modN (pe_callTy call_int1 (by rfl) B.int (by decide +kernel) (pa_cons (pe_op op_add (pe_op op_add (pe_op op_mulW (pv 4) pe_int) (pe_op op_mulW (pe_op op_mulW pe_int (pv 1)) (pv 1))) pe_int) pa_nil)) pe_int) (pa_cons pe_int pa_nil)))))))), ?_⟩
    have cut : ∀ lo hi, cutV (ns.map V.int) lo hi = ((ns.drop (HT.sIx ns.length 0 lo)).take (HT.sIx ns.length ns.length hi - HT.sIx ns.length 0 lo)).map V.int := fun lo hi => by
      unfold cutV
      rw [List.length_map, List.map_take, List.map_drop]
    have k7 : k < 2 ^ 7 := by omega
    have lenE : ∀ (σ : L2.St) (G : Hp), σ[0]? = some (some (.ref a)) → Ex H G → Ev (tCB (fun xs H Q => ∃ p ys, xs = [V.ref p] ∧ (SqL K H p ys ∨ SqT K H p ys) ∧ Q (.int ys.length) H) (tCons (tVar 0) tNil)) σ G (.int (ns.length : Int)) := fun σ G hσ eG H1 e Q q => ev_var hσ H1 e _ fun H2 e2 => ⟨a, _, rfl, .inl (ex_l ((eG.trans e).trans e2) hs), by rw [List.length_map]; exact q H2 e2⟩
    refine qp_asg (P := AI) (ep_if (b := decide ((k : Int) < (ns.length : Int))) (et_test (ev_op (ev_var rfl) (lenE _ _ rfl (Ex.refl _)) rv_I0)) (fun hb => ?_) fun hb => ?_) fun cv H1 e1 hc => ?_
    · have hlt : k < ns.length := by simpa using hb
      exact ai_of (i := ns[k]) (ev_op (ev_var rfl) (ev_var rfl) (rv_ixL hs (atI_nat (by simp [hlt]))))
    · exact ai_add (ai_add (ep_w (ai_mod (u := 1000003) (ai_sumCut (ev_var rfl) hs) ev_c (by decide)) fun v _ _ ⟨t, h1, _⟩ => ⟨_, h1⟩) (ep_w (nn_mul (m := 16) (n := 7) (nn_c (k := 37799) (by decide)) (nn_of (ev_var rfl) k7) (by decide) (by decide) (by decide)) fun v _ _ ⟨t, h1, _⟩ => ⟨_, h1⟩)) (ai_of ev_c)
    have u300 : ((10 : Int) ^ (((60 : Nat) : Int)).toNat) ^ (((5 : Nat) : Int)).toNat = ((10 ^ 300 : Nat) : Int) := by decide +kernel
    have e300 : ∀ σ G, Ev (tOp (rI CPowX fun i j => .int (i ^ j.toNat)) (tOp (rI CPowX fun i j => .int (i ^ j.toNat)) (tC (.int 10)) (tC (.int 60))) (tC (.int 5))) σ G (.int ((10 ^ 300 : Nat) : Int)) := fun σ G => by
      rw [← u300]
      exact ev_op (ev_op ev_c ev_c (rv_I (powX_ok (m := 4) (n := 60) (by decide) (by decide)))) ev_c (rv_I (powX_ok (m := 240) (n := 5) (by decide +kernel) (by decide)))
    have e18 : ∀ σ G, Ev (tOp (rI CPowX fun i j => .int (i ^ j.toNat)) (tC (.int 10)) (tC (.int 18))) σ G (.int ((10 : Int) ^ (((18 : Nat) : Int)).toNat)) := fun σ G => ev_op ev_c ev_c (rv_I (powX_ok (m := 4) (n := 18) (by decide) (by decide)))
    refine qp_asg (P := NN 998) (nn_mul (m := 997) (n := 1) (ep_w (ai_mod (u := 10 ^ 300) (ai_int (ai_abs (ep_of (ev_var rfl) fun _ _ => hc))) (e300 _ _) (by decide +kernel)) fun v _ _ ⟨t, h1, h2⟩ => ⟨t, h1, Nat.lt_trans h2 (by decide +kernel)⟩) (nn_intB (ai_ge (ai_abs (ep_of (ev_var rfl) fun _ _ => hc)) (e18 _ _))) (by decide) (by decide) (by decide)) fun ov H2 e2 ho => ?_
    refine qp_asg (P := NN 61) (ep_w (ai_mod (u := 2305843009213693951) (ai_int (ep_of (ev_var rfl) fun _ _ => hc)) ev_c (by decide)) fun v _ _ ⟨t, h1, h2⟩ => ⟨t, h1, by omega⟩) fun sv H3 e3 hsm => ?_
    have e13 := (e1.trans e2).trans e3
    refine sn_ret (en_lst3 (A := NN 998) (B := fun v _ => ∃ k : Nat, v = .int (k : Int) ∧ k < 2305843009213693921) (C := fun v _ => v = .int ((0 : Nat) : Int)) (ep_of (ev_var rfl) fun _ _ => ho) nn_mono (nn_mod (m := 80) (n := 61) (u := 2305843009213693921) (nn_int (nn_add (k := 79) (nn_add (k := 78) (m := 78) (n := 29) (nn_mul (m := 61) (n := 17) (ep_of (ev_var rfl) fun _ _ => hsm) (nn_c (k := 128021) (by decide)) (by decide) (by decide) (by decide)) (nn_mul (m := 22) (n := 7) (nn_mul (m := 15) (n := 7) (nn_c (k := 28235) (by decide)) (nn_of (ev_var rfl) k7) (by decide) (by decide) (by decide)) (nn_of (ev_var rfl) k7) (by decide) (by decide) (by decide)) (by decide) (by decide)) (nn_c (n := 14) (k := 13851) (by decide)) (by decide) (by decide))) ev_c (by decide) (by decide)) (fun _ _ _ _ q => q) (ep_of ev_c fun _ _ => rfl) mono_eq) fun p H4 hp e4 ⟨p', x, y, z, ep, h1, ⟨o, ho1, ho2⟩, ⟨t, ht1, ht2⟩, hz⟩ => ?_
    cases ep
    subst ho1 ht1 hz
    exact kk p _ (fresh_back e13 hp) (e13.trans e4) ⟨o, t, 0, h1, Nat.lt_trans ho2 (by decide +kernel), by omega, by decide⟩
end
end EW
set_option Elab.async false
set_option linter.all false
set_option maxRecDepth 100000
set_option maxHeartbeats 4000000
set_option exponentiation.threshold 10000
namespace EW
open PySem PySem.Spec PyProof.Rows L2 Evl
abbrev noH : Hp := fun _ => none
/-- what is walked, the pot changed by its making; as many as N says -/
def SrM (wi : TI) (σ : L2.St) (p : Addr) (c d : Nat) (H : Hp) (N : Nat → Prop) (X : Nat → V → Hp → Prop) : Prop := ∀ H1, Xb p H H1 → Pot p c H1 → ∀ R : It → Hp → Prop, (∀ n J H2, N n → Xb p H1 H2 → Pot p d H2 → WkX J noH n X → R J H2) → wi σ H1 R
section
variable {K : PySem.W.Frag} {σ : L2.St} {H H' F : Hp} {ta tb te : TE} {P P' Pz : V → Hp → Prop} {n m c d e : Nat} {p : Addr} {D : Ends} {tz : TS} {wi : TI} {N : Nat → Prop} {X : Nat → V → Hp → Prop} {Pi : Nat → V → Hp → Prop}
theorem sm_range {ta : TA} (h : ∀ H1, Xb p H H1 → Pot p c H1 → ∀ Q : List V → Hp → Prop, (∀ (k : Nat) H2, N k → Xb p H1 H2 → Pot p d H2 → Q [.int (k : Int)] H2) → ta σ H1 Q) (hN : ∀ n, N n → n ≤ 100) : SrM (iRng1 ta) σ p c d H N (fun i x _ => x = .int i) := fun H1 x po R k => h H1 x po _ fun n H2 hn x2 p2 => by
  have := hN n hn
  exact ⟨(n : Int), rfl, by omega, by omega, k n _ H2 hn x2 p2 (by
    rw [Int.toNat_natCast]
    exact ⟨_, _, walk_range, fun _ _ => trivial, fun i H x H' _ _ y => by
      obtain ⟨rfl, rfl⟩ := y
      exact ⟨Ex.refl _, by show V.int (0 + (i : Int)) = V.int i; rw [Int.zero_add]⟩⟩)⟩
theorem sm_rangeC {k : Nat} (h : ∀ H1, Xb p H H1 → Ev ta σ H1 (.int (k : Int))) (hk : k ≤ 100) : SrM (iRng1 (tCons ta tNil)) σ p c c H (fun n => n = k) (fun i x _ => x = .int i) := sm_range (fun H1 x po Q q => h H1 x H1 (Ex.refl _) _ fun H2 e2 => q k H2 rfl (xb_ex e2) (pot_ex e2 po)) (fun n hn => by omega)
theorem m_lc {g : TG} {vs : List Nat} {s : Nat} (hs : SrM wi σ p c d H N X) (hN : ∀ n, N n → n ≤ 100) (mB : ∀ i, MonoB (Pi i)) (tP : ∀ i, Tst (Pi i))
    (he : ∀ i x H1, i < 100 → Xb p H H1 → X i x H1 → ∃ σ2, (∀ Q : L2.St → Hp → Prop, Q σ2 H1 → g x (wipe σ vs) H1 Q) ∧ wipe σ2 vs = wipe σ vs ∧ EvM te σ2 p (d + i * s) (d + i * s + s) H1 (Pi i)) :
    EvM (tLc wi g tYes te vs) σ p c (d + 100 * s) H (fun v H => ∃ n, N n ∧ LsP n Pi v H) := fun H0 x0 po Q k => hs H0 x0 po _ fun n J H1 hn x1 p1 w D hD => by
  obtain ⟨G, Y, wk, hG, hY⟩ := w
  have n1 := hN n hn
  have Dp : D ≠ p := fun z => by
    subst z
    obtain ⟨o, ho, _⟩ := pot_mt p1
    rw [hD] at ho
    cases ho
  have t0 : Ex noH H := fun _ _ q => by cases q
  refine lc_it (n := n) wk (fun i H' => H1 D = none ∧ Xb p H1 H' ∧ Pot p (d + i * s) H' ∧ ∃ acc, H' D = some (.lst acc) ∧ acc.length = i ∧ ∀ j x, acc[j]? = some x → Pi j x H') ⟨hD, xb_ex (Ex.new hD), by simpa using pot_ex (Ex.new hD) p1, [], upd_same, rfl, fun j x q => by simp at q⟩ (fun i H' _ _ => hG H' fun _ _ q => by cases q) ?_ ?_
  · rintro i x H2 H3 hi ⟨_, x2, p2, acc, ha, hl, hx⟩ y
    obtain ⟨e3, hX⟩ := hY i H2 x H3 hi (fun _ _ q => by cases q) y
    obtain ⟨σ2, hg, hw, hd⟩ := he i x H3 (by omega) (((x0.trans x1).trans x2).trans (xb_ex e3)) hX
    refine hg _ ⟨hw, ?_⟩
    show te σ2 H3 _
    have p3 := pot_ex e3 p2
    refine hd H3 (Xb.refl _ _) p3 _ fun v H4 x4 p4 pv => ?_
    have h4 : H4 D = some (.lst acc) := x4 _ _ Dp (e3 _ _ ha)
    refine ⟨acc, h4, sz_lt (by omega), hD, fun a o na ho => ?_, ?_, acc ++ [v], upd_same, by simp [hl], app_at h4 hl (fun j => tP j) (fun j z q => mB j p _ _ _ (pot_mt p2) ((xb_ex e3).trans x4) (hx j z q)) pv⟩
    · rw [upd_ne (ne_of_none ho hD)]
      exact x4 _ _ na (e3 _ _ (x2 _ _ na ho))
    · obtain ⟨a, b, k', h1, h2, h3, h5⟩ := p4
      exact ⟨a, b, k', by rw [upd_ne Dp.symm]; exact h1, h2, h3, by rw [Nat.succ_mul]; omega⟩
  · rintro H' ⟨_, x2, p2, acc, ha, hl, hx⟩
    refine k _ H' (x1.trans x2) (pot_le (by have : n * s ≤ 100 * s := Nat.mul_le_mul_right _ n1; omega) p2) ⟨n, hn, D, acc, rfl, ha, hl, hx⟩
/-- (a, b) -/
theorem m_pair (ha : EvM ta σ p c d H P) (mP : MonoB P) (mP' : Mono P) (hb : EvM tb σ p d e H P') (mQ : Mono P') : EvM (tTup (tCons ta (tCons tb tNil))) σ p c e H (fun v H => ∃ T a b, v = .ref T ∧ SqT K H T [a, b] ∧ P a H ∧ P' b H) := fun H1 x po Q q =>
  ha H1 x po _ fun a H2 x2 p2 pa => hb H2 (x.trans x2) p2 _ fun b H3 x3 p3 pb => ⟨by show 2 ≤ sizeLine; decide, fun t ht => q _ _ ((x2.trans x3).trans (xb_ex (Ex.new ht))) (pot_ex (Ex.new ht) p3) ⟨t, a, b, rfl, st_of upd_same, mP' _ _ _ (Ex.new ht) (mP p _ _ _ (pot_mt p2) x3 pa), mQ _ _ _ (Ex.new ht) pb⟩⟩
/-- tuple(a list) -/
theorem m_tuple (h : EvM te σ p c d H (fun v H => ∃ n, N n ∧ LsP n Pi v H)) (mP : ∀ i, Mono (Pi i)) : EvM (tCB (fun xs H Q => ∃ p ys, xs = [V.ref p] ∧ ((SqL K H p ys ∧ ∀ l, H l = none → Q (.ref l) (upd H l (.tup ys))) ∨ (SqT K H p ys ∧ Q (.ref p) H))) (tCons te tNil)) σ p c d H (fun v H => ∃ n, N n ∧ TsP K n Pi v H) := fun H1 x po Q q =>
  h H1 x po _ fun v H2 x2 p2 ⟨n, hn, l, xs, ev, hl, hlen, hx⟩ => ⟨l, xs, by rw [ev], .inl ⟨sq_of hl, fun t ht => q _ _ (x2.trans (xb_ex (Ex.new ht))) (pot_ex (Ex.new ht) p2) ⟨n, hn, t, xs, rfl, st_of upd_same, hlen, fun i x k => mP i _ _ _ (Ex.new ht) (hx i x k)⟩⟩⟩
/-- a draw -/
theorem m_take {i u : Nat} {E : XK} (hσ : σ[i]? = some (some (V.ref p))) (hc : c < 2 ^ 60) (u0 : 0 < u) (u1 : u < 2 ^ 60) : EvM (tCall spTake [] E (tCons (tVar i) (tCons (tC (.int (u : Int))) tNil))) σ p c (c + 1) H (fun v _ => ∃ t : Nat, v = .int (t : Int) ∧ t < u) := fun H1 x po Q q =>
  ⟨V.ref p, hσ, p, c, u, rfl, po, hc, u0, u1, fun t H2 ht x2 p2 => q _ H2 x2 p2 ⟨t, rfl, ht⟩⟩
theorem m_still {v : V} (h : ∀ H1, Xb p H H1 → Ev te σ H1 v) : EvM te σ p c c H (fun x _ => x = v) := m_of fun H1 x _ => ev_p (h H1 x)
/-- int(a draw - k) -/
theorem m_takeSub {i u : Nat} {k : Int} {E : XK} (hσ : σ[i]? = some (some (V.ref p))) (hc : c < 2 ^ 60) (u0 : 0 < u) (u1 : u < 2 ^ 60) : EvM (tCB (fun xs H Q => (∃ i, xs = [V.int i] ∧ Q (.int i) H) ∨ ∃ k, xs = [V.bl k] ∧ Q (.int (if k then 1 else 0)) H) (tCons (tOp (rI0 fun i j => .int (i - j)) (tCall spTake [] E (tCons (tVar i) (tCons (tC (.int (u : Int))) tNil))) (tC (.int k))) tNil)) σ p c (c + 1) H (fun v _ => ∃ z : Int, v = .int z ∧ (-k ≤ z ∧ z < u - k)) :=
  m_int (m_op (m_take hσ hc u0 u1) (m_still fun H1 _ => ev_c) (fun _ _ _ _ _ _ q => q) fun x y H1 _ _ ⟨t, ht, hu⟩ hy => by
    subst ht hy
    exact ep_w rp_I0 fun v H2 _ hv => ⟨(t : Int) - k, hv, by omega, by omega⟩)
/-- a tuple of ints that are within bounds -/
theorem ts_pick {G : Int → Prop} {v : V} (h : TsP K n (fun i x _ => ∃ z, x = .int z ∧ G z) v H) : ∃ f, IntsT K n f v H ∧ ∀ j, j < n → G (f j) := by
  obtain ⟨t, xs, rfl, ht, hl, hx⟩ := h
  refine ⟨fun j => match xs[j]? with | some (.int z) => z | _ => 0, ⟨t, xs, rfl, ht, hl, fun i x q => ?_⟩, fun j hj => ?_⟩
  · obtain ⟨z, hz, _⟩ := hx i x q
    rw [hz] at q
    rw [hz]
    dsimp only
    rw [q]
  · obtain ⟨x, q⟩ := nd_at hl hj
    obtain ⟨z, hz, g⟩ := hx j x q
    rw [hz] at q
    dsimp only
    rw [q]
    exact g
end
/-- a drawn ROW -/
structure Drw (m : Nat) (r : Row) : Prop where
  c : r.1.natAbs ≤ 4
  k : ∀ j, j < m → (r.2 j).natAbs ≤ 2
end EW
set_option Elab.async false
set_option linter.all false
set_option maxRecDepth 100000
set_option maxHeartbeats 4000000
set_option exponentiation.threshold 10000
namespace EW
open PySem PySem.Spec PyProof.Rows L2 Evl
/-! ### the heap but the pot -/
def hid (p : Addr) (H : Hp) : Hp := fun a => if a = p then none else H a
theorem hid_xb (p : Addr) (H : Hp) : Xb p H (hid p H) := fun a o n h => by
  unfold hid
  rw [if_neg n]
  exact h
theorem hid_ex {p : Addr} {H H' : Hp} (x : Xb p H H') : Ex (hid p H) H' := fun a o h => by
  unfold hid at h
  split at h
  · cases h
  · rename_i n
    exact x a o n h
theorem pot_nn {p q : Addr} {c : Nat} {H : Hp} (po : Pot p c H) (hq : H q = none) : q ≠ p := fun z => by
  subst z
  obtain ⟨o, ho, _⟩ := pot_mt po
  rw [hq] at ho
  cases ho
/-- a ROW as a list: its constant first -/
def rowF (r : Row) : Nat → Int
  | 0 => r.1
  | j + 1 => r.2 j
section
variable {K : PySem.W.Frag} {σ : L2.St} {H H' F : Hp} {ta tb te tl : TE} {P P' Pz : V → Hp → Prop} {n m c d e : Nat} {p : Addr} {Pi : Nat → V → Hp → Prop}
theorem sf_tup {a : Addr} {xs : List V} (h : Ev tl σ H (.ref a)) (e0 : Ex F H) (hx : SqT K F a xs) (hl : xs.length = n) (mP : ∀ i, Mono (Pi i)) (hp : ∀ i x, xs[i]? = some x → Pi i x F) : SrF (iTup K tl) σ F H n Pi := fun H1 e R k => h H1 e _ fun H2 e2 =>
  ⟨a, rfl, ⟨xs, ex_t ((e0.trans e).trans e2) hx⟩, k _ H2 e2 ⟨_, _, hl ▸ walk_tup (xs := xs), fun H3 e3 => ex_t e3 hx, fun i H3 x H4 _ e3 y => by
    obtain ⟨rfl, y⟩ := y
    exact ⟨Ex.refl _, mP i _ _ _ e3 (hp i x y)⟩⟩⟩
theorem ints_xb {f : Nat → Int} {l : Addr} (x : Xb p H H') (np : l ≠ p) (h : IntsP n f (.ref l) H) : IntsP n f (.ref l) H' := by
  obtain ⟨l', xs, e, h1, h2, h3⟩ := h
  cases e
  exact ⟨l, xs, rfl, x _ _ np h1, h2, h3⟩
/-- [int(a draw)] + [0] * m -/
theorem m_head (ha : EvM ta σ p c d H (fun v _ => ∃ t : Nat, v = .int (t : Int) ∧ t < 3)) (hm : ∀ H1, Xb p H H1 → Ev te σ H1 (.int (m : Int))) (hz : m ≤ 1000) :
    EvM (tOp rCat (tLst (tCons ta tNil)) (tOp rRep (tLst (tCons (tC (.int 0)) tNil)) te)) σ p c d H (fun v H => ∃ (l : Addr) (t : Nat), v = .ref l ∧ l ≠ p ∧ t < 3 ∧ IntsP (m + 1) (rowF ((t : Int), fun _ => 0)) (.ref l) H) := fun H1 x po Q q => by
  show ta σ H1 fun v G => [v].length ≤ sizeLine ∧ ∀ l, G l = none → (tOp rRep (tLst (tCons (tC (.int 0)) tNil)) te) σ (upd G l (.lst [v])) fun w G2 => rCat (.ref l) w G2 Q
  refine ha H1 x po _ fun v H2 x2 p2 ⟨t, hv, ht⟩ => ⟨by show 1 ≤ sizeLine; decide, fun l hl => ?_⟩
  have e3 : Ex H2 (upd H2 l (.lst [v])) := Ex.new hl
  have hl3 : (upd H2 l (.lst [v])) l = some (.lst [v]) := upd_same
  generalize upd H2 l (.lst [v]) = H3 at e3 hl3 ⊢
  show (tLst (tCons (tC (.int 0)) tNil)) σ H3 fun a G => te σ G fun y G2 => rRep a y G2 fun w G3 => rCat (.ref l) w G3 Q
  refine el_lst (vs := [.int 0]) (ea_cons ev_c ea_nil) (by show 1 ≤ 100000; decide) H3 (Ex.refl _) _ fun s H4 s0 e4 hs => ?_
  refine hm H4 ((x.trans x2).trans (xb_ex (e3.trans e4))) H4 (Ex.refl _) _ fun H5 e5 => ⟨s, (m : Int), [.int 0], rfl, rfl, e5 _ _ hs, by omega, by omega, sz_of (by simp; omega), fun r hr => ?_⟩
  have e6 : Ex H5 (upd H5 r (.lst (List.replicate (m : Int).toNat [V.int 0]).flatten)) := Ex.new hr
  have hr6 : (upd H5 r (.lst (List.replicate (m : Int).toNat [V.int 0]).flatten)) r = some (.lst (List.replicate (m : Int).toNat [V.int 0]).flatten) := upd_same
  generalize upd H5 r (.lst (List.replicate (m : Int).toNat [V.int 0]).flatten) = H6 at e6 hr6 ⊢
  have e36 := (e4.trans e5).trans e6
  have el : (List.replicate (m : Int).toNat [V.int 0]).flatten = List.replicate m (V.int 0) := by simp
  rw [el] at hr6
  refine ⟨l, r, [v], List.replicate m (V.int 0), rfl, rfl, e36 _ _ hl3, hr6, sz_of (by simp; omega), fun d hd => ?_⟩
  have ex := (e3.trans e36).trans (Ex.new (o := .lst ([v] ++ List.replicate m (V.int 0))) hd)
  have pd := pot_ex ex p2
  refine q _ _ (x2.trans (xb_ex ex)) pd ⟨d, t, rfl, pot_nn (pot_ex (e3.trans e36) p2) hd, ht, d, _, rfl, upd_same, by simp, fun i y hi => ?_⟩
  cases i with
  | zero =>
    have : v = y := by simpa using hi
    rw [← this]
    exact hv
  | succ i =>
    have hi : (List.replicate m (V.int 0))[i]? = some y := by simpa using hi
    rw [List.getElem?_replicate] at hi
    split at hi
    · exact (Option.some.inj hi).symm
    · cases hi
/-- [row[0]] + list(row[1]) -/
theorem en_rowF {r : Row} (ha : Ev ta σ H (.int r.1)) (hb : EvP tb σ H (IntsT K m r.2)) (hz : m ≤ 1000) : EvN (tOp rCat (tLst (tCons ta tNil)) (tCB (fun xs H Q => ∃ p ys, xs = [V.ref p] ∧ (SqL K H p ys ∨ SqT K H p ys) ∧ ∀ l, H l = none → Q (.ref l) (upd H l (.lst ys))) (tCons tb tNil))) σ H (IntsP (m + 1) (rowF r)) := fun H1 e Q q => by
  show (tLst (tCons ta tNil)) σ H1 fun x G => (tCB _ (tCons tb tNil)) σ G fun y G2 => rCat x y G2 Q
  refine el_lst (vs := [.int r.1]) (ea_cons ha ea_nil) (by show 1 ≤ 100000; decide) H1 e _ fun l H2 l0 e2 hl => ?_
  refine hb H2 (e.trans e2) _ fun v H3 e3 ⟨t, xs, hv, ht, hlen, hx⟩ => ⟨t, xs, by rw [hv], .inr ht, fun s hs => ?_⟩
  have e4 : Ex H3 (upd H3 s (.lst xs)) := Ex.new hs
  have hs4 : (upd H3 s (.lst xs)) s = some (.lst xs) := upd_same
  generalize upd H3 s (.lst xs) = H4 at e4 hs4 ⊢
  refine ⟨l, s, [.int r.1], xs, rfl, rfl, (e3.trans e4) _ _ hl, hs4, sz_of (by simp; omega), fun d hd => q d _ (fresh_back ((e2.trans e3).trans e4) hd) (((e2.trans e3).trans e4).trans (Ex.new hd)) ⟨d, _, rfl, upd_same, by simp [hlen], fun i y hi => ?_⟩⟩
  cases i with
  | zero =>
    show y = .int r.1
    simpa using hi.symm
  | succ i => exact hx i y (by simpa using hi)
theorem sn_asg {D : Ends} {i : Nat} (h : EvN te σ H P) (k : ∀ p H1, H p = none → Ex H H1 → P (.ref p) H1 → D.nx (σ.set i (some (.ref p))) H1) : tAsg te (gName i) D σ H := h H (Ex.refl H) _ fun p H1 hp e q => k p H1 hp e q
theorem m_intN {u : Nat} (ha : EvM ta σ p c d H (fun v _ => ∃ t : Nat, v = .int (t : Int) ∧ t < u)) : EvM (tCB (fun xs H Q => (∃ i, xs = [V.int i] ∧ Q (.int i) H) ∨ ∃ k, xs = [V.bl k] ∧ Q (.int (if k then 1 else 0)) H) (tCons ta tNil)) σ p c d H (fun v _ => ∃ t : Nat, v = .int (t : Int) ∧ t < u) := fun H1 x po Q q =>
  ha H1 x po _ fun v H2 x2 p2 ⟨t, ev, ht⟩ => .inl ⟨(t : Int), by rw [ev], q _ H2 x2 p2 ⟨t, rfl, ht⟩⟩
/-- xs[1:] -/
theorem ep_cutF (h : EvP te σ H (LsP (n + 1) Pi)) (mP : ∀ i, Mono (Pi i)) : EvP (tSl (rSlL K) te (tPart (tC (.int 1))) tNoPart) σ H (LsP n fun j => Pi (j + 1)) := fun H1 e Q q =>
  h H1 e _ fun v H2 e2 ⟨p, xs, ev, hp, hl, hx⟩ => ⟨1, rfl, p, xs, ev, sq_of hp, fun d hd => by
    have : cutV xs (some 1) none = xs.drop 1 := by
      unfold cutV HT.sIx
      simp only []
      rw [if_neg (by decide)]
      have : min (Int.toNat 1) xs.length = 1 := by
        have : (1 : Int).toNat = 1 := rfl
        omega
      rw [this, List.take_of_length_le (by simp)]
    rw [this]
    refine q _ _ (e2.trans (Ex.new hd)) ⟨d, _, rfl, upd_same, by simp [hl], fun i x hi => ?_⟩
    rw [List.getElem?_drop, Nat.add_comm] at hi
    exact mP _ _ _ _ (Ex.new hd) (hx (i + 1) x hi)⟩
end
theorem smI_congr {n : Nat} {f g : Nat → Int} (h : ∀ i, i < n → f i = g i) : SX.smI n f = SX.smI n g := by
  induction n with
  | zero => rfl
  | succ n ih =>
    show SX.smI n f + f n = SX.smI n g + g n
    rw [ih fun i hi => h i (by omega), h n (by omega)]
end EW
set_option Elab.async false
set_option linter.all false
set_option maxRecDepth 100000
set_option maxHeartbeats 4000000
set_option exponentiation.threshold 30000
namespace EW
open PySem PySem.Spec PyProof.Rows L2 Evl
/-! ### ROWS one behind the other -/
def catR (n : Nat) (R R' : Nat → Row) : Nat → Row := fun i => if i < n then R i else R' (i - n)
theorem hold_cat {m n k : Nat} {R R' : Nat → Row} {z : Nat → Rat} : Hold m (n + k) (catR n R R') z ↔ Hold m n R z ∧ Hold m k R' z := by
  constructor
  · intro h
    refine ⟨fun i hi => ?_, fun i hi => ?_⟩
    · have := h i (by omega)
      unfold catR at this
      rwa [if_pos hi] at this
    · have := h (n + i) (by omega)
      unfold catR at this
      rw [if_neg (by omega)] at this
      rwa [show n + i - n = i by omega] at this
  · rintro ⟨h1, h2⟩ i hi
    unfold catR
    split
    · exact h1 i (by assumption)
    · exact h2 (i - n) (by omega)
def one1 (a : Row) : Nat → Row := fun _ => a
def two2 (a b : Row) : Nat → Row := fun i => if i = 0 then a else b
theorem hold_one {m : Nat} {a : Row} {z : Nat → Rat} : Hold m 1 (one1 a) z ↔ 0 ≤ rv m a z := ⟨fun h => h 0 (by decide), fun h i _ => h⟩
theorem hold_two {m : Nat} {a b : Row} {z : Nat → Rat} : Hold m 2 (two2 a b) z ↔ 0 ≤ rv m a z ∧ 0 ≤ rv m b z := by
  constructor
  · intro h
    exact ⟨h 0 (by decide), h 1 (by decide)⟩
  · rintro ⟨h1, h2⟩ i hi
    unfold two2
    split
    · exact h1
    · exact h2
section
variable {K : PySem.W.Frag} {σ : L2.St} {H H' F : Hp} {ta tb te tl : TE} {P P' Pz : V → Hp → Prop} {n m k c d e : Nat} {p : Addr} {Pi : Nat → V → Hp → Prop} {R R' : Nat → Row} {D : Ends} {tz : TS}
theorem ep_cat (ha : EvP ta σ H (RwsP K n m R)) (hb : EvP tb σ H (RwsP K k m R')) (hz : n + k ≤ 1000) : EvP (tOp (rCatA K) ta tb) σ H (RwsP K (n + k) m (catR n R R')) := fun H1 e Q q =>
  ha H1 e _ fun x H2 e2 ⟨a, xs, ev, s1, l1, h1⟩ => hb H2 (e.trans e2) _ fun y H3 e3 ⟨b, ys, ew, s2, l2, h2⟩ => by
    have all : ∀ G, Ex H3 G → ∀ i x, (xs ++ ys)[i]? = some x → RwP K m (catR n R R' i) x G := fun G eG i x hi => by
      unfold catR
      rw [List.getElem?_append] at hi
      split at hi
      · rw [if_pos (by omega)]
        exact rw_mono _ _ _ (e3.trans eG) (h1 i x hi)
      · rw [if_neg (by omega), ← l1]
        exact rw_mono _ _ _ eG (h2 _ x hi)
    refine ⟨a, b, xs, ys, ev, ew, ex_t e3 s1, s2, sz_of (by omega), fun z => ?_, fun _ z => ?_, fun _ _ t ht => ?_⟩
    · subst z
      refine q _ H3 (e2.trans e3) ⟨b, ys, rfl, s2, by simp at l1; omega, fun i x hi => all H3 (Ex.refl _) i x (by simpa using hi)⟩
    · subst z
      refine q _ H3 (e2.trans e3) ⟨a, xs, rfl, ex_t e3 s1, by simp at l2; omega, fun i x hi => all H3 (Ex.refl _) i x (by simpa using hi)⟩
    · exact q _ _ ((e2.trans e3).trans (Ex.new ht)) ⟨t, _, rfl, st_of upd_same, by simp [l1, l2], fun i x hi => all _ (Ex.new ht) i x hi⟩
theorem ep_one {a : Row} (ha : EvP ta σ H (RwP K m a)) : EvP (tTup (tCons ta tNil)) σ H (RwsP K 1 m (one1 a)) := fun H1 e Q q => ha H1 e _ fun x H2 e2 hx => ⟨by show 1 ≤ sizeLine; decide, fun t ht => q _ _ (e2.trans (Ex.new ht)) ⟨t, _, rfl, st_of upd_same, rfl, fun i y hi => by
  have h0 : i < 1 := by have := (List.getElem?_eq_some_iff.mp hi).1; simpa using this
  have : i = 0 := by omega
  subst this
  have : x = y := by simpa using hi
  subst this
  exact rw_mono _ _ _ (Ex.new ht) hx⟩⟩
theorem ep_two {a b : Row} (ha : EvP ta σ H (RwP K m a)) (hb : EvP tb σ H (RwP K m b)) : EvP (tTup (tCons ta (tCons tb tNil))) σ H (RwsP K 2 m (two2 a b)) := fun H1 e Q q => ha H1 e _ fun x H2 e2 hx => hb H2 (e.trans e2) _ fun y H3 e3 hy => ⟨by show 2 ≤ sizeLine; decide, fun t ht => q _ _ ((e2.trans e3).trans (Ex.new ht)) ⟨t, _, rfl, st_of upd_same, rfl, fun i w hi => by
  have h0 : i < 2 := by have := (List.getElem?_eq_some_iff.mp hi).1; simpa using this
  have : i = 0 ∨ i = 1 := by omega
  rcases this with rfl | rfl
  · have : x = w := by simpa using hi
    subst this
    exact rw_mono _ _ _ (e3.trans (Ex.new ht)) hx
  · have : y = w := by simpa using hi
    subst this
    exact rw_mono _ _ _ (Ex.new ht) hy⟩⟩
theorem ep_rev (ha : EvP ta σ H (RwsP K n m R)) : EvP (tRevT K ta) σ H (RwsP K n m fun i => R (n - 1 - i)) := fun H1 e Q q => ha H1 e _ fun x H2 e2 ⟨a, xs, ev, s1, l1, h1⟩ => ⟨a, xs, ev, s1, fun t ht => q _ _ (e2.trans (Ex.new ht)) ⟨t, _, rfl, st_of upd_same, by simp [l1], fun i y hi => by
  have hlt : i < n := by have := (List.getElem?_eq_some_iff.mp hi).1; simpa [l1] using this
  rw [List.getElem?_reverse (by omega), l1] at hi
  exact rw_mono _ _ _ (Ex.new ht) (h1 _ y hi)⟩⟩
theorem hold_rev {z : Nat → Rat} (h : Hold m n (fun i => R (n - 1 - i)) z) : Hold m n R z := fun i hi => by
  have this : 0 ≤ rv m (R (n - 1 - (n - 1 - i))) z := h (n - 1 - i) (by omega)
  rwa [show n - 1 - (n - 1 - i) = i by omega] at this
/-! ### words -/
theorem ep_word (h : EvP te σ H (FolP K n m R r)) : EvP (tOp (rIxT K) te (tC (.int 0))) σ H (fun v _ => ∃ w : Str, v = .str w ∧ (w = "spot" ∨ ((w = "times" ∨ w = "never") ∧ ∀ z, Hold m n R z → 0 ≤ rv m r z)) ∧ (w = "spot" → ∃ z, Hold m n R z ∧ rv m r z < 0)) := fun H1 e Q q => h H1 e _ fun v H2 e2 hv => by
  rcases hv with ⟨T, b, u, t, ev, s, _, fo⟩ | ⟨T, u, t, ev, s, _, ne⟩ | ⟨T, u, z, ev, s, _, _, h1, h2⟩
  · exact ⟨T, _, 0, _, ev, rfl, s, at0, q _ H2 e2 ⟨_, rfl, .inr ⟨.inl rfl, fun z => fo.fol⟩, fun k => absurd k (by decide +kernel)⟩⟩
  · exact ⟨T, _, 0, _, ev, rfl, s, at0, q _ H2 e2 ⟨_, rfl, .inr ⟨.inr rfl, fun z hz => absurd hz ne.no⟩, fun k => absurd k (by decide +kernel)⟩⟩
  · exact ⟨T, _, 0, _, ev, rfl, s, at0, q _ H2 e2 ⟨_, rfl, .inl rfl, fun _ => ⟨z, h1, h2⟩⟩⟩
theorem w_times : ¬ ("times" : Str) = "spot" := by decide +kernel
theorem w_never : ¬ ("never" : Str) = "spot" := by decide +kernel
/-- it is no spot -/
theorem ev_noSpot {r : Row} (h : EvP te σ H (FolP K n m R r)) (no : ∀ z, Hold m n R z → 0 ≤ rv m r z) : Ev (tOp rEq (tOp (rIxT K) te (tC (.int 0))) (tC (.str "spot"))) σ H (.bl false) := fun H1 e Q q => ep_word h H1 e _ fun v H2 e2 ⟨w, hv, hw, hs⟩ => by
  subst hv
  refine ⟨rfl, ?_⟩
  have ns : w ≠ "spot" := fun k => by
    obtain ⟨z, h1, h2⟩ := hs k
    have := no z h1
    grind
  have : decide (V.str w = V.str "spot") = false := decide_eq_false fun k => ns (by injection k)
  rw [this]
  exact q H2 e2
theorem ev_noSpotN {r : Row} (h : EvP te σ H (FolP K n m R r)) (no : ∀ z, Hold m n R z → 0 ≤ rv m r z) : Ev (tOp rNe (tOp (rIxT K) te (tC (.int 0))) (tC (.str "spot"))) σ H (.bl true) := fun H1 e Q q => ep_word h H1 e _ fun v H2 e2 ⟨w, hv, hw, hs⟩ => by
  subst hv
  refine ⟨rfl, ?_⟩
  have ns : w ≠ "spot" := fun k => by
    obtain ⟨z, h1, h2⟩ := hs k
    have := no z h1
    grind
  have : decide (V.str w = V.str "spot") = false := decide_eq_false fun k => ns (by injection k)
  rw [this]
  exact q H2 e2
/-- it is a spot -/
theorem ev_isSpot {r : Row} (h : EvP te σ H (FolP K n m R r)) (yes : ∃ z, Hold m n R z ∧ rv m r z < 0) : Ev (tOp rEq (tOp (rIxT K) te (tC (.int 0))) (tC (.str "spot"))) σ H (.bl true) := fun H1 e Q q => ep_word h H1 e _ fun v H2 e2 ⟨w, hv, hw, hs⟩ => by
  subst hv
  refine ⟨rfl, ?_⟩
  have ns : w = "spot" := by
    rcases hw with hw | ⟨_, hw⟩
    · exact hw
    · obtain ⟨z, h1, h2⟩ := yes
      have := hw z h1
      grind
  have : decide (V.str w = V.str "spot") = true := decide_eq_true (by rw [ns])
  rw [this]
  exact q H2 e2
end
end EW
set_option Elab.async false
set_option linter.all false
set_option maxRecDepth 100000
set_option maxHeartbeats 4000000
set_option exponentiation.threshold 30000
namespace EW
open PySem PySem.Spec PyProof.Rows L2 Evl
section
variable {K : PySem.W.Frag} {σ : L2.St} {H H' F : Hp} {ta tb te tl : TE} {P P' Pz : V → Hp → Prop} {n m k c d e : Nat} {p : Addr} {Pi : Nat → V → Hp → Prop} {N : Nat → Prop} {D : Ends} {tz : TS}
theorem sm_rangeM (h : EvM te σ p c d H (fun v _ => ∃ k : Nat, v = .int (k : Int) ∧ N k)) (hN : ∀ n, N n → n ≤ 100) : SrM (iRng1 (tCons te tNil)) σ p c d H N (fun i x _ => x = .int i) :=
  sm_range (fun H1 x po Q q => h H1 x po _ fun v H2 x2 p2 ⟨k, hv, hk⟩ => by
    subst hv
    exact q k H2 hk x2 p2) hN
/-- 1 + a draw -/
theorem m_onePlus {i u : Nat} {E : XK} (hσ : σ[i]? = some (some (V.ref p))) (hc : c < 2 ^ 60) (u0 : 0 < u) (u1 : u < 2 ^ 60) : EvM (tOp (rI0 fun i j => .int (i + j)) (tC (.int 1)) (tCall spTake [] E (tCons (tVar i) (tCons (tC (.int (u : Int))) tNil)))) σ p c (c + 1) H (fun v _ => ∃ k : Nat, v = .int (k : Int) ∧ (1 ≤ k ∧ k ≤ u)) :=
  m_op (m_still fun H1 _ => ev_c) (m_take hσ hc u0 u1) eq_xb fun x y H1 _ _ hx ⟨t, hy, ht⟩ => by
    subst hx hy
    exact ep_w rp_I0 fun v H2 _ hv => ⟨1 + t, by rw [hv]; push_cast; rfl, by omega, by omega⟩
def DrP (K : PySem.W.Frag) (m : Nat) (v : V) (H : Hp) : Prop := ∃ r, RwP K m r v H ∧ Drw m r
theorem dr_xb : MonoB (DrP K m) := fun p v H H' hp e ⟨r, h1, h2⟩ => ⟨r, rw_xb p _ _ _ hp e h1, h2⟩
theorem dr_mono : Mono (DrP K m) := fun v H H' e ⟨r, h1, h2⟩ => ⟨r, rw_mono _ _ _ e h1, h2⟩
theorem dr_tst : Tst (DrP K m) := fun D v H o o' hD mt ⟨r, h1, h2⟩ => ⟨r, rw_tst D v H o o' hD mt h1, h2⟩
theorem rws_pick {v : V} (h : TsP K n (fun _ => DrP K m) v H) : ∃ R, RwsP K n m R v H ∧ ∀ i, i < n → Drw m (R i) := by
  obtain ⟨t, xs, rfl, ht, hl, hx⟩ := h
  have : ∀ i : Nat, ∃ r : Row, ∀ x, xs[i]? = some x → RwP K m r x H ∧ Drw m r := fun i => by
    cases hi : xs[i]? with
    | none => exact ⟨(0, fun _ => 0), fun x q => by cases q⟩
    | some x =>
      obtain ⟨r, h1, h2⟩ := hx i x hi
      exact ⟨r, fun y q => by cases q; exact ⟨h1, h2⟩⟩
  refine ⟨fun i => (this i).choose, ⟨t, xs, rfl, ht, hl, fun i x q => ((this i).choose_spec x q).1⟩, fun i hi => ?_⟩
  obtain ⟨x, q⟩ := nd_at hl hi
  exact ((this i).choose_spec x q).2
theorem fol_mono {R : Nat → Row} {r : Row} : Mono (FolP K n m R r) := fun v H H' e h => by
  rcases h with ⟨T, b, u, t, h1, h2, h3, h4⟩ | ⟨T, u, t, h1, h2, h3, h4⟩ | ⟨T, u, z, h1, h2, h3, h4⟩
  · exact .inl ⟨T, b, u, t, h1, ex_t e h2, intsT_mono _ _ _ e h3, h4⟩
  · exact .inr (.inl ⟨T, u, t, h1, ex_t e h2, intsT_mono _ _ _ e h3, h4⟩)
  · exact .inr (.inr ⟨T, u, z, h1, ex_t e h2, frsT_mono _ _ _ e h3, h4⟩)
theorem m_intG {G : Nat → Prop} (ha : EvM ta σ p c d H (fun v _ => ∃ t : Nat, v = .int (t : Int) ∧ G t)) : EvM (tCB (fun xs H Q => (∃ i, xs = [V.int i] ∧ Q (.int i) H) ∨ ∃ k, xs = [V.bl k] ∧ Q (.int (if k then 1 else 0)) H) (tCons ta tNil)) σ p c d H (fun v _ => ∃ t : Nat, v = .int (t : Int) ∧ G t) := fun H1 x po Q q =>
  ha H1 x po _ fun v H2 x2 p2 ⟨t, ev, ht⟩ => .inl ⟨(t : Int), by rw [ev], q _ H2 x2 p2 ⟨t, rfl, ht⟩⟩
theorem ep_fol {tc : TE} {E : XK} {A M : Nat} {R : Nat → Row} {r : Row} (ha : Ev ta σ H (.int (m : Int))) (hb : EvP tb σ H (RwsP K n m R)) (hc : EvP tc σ H (RwP K m r)) (mb : Mb m A M) (rb : Rb A M m n R) (rc : r.1.natAbs ≤ M) (rk : ∀ j, j < m → (r.2 j).natAbs ≤ A) (hn : n ≤ 60) :
    EvP (tCall (spTold K) [] E (tCons ta (tCons tb (tCons tc tNil)))) σ H (FolP K n m R r) := fun H1 e Q q =>
  ha H1 e _ fun H2 e2 => hb H2 (e.trans e2) _ fun v H3 e3 hv => hc H3 ((e.trans e2).trans e3) _ fun u H4 e4 hu => ⟨n, m, A, M, R, r, v, u, rfl, rws_mono _ _ _ e4 hv, hu, mb, rb, rc, rk, hn, fun w H5 e5 hw => q w H5 (((e2.trans e3).trans e4).trans e5) hw⟩
theorem rb_cat {A M : Nat} {R R' : Nat → Row} (h1 : Rb A M m n R) (h2 : Rb A M m k R') : Rb A M m (n + k) (catR n R R') where
  c := fun i hi => by
    unfold catR
    split
    · exact h1.c i (by assumption)
    · exact h2.c _ (by omega)
  k := fun i hi j hj => by
    unfold catR
    split
    · exact h1.k i (by assumption) j hj
    · exact h2.k _ (by omega) j hj
theorem rb_one {A M : Nat} {a : Row} (h1 : a.1.natAbs ≤ M) (h2 : ∀ j, j < m → (a.2 j).natAbs ≤ A) : Rb A M m 1 (one1 a) := ⟨fun _ _ => h1, fun _ _ => h2⟩
theorem qm_two {i j : Nat} {A B : V → Hp → Prop} (h : EvM te σ p c d H (fun v H => ∃ T a b, v = .ref T ∧ SqT K H T [a, b] ∧ A a H ∧ B b H)) (po : Pot p c H) (k : ∀ a b H1, Xb p H H1 → Pot p d H1 → A a H1 → B b H1 → tz D ((σ.set i (some a)).set j (some b)) H1) :
    tSeq (tAsg te (gTup K 2 (gCons (gName i) (gCons (gName j) gNil)))) tz D σ H := h H (Xb.refl _ _) po _ fun v H1 x1 p1 ⟨T, a, b, hv, s, ha, hb⟩ => by
  subst hv
  exact g_pair s (k a b H1 x1 p1 ha hb)
end
end EW
set_option Elab.async false
set_option linter.all false
set_option maxRecDepth 100000
set_option maxHeartbeats 4000000
set_option exponentiation.threshold 30000
namespace EW
open PySem PySem.Spec PyProof.Rows L2 Evl
section
variable {K : PySem.W.Frag} {σ : L2.St} {H H' F : Hp} {ta tb te tl : TE} {P P' Pz : V → Hp → Prop} {n m k c d e : Nat} {p : Addr} {Pi X : Nat → V → Hp → Prop} {N : Nat → Prop} {D : Ends} {tz : TS} {wi : TI}
/-- a loop whose making changes the pot -/
theorem q_forM {g : TG} {tu : TS} (hs : SrM wi σ p c d H N X) (po : Pot p c H) (Pv : Nat → Nat → L2.St → Hp → Prop) (h0 : ∀ n H1, N n → Xb p H H1 → Pot p d H1 → Pv n 0 σ H1)
    (hb : ∀ n i x σ H1 H', N n → i < n → Pv n i σ H1 → Ex H1 H' → X i x H' → g x σ H' fun σ2 H2 => tu { D with nx := Pv n (i + 1), ct := Pv n (i + 1), bk := tz D } σ2 H2) (hd : ∀ n σ H1, N n → Pv n n σ H1 → tz D σ H1) : tSeq (tFor wi g tu) tz D σ H := hs H (Xb.refl _ _) po _ fun n J H1 hn x1 p1 w => by
  obtain ⟨G, Y, wk, hG, hY⟩ := w
  refine for_it (D := { D with nx := tz D }) wk (Pv n) (h0 n H1 hn x1 p1) (fun i σ H hi p => hG H fun _ _ q => by cases q) (fun i x σ H H' hi p y => ?_) (fun σ H p => hd n σ H hn p)
  obtain ⟨e3, hX⟩ := hY i H x H' hi (fun _ _ q => by cases q) y
  exact hb n i x σ H H' hn hi p e3 hX
/-- xs.append(a value by which the pot is changed) -/
theorem s_appM {l : Addr} {xs : List V} (hl : H l = some (.lst xs)) (nl : l ≠ p) (ha : ∀ H1, Ex H H1 → Ev ta σ H1 (.ref l)) (h : EvM te σ p c d H P) (po : Pot p c H) (hz : xs.length < 100000) (k : ∀ v H1, Xb p H H1 → Pot p d H1 → H1 l = some (.lst xs) → P v H1 → D.nx σ (upd H1 l (.lst (xs ++ [v])))) :
    tDrop (tBM K "list" rAppend ta (tCons te tNil)) D σ H := ha H (Ex.refl _) H (Ex.refl H) _ fun H1 e1 =>
  ⟨Or.inl ⟨rfl, xs, sq_of (e1 l _ hl)⟩, h H1 (xb_ex e1) (pot_ex e1 po) _ fun v H2 x2 p2 pv => ⟨l, xs, v, rfl, rfl, x2 l _ nl (e1 l _ hl), sz_lt hz, k v H2 ((xb_ex e1).trans x2) p2 (x2 l _ nl (e1 l _ hl)) pv⟩⟩
theorem pot_up {l : Addr} {o : HO} (nl : l ≠ p) (po : Pot p c H) : Pot p c (upd H l o) := by
  obtain ⟨a, b, k, h1, h2⟩ := po
  exact ⟨a, b, k, by rw [upd_ne nl.symm]; exact h1, h2⟩
theorem xb_new {l : Addr} {o : HO} {H1 : Hp} (h0 : H l = none) (x : Xb p H H1) : Xb p H (upd H1 l o) := fun a u na h => by
  rw [upd_ne (ne_of_none h h0)]
  exact x a u na h
end
section
variable {K : PySem.W.Frag} {σ : L2.St} {H : Hp} {tb : TE} {m c d : Nat} {p : Addr}
theorem m_takeE {i u : Nat} {E : XK} (hσ : σ[i]? = some (some (V.ref p))) (hu : ∀ H1, Xb p H H1 → Ev tb σ H1 (.int (u : Int))) (hc : c < 2 ^ 60) (u0 : 0 < u) (u1 : u < 2 ^ 60) : EvM (tCall spTake [] E (tCons (tVar i) (tCons tb tNil))) σ p c (c + 1) H (fun v _ => ∃ t : Nat, v = .int (t : Int) ∧ t < u) := fun H1 x po Q q =>
  ⟨V.ref p, hσ, hu H1 x H1 (Ex.refl _) _ fun H2 e2 => ⟨p, c, u, rfl, pot_ex e2 po, hc, u0, u1, fun t H3 ht x3 p3 => q _ H3 ((xb_ex e2).trans x3) p3 ⟨t, rfl, ht⟩⟩⟩
end
end EW
set_option Elab.async false
set_option linter.all false
set_option maxRecDepth 100000
set_option maxHeartbeats 4000000
set_option exponentiation.threshold 30000
namespace EW
open PySem PySem.Spec PyProof.Rows L2 Evl
section
variable {K : PySem.W.Frag} {σ : L2.St} {H H' F : Hp} {ta tb te tl : TE} {P P' Pz : V → Hp → Prop} {n m : Nat} {Pi Pj : Nat → V → Hp → Prop}
theorem walkTT {a b : Addr} {xs ys : List V} {n : Nat} (hn : n = min xs.length ys.length) : Walk (RZ.ItzT K a b) n (fun H => SqT K H a xs ∧ SqT K H b ys) (YPair (fun i => xs[i]?) (fun i => ys[i]?)) where
  goes := fun i H hi q => by
    have u1 : i < xs.length := by omega
    have u2 : i < ys.length := by omega
    exact ⟨xs, ys, xs[i], ys[i], q.1, q.2, List.getElem?_eq_getElem u1, List.getElem?_eq_getElem u2⟩
  stops := fun H q => ⟨xs, ys, q.1, q.2, by omega⟩
  yields := fun i H v H' _ q ⟨T, x, y, e1, e2, e3, e4, e5⟩ => ⟨T, x, y, e1, e2, e3, e4 xs q.1, e5 ys q.2⟩
theorem sr_zipT {ta : TA} (h : EaP ta σ H (fun vs H => ∃ v w, vs = [v, w] ∧ TsP K n Pi v H ∧ TsP K n Pj w H)) (mP : ∀ i, Mono (Pi i)) (mJ : ∀ i, Mono (Pj i)) : SrP (RZ.iZipA K ta) σ H n (fun i => PrP (K := K) (Pi i) (Pj i)) := fun H1 e R k =>
  h H1 e _ fun vs H2 e2 ⟨v, w, e3, ⟨p, xs, ev, hp, hl, hx⟩, ⟨q, ys, ew, hq, hm, hy⟩⟩ =>
  ⟨p, q, xs, ys, by rw [e3, ev, ew], .inr ⟨hp, hq, k _ H2 e2 ⟨_, _, walkTT (xs := xs) (ys := ys) (n := n) (by omega), fun H3 e3 => ⟨ex_t e3 hp, ex_t e3 hq⟩, fun i H3 x H4 _ e3 y => by
    obtain ⟨T, a, b, rfl, hT, rfl, ha, hb⟩ := y
    have e4 : Ex H3 (upd H3 T (.tup [a, b])) := Ex.new hT
    exact ⟨e4, T, a, b, rfl, st_of upd_same, mP i _ _ _ (e3.trans e4) (hx i a ha), mJ i _ _ _ (e3.trans e4) (hy i b hb)⟩⟩⟩⟩
/-- by, (top, low) -/
theorem g_by {i j k : Nat} {T : Addr} {x y : V} {q : Rat} {Q : L2.St → Hp → Prop} (h : SqT K H T [x, y]) (hf : Fr K q y H) (c : Q (((σ.set i (some x)).set j (some (.int q.num))).set k (some (.int (q.den : Int)))) H) :
    gTup K 2 (gCons (gName i) (gCons (gTup K 2 (gCons (gName j) (gCons (gName k) gNil))) gNil)) (.ref T) σ H Q := by
  obtain ⟨a, rfl, s⟩ := hf
  exact ⟨T, _, rfl, h, rfl, x, [.ref a], rfl, .ref a, [], rfl, a, _, rfl, s, rfl, _, _, rfl, _, [], rfl, rfl, rfl, c⟩
/-- sum([..]) -/
theorem ev_sumN {g : Nat → Int} (h : EvN te σ H (LsP n fun i x _ => x = .int (g i))) : Ev (tCB (rSum K) (tCons te tNil)) σ H (.int (SX.smI n g)) := fun H1 e Q q => el_of h H1 e _ fun p H2 _ e2 hp => ⟨p, (List.range n).map g, rfl, by
  have : ((List.range n).map g).map V.int = (List.range n).map fun i => V.int (g i) := by simp [List.map_map, Function.comp_def]
  rw [this]
  exact sq_of hp, by
  have : ∀ n, ((List.range n).map g).sum = SX.smI n g := by
    intro n
    induction n with
    | zero => rfl
    | succ n ih =>
      rw [List.range_succ, List.map_append, List.sum_append, ih]
      simp [SX.smI]
  rw [this]
  exact q H2 e2⟩
end
theorem at_law {m L : Nat} {r : Row} {z : Nat → Rat} (L0 : 0 < L) (hd : ∀ j, j < m → (z j).den ∣ L) : decide (0 ≤ r.1 * (L : Int) + SX.smI m (fun j => r.2 j * (z j).num * ((L : Int).fdiv ((z j).den : Int)))) = decide (0 ≤ rv m r z) := by
  have lp : (0 : Rat) < (L : Rat) := by exact_mod_cast L0
  have e : ((r.1 * (L : Int) + SX.smI m (fun j => r.2 j * (z j).num * ((L : Int).fdiv ((z j).den : Int))) : Int) : Rat) = rv m r z * (L : Rat) := by
    rw [Rat.intCast_add, Rat.intCast_mul, ← SX.sm_cast]
    unfold rv
    have e2 : SX.sm m (fun j => ((r.2 j * (z j).num * ((L : Int).fdiv ((z j).den : Int)) : Int) : Rat)) = (L : Rat) * SX.sm m (fun j => (r.2 j : Rat) * z j) := by
      rw [← SX.sm_mul]
      refine SX.sm_congr fun j hj => ?_
      obtain ⟨c, hc⟩ := hd j hj
      have d0 : ((z j).den : Int) ≠ 0 := den_int (z j)
      have e3 : (L : Int).fdiv ((z j).den : Int) = (c : Int) := by
        have : (L : Int) = ((z j).den : Int) * (c : Int) := by exact_mod_cast hc
        rw [this, Int.fdiv_eq_ediv_of_dvd ⟨_, rfl⟩, Int.mul_ediv_cancel_left _ d0]
      rw [e3]
      have h1 := num_den (z j)
      have h2 := den_ne (z j)
      have h3 : (L : Rat) = ((z j).den : Rat) * (c : Rat) := by
        rw [hc]
        exact Rat.natCast_mul _ _
      simp only [Rat.intCast_mul, Rat.intCast_natCast]
      rw [h3]
      grind
    rw [e2, Rat.intCast_natCast]
    grind
  rw [decide_eq_decide]
  constructor
  · intro h
    have h : (0 : Rat) ≤ rv m r z * (L : Rat) := by
      rw [← e]
      exact_mod_cast h
    by_cases q : 0 ≤ rv m r z
    · exact q
    · have := Rat.mul_pos (show 0 < - rv m r z by grind) lp
      grind
  · intro h
    have := Rat.mul_nonneg h (Rat.le_of_lt lp)
    rw [← e] at this
    exact_mod_cast this
end EW
set_option Elab.async false
set_option linter.all false
set_option maxRecDepth 100000
set_option maxHeartbeats 4000000
set_option exponentiation.threshold 30000
namespace EW
open PySem PySem.Spec PyProof.Rows L2 Evl
section
variable {K : PySem.W.Frag} {σ : L2.St} {H H' : Hp} {ta tb te : TE} {S T : Prop} {n m : Nat} {v : V} {P : V → Hp → Prop}
open Classical in
theorem bo_and (h1 : EvP ta σ H (BoP S)) (h2 : S → EvP tb σ H (BoP T)) : EvP (tAndV ta tb) σ H (BoP (S ∧ T)) := by
  by_cases s : S
  · exact bo_of (ev_andV (b := decide T) (bo_ev h1) fun hs => bo_ev (h2 s)) (by simp)
  · exact bo_of (ev_andV (b := true) (bo_ev h1) fun hs => absurd (of_decide_eq_true hs) s) (by simp [s])
def natI : PyData → Bool
  | .int z => decide (0 ≤ z)
  | _ => false
theorem nat_all {ds : List PyData} (hl : ds.length = n) : (List.range n).all (fun i => natI (ds.getD i .none)) = true ↔ ∃ t : Nat → Int, PyData.tuple ds = pdI n t ∧ ∀ i, i < n → 0 ≤ t i := by
  rw [List.all_eq_true]
  constructor
  · intro h
    refine ⟨fun i => match ds.getD i .none with | .int z => z | _ => 0, ?_, fun i hi => ?_⟩
    · show PyData.tuple ds = .tuple _
      congr 1
      apply List.ext_getElem?
      intro i
      by_cases hi : i < n
      · have h1 := h i (List.mem_range.mpr hi)
        have e : ds[i]? = some (ds.getD i .none) := by simp [hl, hi]
        rw [pdI_at hi, e]
        generalize ds.getD i .none = d at h1 ⊢
        cases d <;> first | rfl | simp [natI] at h1
      · simp [hl, hi]
    · have h1 := h i (List.mem_range.mpr hi)
      show 0 ≤ match ds.getD i .none with | .int z => z | _ => 0
      generalize ds.getD i .none = d at h1 ⊢
      cases d with
      | int z => simpa [natI] using h1
      | _ => simp [natI] at h1
  · rintro ⟨t, h, hn⟩ i hi
    have hi : i < n := List.mem_range.mp hi
    unfold pdI at h
    simp only [PyData.tuple.injEq] at h
    rw [h]
    simp [hi, natI]
    exact hn i hi
/-- [c] * k -/
theorem en_rep {c : Int} (ha : Ev ta σ H (.int c)) (hm : Ev te σ H (.int (m : Int))) (hz : m ≤ 1000) : EvN (tOp rRep (tLst (tCons ta tNil)) te) σ H (IntsP m fun _ => c) := fun H1 e Q q => by
  show (tLst (tCons ta tNil)) σ H1 fun x G => te σ G fun y G2 => rRep x y G2 Q
  exact el_lst (vs := [.int c]) (ea_cons ha ea_nil) (by show 1 ≤ 100000; decide) H1 e _ fun l H2 l0 e2 hl => hm H2 (e.trans e2) _ fun H3 e3 => ⟨l, (m : Int), [.int c], rfl, rfl, e3 _ _ hl, by omega, by omega, sz_of (by simp; omega), fun r hr => q r _ (fresh_back (e2.trans e3) hr) ((e2.trans e3).trans (Ex.new hr)) ⟨r, _, rfl, upd_same, by simp, fun i x hi => by
    have el : (List.replicate (m : Int).toNat [V.int c]).flatten = List.replicate m (V.int c) := by simp
    rw [el, List.getElem?_replicate] at hi
    split at hi
    · exact (Option.some.inj hi).symm
    · cases hi⟩⟩
/-! ### lists of ints, compared -/
def pdL (xs : List Int) : PyData := .list (xs.map PyData.int)
theorem pdL_shaped (xs : List Int) : SeqAt.shaped (pdL xs) = true := by
  have h1 := pdDepth xs
  have h2 : PyData.depth (pdL xs) ≤ 64 := by
    unfold pdL
    simp only [PyData.depth]
    omega
  show (PyData.canLay0 (pdL xs) && decide (PyData.depth (pdL xs) ≤ 64)) = true
  rw [Bool.and_eq_true]
  refine ⟨?_, decide_eq_true h2⟩
  unfold pdL
  simp only [PyData.canLay0]
  exact pdLay xs
theorem pdL_eqv (xs ys : List Int) : PyData.eqv (pdL xs) (pdL ys) = decide (xs = ys) := by
  unfold pdL
  simp only [PyData.eqv]
  exact pd_eqvAll xs ys
theorem dp_intsL {f : Nat → Int} (h : IntsP m f v H) : Dp K H v (pdL ((List.range m).map f)) := by
  obtain ⟨p, xs, rfl, hp, hl, hx⟩ := h
  have : xs = ((List.range m).map f).map V.int := by
    apply List.ext_getElem?
    intro i
    rw [List.map_map, List.getElem?_map]
    by_cases hi : i < m
    · have := hx i xs[i] (by simp [hl, hi])
      simp [hl, hi, this]
    · simp [hl, hi]
  rw [this] at hp
  exact .lst (sq_of hp) (dp_all _)
theorem bo_eqL {f g : Nat → Int} (ha : EvP ta σ H (IntsP m f)) (hb : EvP tb σ H (IntsP m g)) : EvP (tOp (rEqD K) ta tb) σ H (BoP (∀ j, j < m → f j = g j)) := fun H1 e Q k =>
  ha H1 e _ fun x H2 e2 h1 => hb H2 (e.trans e2) _ fun y H3 e3 h2 => ⟨_, _, dp_intsL (ints_mono _ _ _ e3 h1), dp_intsL h2, pdL_shaped _, pdL_shaped _, by
    rw [pdL_eqv]
    exact k _ H3 (e2.trans e3) ⟨_, rfl, by rw [decide_eq_true_eq]; exact range_map_eq⟩⟩
end
/-- times of ROWS, together: by columns, the constant last -/
def totF (n m : Nat) (R : Nat → Row) (t : Nat → Int) : Nat → Int := fun j => SX.smI n fun i => t i * colOf m (R i) j
section
variable {P : Program} {w : World} {K : PySem.W.Frag} {mg : Str → Option Value} {base : Heap}
/-! ### are_times -/
abbrev sAreT : Stmt := top 42
def spAreT (K : PySem.W.Frag) : Sp := fun vs H Q _ => ∃ (n : Nat) (a : Addr) (xs : List V) (v : V) (d : PyData), vs = [.ref a, v] ∧ SqT K H a xs ∧ xs.length = n ∧ Dq K H v d ∧ n ≤ 1000 ∧ RetP (BoP (∃ t : Nat → Int, d = pdI n t ∧ ∀ i, i < n → 0 ≤ t i)) H Q
theorem scAreT : FnScope ["rows", "value", "number"] ["rows", "value"] (defScope sAreT) := ⟨rfl, rfl, rfl, by decide +kernel, rfl, by decide +kernel, by decide +kernel⟩
theorem ok_areT {f fI : Addr} {fd fdI : FuncData} (F : Fun K "are_times" "are_times" sAreT f fd) (B : Bl2 mg) (B1 : Blt mg) (I : Has P w K mg base "is_integer" 1 ["value"] (spIsInt K) fI fdI) : FnOk P w K mg base CX0 2 f fd ["rows", "value"] (spAreT K) := by
  refine F.ok scAreT (fun vs H Q E h => ?_) (fun cdv A outer s H vs Q E hr h => ?_)
  · obtain ⟨n, a, xs, v, d, rfl, _⟩ := h
    rfl
  · obtain ⟨n, a, xs, v, d, rfl, ha, hl, hv, hn, k⟩ := h
    refine ⟨_, pss_cons (ps_if (pw_or (pt_not (pt_val (pe_callB call_isi (by rfl) B1.isi (by decide +kernel) (pa_cons (pv 1) (pa_cons (pe_bltn (v := .ty "tuple") (by rfl) B.tuple (by decide +kernel) rfl) pa_nil)))))
        (pw_or1 (pt_cmpR op_ne (pe_callB call_len_seq (by rfl) B.len PySem.boot_len (pa_cons (pv 1) pa_nil)) (pe_callB call_len_seq (by rfl) B.len PySem.boot_len (pa_cons (pv 0) pa_nil)) (nomark _)))).pt (pss_one (ps_ret pe_bl)) pss_nil)
      (pss_one (ps_ret (pe_callB (cr_all rfl) (by rfl) B.all (by decide +kernel) (pa_cons (pe_lc (own := [("number", 2)]) (g := gName 2) (tt := tYes) rfl scAreT.nd (pi_tup (pv 1)) (blkOk_by (N := ["rows", "value", "number"]) (sc := defScope sAreT) (by decide +kernel))
          (fun _ _ _ _ _ => pg_name (i := 2) scAreT.nd rfl (.inl rfl)) (fun _ _ _ _ _ => pts_nil) (fun _ _ _ _ _ => pe_and (pe_cl I hr (pa_cons (pv 2) pa_nil)) (pe_one (pe_cmpR op_ge (pv 2) pe_int (nomark _))))) pa_nil)))), ?_⟩
    have lenR : ∀ {G}, Ex H G → Ev (tCB (fun xs H Q => ∃ p ys, xs = [V.ref p] ∧ (SqL K H p ys ∨ SqT K H p ys) ∧ Q (.int ys.length) H) (tCons (tVar 0) tNil)) [some (.ref a), some v, none] G (.int (n : Int)) := fun e => ev_cb (ea_cons (ev_var rfl) ea_nil) fun H1 e1 Q q => ⟨a, xs, rfl, .inr (ex_t (e.trans e1) ha), by rw [hl]; exact q H1 (Ex.refl _)⟩
    cases d with
    | tuple ds =>
      have hd : ∀ {G}, Ex H G → EvP (tVar 1) [some (.ref a), some v, none] G (fun v H => Dq K H v (.tuple ds)) := fun e => ep_varM rfl (hv.mono e) dq_mono
      by_cases t2 : ds.length = n
      · refine q_when (b := false) (et_orF (et_is (et_not (et_B (ev_isTD (hd (Ex.refl _))))) rfl) (et_is (et_test (ev_op (ev_lenD (hd (Ex.refl _))) (lenR (Ex.refl _)) (rv_ne rfl))) (by rw [t2]; simp))) (fun z => by cases z) fun _ H1 e1 => ?_
        refine sp_ret (bo_of (ev_allN (n := n) (f := fun i => natI (ds.getD i .none)) (en_lc (sr_tupP (n := n) (Pi := fun i x H => ∃ d, ds[i]? = some d ∧ Dq K H x d) (ep_w (hd e1) fun v H2 e2 h => t2 ▸ dq_tsP h) dqm_mono) (by omega) (fun _ => mono_eq) ?_)) (nat_all t2)) (k.go e1)
        rintro i x H2 hi e2 ⟨d, h1, h2⟩
        have e : ds.getD i .none = d := by simp [h1]
        refine ⟨_, fun Q q => q, rfl, EvP.d tst_eq (ev_p ?_)⟩
        rw [e]
        by_cases t3 : isIn d = true
        · cases d with
          | int z => exact ev_is (ev_andV (ev_isID (d := .int z) (ep_varM rfl h2 dq_mono)) fun _ => ev_op (ev_dInt (ep_varM rfl h2 dq_mono)) ev_c rv_I0) (by simp [isIn, natI])
          | _ => simp [isIn] at t3
        · have : natI d = false := by cases d <;> first | rfl | simp [isIn] at t3
          rw [this]
          exact ev_is (ev_andV (b := true) (ev_isID (ep_varM rfl h2 dq_mono)) fun h => absurd h t3) (by simpa using t3)
      · refine q_when (b := true) (et_orF (et_is (et_not (et_B (ev_isTD (hd (Ex.refl _))))) rfl) (et_is (et_test (ev_op (ev_lenD (hd (Ex.refl _))) (lenR (Ex.refl _)) (rv_ne rfl))) ?_)) (fun _ H1 e1 => ret_no ?_ k e1) fun z => by cases z
        · have : ¬ (ds.length : Int) = (n : Int) := by omega
          simp [this]
        · rintro ⟨t, h, _⟩
          unfold pdI at h
          simp only [PyData.tuple.injEq] at h
          rw [h] at t2
          simp at t2
    | _ =>
      refine q_when (b := true) (et_orT (et_is (et_not (et_B (ev_isTD (ep_varM rfl hv dq_mono)))) rfl)) (fun _ H1 e1 => ret_no ?_ k e1) fun z => by cases z
      rintro ⟨t, h, _⟩
      unfold pdI at h
      cases h
end
end EW
set_option Elab.async false
set_option linter.all false
set_option maxRecDepth 100000
set_option maxHeartbeats 4000000
set_option exponentiation.threshold 30000
namespace EW
open PySem PySem.Spec PyProof.Rows L2 Evl
section
variable {P : Program} {w : World} {K : PySem.W.Frag} {mg : Str → Option Value} {base : Heap}
/-! ### total_of -/
abbrev sTotal : Stmt := top 43
abbrev nTotal : List Str := ["many", "rows", "times", "found", "row", "number", "one", "own"]
def spTotal (K : PySem.W.Frag) : Sp := fun vs H Q _ => ∃ (n m B : Nat) (R : Nat → Row) (t : Nat → Int) (v u : V), vs = [.int (m : Int), v, u] ∧ RwsP K n m R v H ∧ IntsT K n t u H ∧ (∀ i, i < n → Sml m (R i)) ∧ (∀ i, i < n → (t i).natAbs < 2 ^ B) ∧ 0 < B ∧ B ≤ 100000 ∧ m ≤ 24 ∧ n ≤ 1000 ∧ RetP (IntsP (m + 1) (totF n m R t)) H Q
theorem scTotal : FnScope nTotal ["many", "rows", "times"] (defScope sTotal) := ⟨rfl, rfl, rfl, by decide +kernel, rfl, by decide +kernel, by decide +kernel⟩
theorem col_lt {m j : Nat} {r : Row} (sm : Sml m r) (hj : j < m + 1) : (colOf m r j).natAbs < 2 ^ 12 := by
  unfold colOf
  split
  · exact sm.k j (by assumption)
  · exact sm.c
theorem ok_total {f fC : Addr} {fd fdC : FuncData} (F : Fun K "total_of" "total_of" sTotal f fd) (B : Bl2 mg) (Co : Has P w K mg base "column_of" 1 ["row"] (spColumnOf K) fC fdC) : FnOk P w K mg base CX0 2 f fd ["many", "rows", "times"] (spTotal K) := by
  refine F.ok scTotal (fun vs H Q E h => ?_) (fun cdv A outer s H vs Q E hr h => ?_)
  · obtain ⟨n, m, B, R, t, v, u, rfl, _⟩ := h
    rfl
  · obtain ⟨n, m, Z, R, t, v, u, rfl, hv, hu, sm, tz, z0, z1, m24, hn, k⟩ := h
    refine ⟨_, pss_cons (ps_set (i := 3) scTotal.nd rfl (.inl rfl) (pe_op op_rep (pe_lst (pa_cons pe_int pa_nil)) (pe_op op_add (pv 0) pe_int)))
      (pss_cons (ps_for PassesOwn.never rfl (RZ.pi_zipA (by rfl) B.zip (pa_cons (pv 1) (pa_cons (pv 2) pa_nil))) (pg_tup rfl (pgs_cons (pg_name (i := 4) scTotal.nd rfl (.inl rfl)) (pgs_cons (pg_name (i := 5) scTotal.nd rfl (.inr rfl)) pgs_nil)))
        (pss_one (ps_if (pt_cmpR op_ne (pv 5) pe_int (nomark _)) (pss_one (ps_setLc (i := 3) (own := [("one", 6), ("own", 7)]) (g := gTup K 2 (gCons (gName 6) (gCons (gName 7) gNil))) (tt := tYes) rfl scTotal.nd rfl rfl (sw_true rfl rfl rfl (by decide +kernel)) (pi_zip (by rfl) B.zip (pa_cons (pv 3) (pa_cons (pe_cl Co hr (pa_cons (pv 4) pa_nil)) pa_nil))) (blkOk_by (N := nTotal) (sc := defScope sTotal) (by decide +kernel))
          (fun _ _ _ _ _ => pgT K rfl rfl (pgs_cons (pg_name (i := 6) scTotal.nd rfl (.inl rfl)) (pgs_cons (pg_name (i := 7) scTotal.nd rfl (.inl rfl)) pgs_nil))) (fun _ _ _ _ _ => pts_nil) (fun _ _ _ _ _ => pe_op op_add (pv 6) (pe_op op_mulW (pv 5) (pv 7))))) pss_nil)))
      (pss_one (ps_ret (pv 3)))), ?_⟩
    refine qn_asg (en_rep (m := m + 1) ev_c (ev_is (ev_op (ev_var rfl) ev_c rv_I0) (by push_cast; rfl)) (by omega)) fun l H1 l0 e1 hl => ?_
    refine q_forP (sr_zipT (ap_two rws_mono (ep_varM rfl (rws_mono _ _ _ e1 hv) rws_mono) (ep_varM rfl (intsT_mono _ _ _ e1 hu) intsT_mono)) (fun _ => rw_mono) fun _ => mono_eq)
      (fun B i σ H' => Ex B H' ∧ ∃ l x y z z', σ = [some (.int (m : Int)), some v, some u, some l, x, y, z, z'] ∧ IntsP (m + 1) (totF i m R t) l H') (fun H2 e2 => ⟨Ex.refl _, _, _, _, _, _, rfl, ls_congr (fun j x H hj q => q) (ints_mono _ _ _ e2 hl)⟩) (fun _ _ _ _ _ p => p.1) ?_ ?_
    · rintro B' i x σ H2 H3 hi eB ⟨e2, l, y1, y2, y3, y4, rfl, hl⟩ e3 ⟨T', p1, p2, rfl, hT, h1, rfl⟩
      refine g_pair hT ?_
      have step : ∀ j, totF (i + 1) m R t j = totF i m R t j + t i * colOf m (R i) j := fun j => rfl
      refine s_when (b := !decide (t i = 0)) (et_is (et_test (ev_op (ev_var rfl) ev_c (rv_ne rfl))) ?_) (fun hb H4 e4 => ?_) fun hb H4 e4 => ?_
      · congr 1
        rw [decide_eq_decide]
        constructor
        · intro z
          injection z
        · intro z
          rw [z]
      · refine sn_asg (P := IntsP (m + 1) (totF (i + 1) m R t)) (en_lc (sr_zipP (ap_two ints_mono (ep_varM rfl (ints_mono _ _ _ (e3.trans e4) hl) ints_mono) (en_callV (P := IntsP (m + 1) (colOf m (R i))) (ea_cons (ev_var rfl) ea_nil) fun H5 e5 Q q => ⟨m, R i, p1, rfl, rw_mono _ _ _ (e4.trans e5) h1, by omega, q⟩).p) (fun _ => mono_eq) fun _ => mono_eq) (by omega) (fun _ => mono_eq) ?_) fun q H5 hq e5 hn5 => ⟨((e2.trans e3).trans e4).trans e5, _, _, _, _, _, rfl, hn5⟩
        rintro j pr H5 hj e5 ⟨T', a, b, rfl, hT, ha, hbb⟩
        subst ha hbb
        exact ⟨_, fun Q q => g_pair hT q, rfl, EvP.d tst_eq (ev_p (ev_is (ev_op (ev_var rfl) (ev_mulW (m := Z) (n := 12) (ev_var rfl) (ev_var rfl) (tz i hi) (col_lt (sm i hi) hj) z0 (by decide) (by omega)) rv_I0) (by rw [step])))⟩
      · have t0 : t i = 0 := by simpa using hb
        refine ⟨(e2.trans e3).trans e4, _, _, _, _, _, rfl, ls_congr (fun j x H hj q => ?_) (ints_mono _ _ _ (e3.trans e4) hl)⟩
        rw [q, step, t0]
        simp
    · rintro B' σ H2 eB ⟨e2, l, y1, y2, y3, y4, rfl, hl⟩
      exact sp_ret (ep_varM rfl hl ints_mono) (k.go ((e1.trans eB).trans e2))
end
end EW
set_option Elab.async false
set_option linter.all false
set_option maxRecDepth 100000
set_option maxHeartbeats 4000000
set_option exponentiation.threshold 30000
namespace EW
open PySem PySem.Spec PyProof.Rows L2 Evl
section
variable {K : PySem.W.Frag} {σ : L2.St} {H H' : Hp} {ta tb te : TE} {D : Ends} {tz : TS} {A B : V → Hp → Prop}
theorem q_parP {i j : Nat} (ha : EvP ta σ H A) (mA : Mono A) (hb : EvP tb σ H B) (k : ∀ a b H1, Ex H H1 → A a H1 → B b H1 → tz D ((σ.set i (some a)).set j (some b)) H1) : tSeq (tPar i j (tCons ta (tCons tb tNil))) tz D σ H :=
  ha H (Ex.refl _) _ fun a H1 e1 pa => hb H1 e1 _ fun b H2 e2 pb => ⟨a, b, rfl, k a b H2 (e1.trans e2) (mA _ _ _ e2 pa) pb⟩
theorem ep_tot {tc : TE} {E : XK} {n m Z : Nat} {R : Nat → Row} {t : Nat → Int} (ha : Ev ta σ H (.int (m : Int))) (hb : EvP tb σ H (RwsP K n m R)) (hc : EvP tc σ H (IntsT K n t)) (sm : ∀ i, i < n → Sml m (R i)) (tz : ∀ i, i < n → (t i).natAbs < 2 ^ Z) (z0 : 0 < Z) (z1 : Z ≤ 100000) (m24 : m ≤ 24) (hn : n ≤ 1000) :
    EvP (tCall (spTotal K) [] E (tCons ta (tCons tb (tCons tc tNil)))) σ H (IntsP (m + 1) (totF n m R t)) := fun H1 e Q q =>
  ha H1 e _ fun H2 e2 => hb H2 (e.trans e2) _ fun v H3 e3 hv => hc H3 ((e.trans e2).trans e3) _ fun u H4 e4 hu => ⟨n, m, Z, R, t, v, u, rfl, rws_mono _ _ _ e4 hv, hu, sm, tz, z0, z1, m24, hn, fun w H5 e5 hw => q w H5 (((e2.trans e3).trans e4).trans e5) hw⟩
end
section
variable {P : Program} {w : World} {K : PySem.W.Frag} {mg : Str → Option Value} {base : Heap}
/-! ### come_to, come_to_never -/
abbrev sCome : Stmt := top 44
abbrev nCome : List Str := ["many", "rows", "by", "times", "row", "total", "goal", "own"]
def Comes (n m : Nat) (R : Nat → Row) (b : Int) (t : Nat → Int) (r : Row) : Prop := (∀ j, j < m → totF n m R t j = b * r.2 j) ∧ totF n m R t m ≤ b * r.1
def ComesN (n m : Nat) (R : Nat → Row) (t : Nat → Int) : Prop := (∀ j, j < m → totF n m R t j = 0) ∧ totF n m R t m < 0
def spCome (K : PySem.W.Frag) : Sp := fun vs H Q _ => ∃ (n m Z : Nat) (R : Nat → Row) (b : Int) (t : Nat → Int) (r : Row) (v u x : V), vs = [.int (m : Int), v, .int b, u, x] ∧ RwsP K n m R v H ∧ IntsT K n t u H ∧ RwP K m r x H ∧ (∀ i, i < n → Sml m (R i)) ∧ (∀ i, i < n → (t i).natAbs < 2 ^ Z) ∧ b.natAbs < 2 ^ Z ∧ Sml m r ∧ 0 < Z ∧ Z ≤ 100000 ∧ m ≤ 24 ∧ n ≤ 1000 ∧ RetP (BoP (Comes n m R b t r)) H Q
theorem scCome : FnScope nCome ["many", "rows", "by", "times", "row"] (defScope sCome) := ⟨rfl, rfl, rfl, by decide +kernel, rfl, by decide +kernel, by decide +kernel⟩
theorem ok_come {f fT fC : Addr} {fd fdT fdC : FuncData} (F : Fun K "come_to" "come_to" sCome f fd) (B : Bl2 mg) (To : Has P w K mg base "total_of" 2 ["many", "rows", "times"] (spTotal K) fT fdT) (Co : Has P w K mg base "column_of" 1 ["row"] (spColumnOf K) fC fdC) : FnOk P w K mg base CX0 3 f fd ["many", "rows", "by", "times", "row"] (spCome K) := by
  refine F.ok scCome (fun vs H Q E h => ?_) (fun cdv A outer s H vs Q E hr h => ?_)
  · obtain ⟨n, m, Z, R, b, t, r, v, u, x, rfl, _⟩ := h
    rfl
  · obtain ⟨n, m, Z, R, b, t, r, v, u, x, rfl, hv, hu, hx, sm, tz, bz, sr, z0, z1, m24, hn, k⟩ := h
    refine ⟨_, pss_cons (ps_par (i := 5) (j := 6) rfl scCome.nd rfl rfl (by decide) rfl rfl (pa_cons (pe_cl To hr (pa_cons (pv 0) (pa_cons (pv 1) (pa_cons (pv 3) pa_nil)))) (pa_cons (pe_cl Co (hr.mono (by decide)) (pa_cons (pv 4) pa_nil)) pa_nil)) (by rfl))
      (pss_one (ps_ret (pe_and (pe_cmpR (op_eqD hr.units) (pe_slice sl_list (pv 5) po_none (po_some (pe_un un_neg pe_int))) (pe_lc (own := [("own", 7)]) (g := gName 7) (tt := tYes) rfl scCome.nd (pi_list (pe_slice sl_list (pv 6) po_none (po_some (pe_un un_neg pe_int)))) (blkOk_by (N := nCome) (sc := defScope sCome) (by decide +kernel))
          (fun _ _ _ _ _ => pg_name (i := 7) scCome.nd rfl (.inl rfl)) (fun _ _ _ _ _ => pts_nil) (fun _ _ _ _ _ => pe_op op_mulW (pv 2) (pv 7))) (nomark _))
        (pe_one (pe_cmpR op_le (pe_ix ix_list (pv 5) (pe_un un_neg pe_int) (fun _ _ => rfl)) (pe_op op_mulW (pv 2) (pe_ix ix_list (pv 6) (pe_un un_neg pe_int) (fun _ _ => rfl))) (nomark _)))))), ?_⟩
    refine q_parP (A := IntsP (m + 1) (totF n m R t)) (B := IntsP (m + 1) (colOf m r)) (ep_tot (ev_var rfl) (ep_varM rfl hv rws_mono) (ep_varM rfl hu intsT_mono) sm tz z0 z1 m24 hn) ints_mono (en_callV (P := IntsP (m + 1) (colOf m r)) (ea_cons (ev_var rfl) ea_nil) fun H5 e5 Q q => ⟨m, r, x, rfl, rw_mono _ _ _ e5 hx, by omega, q⟩).p fun a b' H1 e1 ha hb => ?_
    refine sp_ret (bo_and (bo_eqL (m := m) (f := totF n m R t) (g := fun j => b * colOf m r j) (ep_cutL (ep_varM rfl ha ints_mono) fun _ => mono_eq) (en_lc (sr_listP (ep_cutL (ep_varM rfl hb ints_mono) fun _ => mono_eq) fun _ => mono_eq) (by omega) (fun _ => mono_eq) ?_).p) fun _ => bo_of (b := decide (totF n m R t m ≤ b * colOf m r m)) (ev_op (p_ev (ep_ixZ (ep_varM rfl ha ints_mono) fun _ => mono_eq)) (ev_mulW (m := Z) (n := 12) (ev_var rfl) (p_ev (ep_ixZ (ep_varM rfl hb ints_mono) fun _ => mono_eq)) bz (col_lt sr (by omega)) z0 (by decide) (by omega)) rv_I0) decide_eq_true_iff) fun w H2 e2 ⟨b2, h1, h2⟩ => k w H2 (e1.trans e2) ⟨b2, h1, h2.trans ?_⟩
    · intro j y H2 hj e2 hX
      subst hX
      exact ⟨_, fun Q q => q, rfl, EvP.d tst_eq (ev_p (ev_mulW (m := Z) (n := 12) (ev_var rfl) (ev_var rfl) bz (col_lt sr (by omega)) z0 (by decide) (by omega)))⟩
    · have e1 : ∀ j, j < m → colOf m r j = r.2 j := fun j hj => if_pos hj
      have e2 : colOf m r m = r.1 := if_neg (Nat.lt_irrefl m)
      unfold Comes
      rw [e2]
      constructor
      · rintro ⟨h3, h4⟩
        exact ⟨fun j hj => by rw [h3 j hj, e1 j hj], h4⟩
      · rintro ⟨h3, h4⟩
        exact ⟨fun j hj => by rw [h3 j hj, e1 j hj], h4⟩
abbrev sComeN : Stmt := top 45
def spComeN (K : PySem.W.Frag) : Sp := fun vs H Q _ => ∃ (n m Z : Nat) (R : Nat → Row) (t : Nat → Int) (v u : V), vs = [.int (m : Int), v, u] ∧ RwsP K n m R v H ∧ IntsT K n t u H ∧ (∀ i, i < n → Sml m (R i)) ∧ (∀ i, i < n → (t i).natAbs < 2 ^ Z) ∧ 0 < Z ∧ Z ≤ 100000 ∧ m ≤ 24 ∧ n ≤ 1000 ∧ RetP (BoP (ComesN n m R t)) H Q
theorem scComeN : FnScope ["many", "rows", "times", "total"] ["many", "rows", "times"] (defScope sComeN) := ⟨rfl, rfl, rfl, by decide +kernel, rfl, by decide +kernel, by decide +kernel⟩
theorem ok_comeN {f fT : Addr} {fd fdT : FuncData} (F : Fun K "come_to_never" "come_to_never" sComeN f fd) (To : Has P w K mg base "total_of" 2 ["many", "rows", "times"] (spTotal K) fT fdT) : FnOk P w K mg base CX0 3 f fd ["many", "rows", "times"] (spComeN K) := by
  refine F.ok scComeN (fun vs H Q E h => ?_) (fun cdv A outer s H vs Q E hr h => ?_)
  · obtain ⟨n, m, Z, R, t, v, u, rfl, _⟩ := h
    rfl
  · obtain ⟨n, m, Z, R, t, v, u, rfl, hv, hu, sm, tz, z0, z1, m24, hn, k⟩ := h
    refine ⟨_, pss_cons (ps_set (i := 3) scComeN.nd rfl (.inl rfl) (pe_cl To hr (pa_cons (pv 0) (pa_cons (pv 1) (pa_cons (pv 2) pa_nil)))))
      (pss_one (ps_ret (pe_and (pe_cmpR (op_eqD hr.units) (pe_slice sl_list (pv 3) po_none (po_some (pe_un un_neg pe_int))) (pe_op op_rep (pe_lst (pa_cons pe_int pa_nil)) (pv 0)) (nomark _))
        (pe_one (pe_cmpR op_lt (pe_ix ix_list (pv 3) (pe_un un_neg pe_int) (fun _ _ => rfl)) pe_int (nomark _)))))), ?_⟩
    refine qp_asg (P := IntsP (m + 1) (totF n m R t)) (ep_tot (ev_var rfl) (ep_varM rfl hv rws_mono) (ep_varM rfl hu intsT_mono) sm tz z0 z1 m24 hn) fun a H1 e1 ha => ?_
    exact sp_ret (bo_and (bo_eqL (m := m) (f := totF n m R t) (g := fun j => 0) (ep_cutL (ep_varM rfl ha ints_mono) fun _ => mono_eq) (en_rep ev_c (ev_var rfl) (by omega)).p) fun _ => bo_of (b := decide (totF n m R t m < 0)) (ev_op (p_ev (ep_ixZ (ep_varM rfl ha ints_mono) fun _ => mono_eq)) ev_c rv_I0) decide_eq_true_iff) (k.go e1)
end
end EW
set_option Elab.async false
set_option linter.all false
set_option maxRecDepth 100000
set_option maxHeartbeats 4000000
set_option exponentiation.threshold 30000
namespace EW
open PySem PySem.Spec PyProof.Rows L2 Evl
section
variable {P : Program} {w : World} {K : PySem.W.Frag} {mg : Str → Option Value} {base : Heap}
/-! ### value_at of a tuple -/
def spValueAtT (K : PySem.W.Frag) : Sp := fun vs H Q _ => ∃ (m s : Nat) (r : Row) (z : Nat → Rat) (v u : V), vs = [v, u] ∧ RwP K m r v H ∧ FrsT K m z u H ∧ Sml m r ∧ Cd s m z ∧ m ≤ 24 ∧ 0 < s ∧ s ≤ 3000 ∧ RetP (Fr K (rv m r z)) H Q
theorem ok_valueAtT {f fA fP : Addr} {fd fdA fdP : FuncData} (F : Fun K "value_at" "value_at" sValueAt f fd) (B : Bl2 mg) (Ad : Has P w K mg base "added" 3 f2N (spFr2 K (fun _ => True) (· + ·)) fA fdA) (Pr : Has P w K mg base "product" 3 f2N (spFr2 K (fun _ => True) (· * ·)) fP fdP) :
    FnOk P w K mg base CX0 4 f fd ["row", "spot"] (spValueAtT K) := by
  refine F.ok scValueAt (fun vs H Q E h => ?_) (fun cdv A outer s H vs Q E hr h => ?_)
  · obtain ⟨m, s, r, z, v, u, rfl, _⟩ := h
    rfl
  · obtain ⟨m, s, r, z, v, u, rfl, hv, hu, sm, cd, hm, s0, s1, k⟩ := h
    refine ⟨_, pss_cons (ps_set (i := 2) scValueAt.nd rfl (.inl rfl) (pe_tup (pa_cons (pe_ix ix_tup (pv 0) pe_int (fun _ _ => rfl)) (pa_cons pe_int pa_nil))))
      (pss_cons (ps_for PassesOwn.never rfl (RZ.pi_zipA (by rfl) B.zip (pa_cons (pe_ix ix_tup (pv 0) pe_int (fun _ _ => rfl)) (pa_cons (pv 1) pa_nil))) (pg_tup rfl (pgs_cons (pg_name (i := 3) scValueAt.nd rfl (.inl rfl)) (pgs_cons (pg_name (i := 4) scValueAt.nd rfl (.inl rfl)) pgs_nil)))
        (pss_one (ps_set (i := 2) scValueAt.nd rfl (.inl rfl) (pe_cl Ad hr (pa_cons (pv 2) (pa_cons (pe_cl Pr hr (pa_cons (pe_tup (pa_cons (pv 3) (pa_cons pe_int pa_nil))) (pa_cons (pv 4) pa_nil))) pa_nil))))))
      (pss_one (ps_ret (pv 2)))), ?_⟩
    refine qp_asg (P := Fr K (r.1 : Rat)) (ep_int1 (ev_row0 (ep_varM rfl hv rw_mono))) fun t H1 e1 ht => ?_
    refine q_forP (sr_zipT (ap_two intsT_mono (ep_row1 (ep_varM rfl (rw_mono _ _ _ e1 hv) rw_mono)) (ep_varM rfl (frsT_mono _ _ _ e1 hu) frsT_mono)) (fun _ => mono_eq) fun _ => Fr.mono)
      (fun B i σ H' => Ex B H' ∧ ∃ t x y, σ = [some v, some u, some t, x, y] ∧ Fr K ((r.1 : Rat) + SX.sm i (fun j => (r.2 j : Rat) * z j)) t H') (fun H2 e2 => ⟨Ex.refl _, _, _, _, rfl, fr_cast (by simp only [SX.sm]; grind) (Fr.mono _ _ _ e2 ht)⟩) (fun _ _ _ _ _ p => p.1) ?_ ?_
    · rintro B' i x σ H2 H3 hi eB ⟨e2, t, y1, y2, rfl, ht⟩ e3 ⟨T', p1, p2, rfl, hT, rfl, h2⟩
      refine g_pair hT ?_
      refine sp_asg (ep_fr2 (s + 17) (12 + s) (ep_varM rfl (Fr.mono _ _ _ e3 ht) Fr.mono) (ep_fr2 12 s (ep_int1 (ev_var rfl)) (ep_varM rfl h2 Fr.mono) (sz_int (sm.k i hi) (by decide)) (cd.sz hi) ⟨by decide, s0, by omega⟩ trivial) (sz_rv sm cd (by omega) hm) ((sz_int (sm.k i hi) (by decide)).mul (cd.sz hi)) ⟨by omega, by omega, by omega⟩ trivial) fun t2 H4 e4 ht2 => ?_
      refine ⟨(e2.trans e3).trans e4, _, _, _, rfl, fr_cast ?_ ht2⟩
      simp only [SX.sm]
      grind
    · rintro B' σ H2 eB ⟨e2, t, y1, y2, rfl, ht⟩
      exact sp_ret (ep_varM rfl ht Fr.mono) (k.go ((e1.trans eB).trans e2))
end
section
variable {K : PySem.W.Frag} {σ : L2.St} {H H' : Hp} {ta tb te : TE} {n m : Nat} {d : PyData} {S : Prop}
theorem ep_valT {E : XK} {s : Nat} {r : Row} {z : Nat → Rat} (ha : EvP ta σ H (RwP K m r)) (hb : EvP tb σ H (FrsT K m z)) (sm : Sml m r) (cd : Cd s m z) (m24 : m ≤ 24) (s0 : 0 < s) (s1 : s ≤ 3000) : EvP (tCall (spValueAtT K) [] E (tCons ta (tCons tb tNil))) σ H (Fr K (rv m r z)) := fun H1 e Q q =>
  ha H1 e _ fun v H2 e2 hv => hb H2 (e.trans e2) _ fun u H3 e3 hu => ⟨m, s, r, z, v, u, rfl, rw_mono _ _ _ e3 hv, hu, sm, cd, m24, s0, s1, fun w H4 e4 hw => q w H4 ((e2.trans e3).trans e4) hw⟩
theorem ep_isFr {E : XK} (ha : EvP ta σ H (fun v H => Dq K H v d)) : EvP (tCall (spIsFr K) [] E (tCons ta tNil)) σ H (BoP (∃ q : Rat, d = frD q)) := fun H1 e Q q =>
  ha H1 e _ fun v H2 e2 hv => ⟨v, d, rfl, hv, fun w H3 e3 hw => q w H3 (e2.trans e3) hw⟩
theorem ep_areT {E : XK} {Pi : Nat → V → Hp → Prop} (ha : EvP ta σ H (TsP K n Pi)) (hb : EvP tb σ H (fun v H => Dq K H v d)) (hn : n ≤ 1000) : EvP (tCall (spAreT K) [] E (tCons ta (tCons tb tNil))) σ H (BoP (∃ t : Nat → Int, d = pdI n t ∧ ∀ i, i < n → 0 ≤ t i)) := fun H1 e Q q =>
  ha H1 e _ fun v H2 e2 ⟨a, xs, ev, ha, hl, _⟩ => hb H2 (e.trans e2) _ fun u H3 e3 hu => ⟨n, a, xs, u, d, by rw [ev]; rfl, ex_t e3 ha, hl, hu, hn, fun w H4 e4 hw => q w H4 ((e2.trans e3).trans e4) hw⟩
/-- any([..]) -/
theorem ev_anyN {f : Nat → Bool} (h : EvN te σ H (LsP n fun i x _ => x = .bl (f i))) : Ev (tCB (rAny K) (tCons te tNil)) σ H (.bl ((List.range n).any f)) := fun H1 e Q q => el_of h H1 e _ fun p H2 _ e2 hp => ⟨p, (List.range n).map f, rfl, by
  have : ((List.range n).map f).map V.bl = (List.range n).map fun i => V.bl (f i) := by simp [List.map_map, Function.comp_def]
  rw [this]
  exact sq_of hp, by
  have : ((List.range n).map f).any id = (List.range n).any f := by simp [List.any_map, Function.comp_def]
  rw [this]
  exact q H2 e2⟩
theorem ev_notV {b : Bool} (h : Ev te σ H (.bl b)) : Ev (tNotV te) σ H (.bl (!b)) := fun H1 e Q q => h H1 e _ fun H2 e2 => ⟨b, rfl, q H2 e2⟩
end
open Classical in
theorem fr_all {m : Nat} {zs : List PyData} (hl : zs.length = m) : (List.range m).all (fun i => decide (∃ q : Rat, zs.getD i .none = frD q)) = true ↔ ∃ z : Nat → Rat, PyData.tuple zs = pdZ m z := by
  rw [List.all_eq_true]
  constructor
  · intro h
    refine ⟨fun i => if hq : ∃ q : Rat, zs.getD i .none = frD q then hq.choose else 0, ?_⟩
    show PyData.tuple zs = .tuple _
    congr 1
    apply List.ext_getElem?
    intro i
    by_cases hi : i < m
    · have h1 := of_decide_eq_true (h i (List.mem_range.mpr hi))
      have e : zs[i]? = some (zs.getD i .none) := by simp [hl, hi]
      rw [e]
      simp only [List.getElem?_map, List.getElem?_range hi, Option.map_some]
      rw [dif_pos h1]
      congr 1
      exact h1.choose_spec
    · simp [hl, hi]
  · rintro ⟨z, h⟩ i hi
    have hi : i < m := List.mem_range.mp hi
    unfold pdZ at h
    simp only [PyData.tuple.injEq] at h
    apply decide_eq_true
    rw [h]
    exact ⟨z i, by simp [hi]⟩
theorem pdI_inj {n : Nat} {t t' : Nat → Int} (h : pdI n t = pdI n t') : ∀ i, i < n → t i = t' i := fun i hi => by
  unfold pdI at h
  simp only [PyData.tuple.injEq] at h
  have := congrArg (fun l => l[i]?) h
  simpa [hi] using this
theorem frD_inj {q q' : Rat} (h : frD q = frD q') : q = q' := by
  unfold frD at h
  simp at h
  exact Rat.ext h.1 (by have := h.2; omega)
theorem pdZ_inj {m : Nat} {z z' : Nat → Rat} (h : pdZ m z = pdZ m z') : ∀ i, i < m → z i = z' i := fun i hi => by
  unfold pdZ at h
  simp only [PyData.tuple.injEq] at h
  have := congrArg (fun l => l[i]?) h
  simp [hi] at this
  exact frD_inj this
theorem tot_congr {n m j : Nat} {R : Nat → Row} {t t' : Nat → Int} (h : ∀ i, i < n → t i = t' i) : totF n m R t j = totF n m R t' j := smI_congr fun i hi => by rw [h i hi]
theorem rv_congr {m : Nat} {r : Row} {z z' : Nat → Rat} (h : ∀ j, j < m → z j = z' j) : rv m r z = rv m r z' := by
  unfold rv
  rw [SX.sm_congr fun j hj => by rw [h j hj]]
/-- what shows_follows takes -/
def Shown (n m : Nat) (R : Nat → Row) (r : Row) (d : PyData) : Prop :=
  (∃ b t, d = .tuple [.str "times", .int b, pdI n t] ∧ 1 ≤ b ∧ (∀ i, i < n → 0 ≤ t i) ∧ Comes n m R b t r) ∨
  (∃ t, d = .tuple [.str "never", pdI n t] ∧ (∀ i, i < n → 0 ≤ t i) ∧ ComesN n m R t) ∨
  (∃ z, d = .tuple [.str "spot", pdZ m z] ∧ rv m r z < 0 ∧ ∀ i, i < n → 0 ≤ rv m (R i) z)
/-- sizes of what it is asked of -/
structure Szd (n m Z : Nat) (d : PyData) : Prop where
  b : ∀ b u, d = .tuple [.str "times", .int b, u] → b.natAbs < 2 ^ Z
  t : ∀ w b t, d = .tuple [w, b, pdI n t] → ∀ i, i < n → (t i).natAbs < 2 ^ Z
  e : ∀ w t, d = .tuple [w, pdI n t] → ∀ i, i < n → (t i).natAbs < 2 ^ Z
  z : ∀ w z, d = .tuple [w, pdZ m z] → Cd 2900 m z
end EW
set_option Elab.async false
set_option linter.all false
set_option maxRecDepth 100000
set_option maxHeartbeats 4000000
set_option exponentiation.threshold 30000
namespace EW
open PySem PySem.Spec PyProof.Rows L2 Evl
theorem ne_int {i j : Int} (h : ¬ i = j) : (!decide (V.int i = V.int j)) = true := by
  rw [Bool.not_eq_true', decide_eq_false_iff_not]
  exact fun z => h (by injection z)
theorem ep_come {K : PySem.W.Frag} {σ : L2.St} {H : Hp} {ta tb tc td te : TE} {E : XK} {n m Z : Nat} {R : Nat → Row} {b : Int} {t : Nat → Int} {r : Row} (ha : Ev ta σ H (.int (m : Int))) (hb : EvP tb σ H (RwsP K n m R)) (hc : Ev tc σ H (.int b)) (hd : EvP td σ H (IntsT K n t)) (he : EvP te σ H (RwP K m r)) (sm : ∀ i, i < n → Sml m (R i)) (tz : ∀ i, i < n → (t i).natAbs < 2 ^ Z) (bz : b.natAbs < 2 ^ Z) (sr : Sml m r) (z0 : 0 < Z) (z1 : Z ≤ 100000) (m24 : m ≤ 24) (hn : n ≤ 1000) :
    EvP (tCall (spCome K) [] E (tCons ta (tCons tb (tCons tc (tCons td (tCons te tNil)))))) σ H (BoP (Comes n m R b t r)) := fun H1 e Q q =>
  ha H1 e _ fun H2 e2 => hb H2 (e.trans e2) _ fun v H3 e3 hv => hc H3 ((e.trans e2).trans e3) _ fun H4 e4 => hd H4 (((e.trans e2).trans e3).trans e4) _ fun u H5 e5 hu => he H5 ((((e.trans e2).trans e3).trans e4).trans e5) _ fun x H6 e6 hx =>
  ⟨n, m, Z, R, b, t, r, v, u, x, rfl, rws_mono _ _ _ ((e4.trans e5).trans e6) hv, intsT_mono _ _ _ e6 hu, hx, sm, tz, bz, sr, z0, z1, m24, hn, fun w H7 e7 hw => q w H7 (((((e2.trans e3).trans e4).trans e5).trans e6).trans e7) hw⟩
theorem ep_comeN {K : PySem.W.Frag} {σ : L2.St} {H : Hp} {ta tb td : TE} {E : XK} {n m Z : Nat} {R : Nat → Row} {t : Nat → Int} (ha : Ev ta σ H (.int (m : Int))) (hb : EvP tb σ H (RwsP K n m R)) (hd : EvP td σ H (IntsT K n t)) (sm : ∀ i, i < n → Sml m (R i)) (tz : ∀ i, i < n → (t i).natAbs < 2 ^ Z) (z0 : 0 < Z) (z1 : Z ≤ 100000) (m24 : m ≤ 24) (hn : n ≤ 1000) :
    EvP (tCall (spComeN K) [] E (tCons ta (tCons tb (tCons td tNil)))) σ H (BoP (ComesN n m R t)) := fun H1 e Q q =>
  ha H1 e _ fun H2 e2 => hb H2 (e.trans e2) _ fun v H3 e3 hv => hd H3 ((e.trans e2).trans e3) _ fun u H4 e4 hu =>
  ⟨n, m, Z, R, t, v, u, rfl, rws_mono _ _ _ e4 hv, hu, sm, tz, z0, z1, m24, hn, fun w H5 e5 hw => q w H5 (((e2.trans e3).trans e4).trans e5) hw⟩
theorem comes_congr {n m : Nat} {R : Nat → Row} {b : Int} {t t' : Nat → Int} {r : Row} (h : ∀ i, i < n → t i = t' i) : Comes n m R b t r → Comes n m R b t' r := fun ⟨h1, h2⟩ => ⟨fun j hj => by rw [← tot_congr h]; exact h1 j hj, by rw [← tot_congr h]; exact h2⟩
theorem comesN_congr {n m : Nat} {R : Nat → Row} {t t' : Nat → Int} (h : ∀ i, i < n → t i = t' i) : ComesN n m R t → ComesN n m R t' := fun ⟨h1, h2⟩ => ⟨fun j hj => by rw [← tot_congr h]; exact h1 j hj, by rw [← tot_congr h]; exact h2⟩
theorem s_cons_if {σ : L2.St} {H : Hp} {t : TT} {tu tz : TS} {D : Ends} {b : Bool} (h : EvT t σ H b) (h1 : b = true → ∀ H1, Ex H H1 → tu { D with nx := tz D } σ H1) (h2 : b = false → ∀ H1, Ex H H1 → tz D σ H1) : tSeq (tIfS t tu tNext) tz D σ H := q_when h h1 h2
section
variable {P : Program} {w : World} {K : PySem.W.Frag} {mg : Str → Option Value} {base : Heap}
abbrev sShows : Stmt := top 46
abbrev nShows : List Str := ["many", "rows", "row", "value", "own"]
def spShows (K : PySem.W.Frag) : Sp := fun vs H Q _ => ∃ (n m Z : Nat) (R : Nat → Row) (r : Row) (v u x : V) (d : PyData), vs = [.int (m : Int), v, u, x] ∧ RwsP K n m R v H ∧ RwP K m r u H ∧ Dq K H x d ∧ (∀ i, i < n → Sml m (R i)) ∧ Sml m r ∧ m ≤ 24 ∧ n ≤ 60 ∧ 0 < Z ∧ Z ≤ 100000 ∧ Szd n m Z d ∧ RetP (BoP (Shown n m R r d)) H Q
theorem scShows : FnScope nShows ["many", "rows", "row", "value"] (defScope sShows) := ⟨rfl, rfl, rfl, by decide +kernel, rfl, by decide +kernel, by decide +kernel⟩
open Classical in
theorem ok_shows {f fK fI fA fC fN fF fL fV aN : Addr} {fd fdK fdI fdA fdC fdN fdF fdL fdV : FuncData} (F : Fun K "shows_follows" "shows_follows" sShows f fd) (B : Bl2 mg) (B1 : Blt mg) (hany : mg "any" = none) (hstr : mg "str" = none) (Wo : Words mg) (N : FrC K mg "NOTHING" 0 aN)
    (C : Has P w K mg base "check_following" 4 ["many", "rows", "row"] (spCheckFollowing K) fK fdK) (I : Has P w K mg base "is_integer" 1 ["value"] (spIsInt K) fI fdI) (At : Has P w K mg base "are_times" 2 ["rows", "value"] (spAreT K) fA fdA) (Co : Has P w K mg base "come_to" 3 ["many", "rows", "by", "times", "row"] (spCome K) fC fdC)
    (Cn : Has P w K mg base "come_to_never" 3 ["many", "rows", "times"] (spComeN K) fN fdN) (Ff : Has P w K mg base "is_fraction" 2 ["value"] (spIsFr K) fF fdF) (Le : Has P w K mg base "less" 1 f2N (spLess K) fL fdL) (Va : Has P w K mg base "value_at" 4 ["row", "spot"] (spValueAtT K) fV fdV) : FnOk P w K mg base CX0 5 f fd ["many", "rows", "row", "value"] (spShows K) := by
  obtain ⟨⟨tt, gt⟩, ⟨tn, gn⟩, ⟨ts, gs⟩⟩ := Wo
  refine F.ok scShows (fun vs H Q E h => ?_) (fun cdv A outer s H vs Q E hr h => ?_)
  · obtain ⟨n, m, Z, R, r, v, u, x, d, rfl, _⟩ := h
    rfl
  · obtain ⟨n, m, Z, R, r, v, u, x, d, rfl, hv, hu, hx, sm, sr, m24, hn, z0, z1, sd, k⟩ := h
    refine ⟨_, pss_cons (ps_expr (pe_cl C hr (pa_cons (pv 0) (pa_cons (pv 1) (pa_cons (pv 2) pa_nil)))))
      (pss_cons (ps_if (pw_or (pt_not (pt_val (pe_callB call_isi (by rfl) B1.isi (by decide +kernel) (pa_cons (pv 3) (pa_cons (pe_bltn (v := .ty "tuple") (by rfl) B.tuple (by decide +kernel) rfl) pa_nil)))))
        (pw_or (pt_cmpR op_lt (pe_callB call_len_seq (by rfl) B.len PySem.boot_len (pa_cons (pv 3) pa_nil)) pe_int (nomark _))
        (pw_or1 (pt_not (pt_val (pe_callB call_isi (by rfl) B1.isi (by decide +kernel) (pa_cons (pe_ix ix_tup (pv 3) pe_int (fun _ _ => rfl)) (pa_cons (pe_bltn (v := .ty "str") (by rfl) hstr (by decide +kernel) rfl) pa_nil)))))))).pt (pss_one (ps_ret pe_bl)) pss_nil)
      (pss_cons (ps_if (pt_cmpR op_eq (pe_ix ix_tup (pv 3) pe_int (fun _ _ => rfl)) (pe_glob (v := .str "times") rfl gt ⟨_, rfl⟩) (nomark _))
        (pss_cons (ps_if (pw_or (pt_cmpR op_ne (pe_callB call_len_seq (by rfl) B.len PySem.boot_len (pa_cons (pv 3) pa_nil)) pe_int (nomark _))
            (pw_or (pt_not (pt_val (pe_cl I (hr.mono (by decide)) (pa_cons (pe_ix ix_tup (pv 3) pe_int (fun _ _ => rfl)) pa_nil))))
            (pw_or (pt_cmpR op_lt (pe_ix ix_tup (pv 3) pe_int (fun _ _ => rfl)) pe_int (nomark _))
            (pw_or1 (pt_not (pt_val (pe_cl At (hr.mono (by decide)) (pa_cons (pv 1) (pa_cons (pe_ix ix_tup (pv 3) pe_int (fun _ _ => rfl)) pa_nil))))))))).pt (pss_one (ps_ret pe_bl)) pss_nil)
          (pss_one (ps_ret (pe_cl Co (hr.mono (by decide)) (pa_cons (pv 0) (pa_cons (pv 1) (pa_cons (pe_ix ix_tup (pv 3) pe_int (fun _ _ => rfl)) (pa_cons (pe_ix ix_tup (pv 3) pe_int (fun _ _ => rfl)) (pa_cons (pv 2) pa_nil))))))))) pss_nil)
      (pss_cons (ps_if (pt_cmpR op_eq (pe_ix ix_tup (pv 3) pe_int (fun _ _ => rfl)) (pe_glob (v := .str "never") rfl gn ⟨_, rfl⟩) (nomark _))
        (pss_one (ps_ret (pe_and (pe_cmpR op_eq (pe_callB call_len_seq (by rfl) B.len PySem.boot_len (pa_cons (pv 3) pa_nil)) pe_int (nomark _)) (pe_and (pe_cl At (hr.mono (by decide)) (pa_cons (pv 1) (pa_cons (pe_ix ix_tup (pv 3) pe_int (fun _ _ => rfl)) pa_nil)))
          (pe_one (pe_cl Cn (hr.mono (by decide)) (pa_cons (pv 0) (pa_cons (pv 1) (pa_cons (pe_ix ix_tup (pv 3) pe_int (fun _ _ => rfl)) pa_nil))))))))) pss_nil)
      (pss_cons (ps_if (PW.pt (pw_or (pt_cmpR op_ne (pe_ix ix_tup (pv 3) pe_int (fun _ _ => rfl)) (pe_glob (v := .str "spot") rfl gs ⟨_, rfl⟩) (nomark _))
        (pw_or (pt_cmpR op_ne (pe_callB call_len_seq (by rfl) B.len PySem.boot_len (pa_cons (pv 3) pa_nil)) pe_int (nomark _))
        (pw_or (pt_not (pt_val (pe_callB call_isi (by rfl) B1.isi (by decide +kernel) (pa_cons (pe_ix ix_tup (pv 3) pe_int (fun _ _ => rfl)) (pa_cons (pe_bltn (v := .ty "tuple") (by rfl) B.tuple (by decide +kernel) rfl) pa_nil)))))
        (pw_or1 (pt_cmpR op_ne (pe_callB call_len_seq (by rfl) B.len PySem.boot_len (pa_cons (pe_ix ix_tup (pv 3) pe_int (fun _ _ => rfl)) pa_nil)) (pv 0) (nomark _))))))) (pss_one (ps_ret pe_bl)) pss_nil)
      (pss_cons (ps_if (PW.pt (pw_or (pt_not (pt_val (pe_callB (cr_all rfl) (by rfl) B.all (by decide +kernel) (pa_cons (pe_lc (own := [("own", 4)]) (g := gName 4) (tt := tYes) rfl scShows.nd (pi_tup (pe_ix ix_tup (pv 3) pe_int (fun _ _ => rfl))) (blkOk_by (N := nShows) (sc := defScope sShows) (by decide +kernel))
            (fun _ _ _ _ _ => pg_name (i := 4) scShows.nd rfl (.inl rfl)) (fun _ _ _ _ _ => pts_nil) (fun _ _ _ _ _ => pe_cl Ff (hr.mono (by decide)) (pa_cons (pv 4) pa_nil))) pa_nil))))
        (pw_or1 (pt_not (pt_val (pe_cl Le (hr.mono (by decide)) (pa_cons (pe_cl Va hr (pa_cons (pv 2) (pa_cons (pe_ix ix_tup (pv 3) pe_int (fun _ _ => rfl)) pa_nil))) (pa_cons (pe_glob (v := .ref aN) rfl N.gl rfl) pa_nil)))))))) (pss_one (ps_ret pe_bl)) pss_nil)
      (pss_one (ps_ret (pe_not (pe_callB (cr_any rfl) (by rfl) hany (by decide +kernel) (pa_cons (pe_lc (own := [("own", 4)]) (g := gName 4) (tt := tYes) rfl scShows.nd (pi_tup (pv 1)) (blkOk_by (N := nShows) (sc := defScope sShows) (by decide +kernel))
            (fun _ _ _ _ _ => pg_name (i := 4) scShows.nd rfl (.inl rfl)) (fun _ _ _ _ _ => pts_nil) (fun _ _ _ _ _ => pe_cl Le (hr.mono (by decide)) (pa_cons (pe_cl Va hr (pa_cons (pv 4) (pa_cons (pe_ix (ixT K rfl) (pv 3) pe_int (fun _ _ => rfl)) pa_nil))) (pa_cons (pe_glob (v := .ref aN) rfl N.gl rfl) pa_nil)))) pa_nil)))))))))), ?_⟩
    refine q_drop (v := .non) (ev_call (ea_cons (ev_var rfl) (ea_cons (ev_var rfl) (ea_cons (ev_var rfl) ea_nil))) fun H1 e1 Q q E => ⟨m, n, R, r, v, u, rfl, rws_mono _ _ _ e1 hv, rw_mono _ _ _ e1 hu, m24, hn, q⟩) fun H1 e1 => ?_
    replace hv := rws_mono _ _ _ e1 hv
    replace hu := rw_mono _ _ _ e1 hu
    replace hx := hx.mono e1
    replace k : RetP (BoP (Shown n m R r d)) H1 Q := k.go e1
    have hX : ∀ {G}, Ex H1 G → EvP (tVar 3) [some (.int (m : Int)), some v, some u, some x, none] G (fun v H => Dq K H v d) := fun e => ep_varM rfl (hx.mono e) dq_mono
    have no0 : isT d = false → ¬ Shown n m R r d := fun h => by
      rintro (⟨b, t, rfl, _⟩ | ⟨t, rfl, _⟩ | ⟨z, rfl, _⟩) <;> simp [isT] at h
    cases d with
    | tuple ds =>
      have shape : Shown n m R r (.tuple ds) → ∃ w y l, ds = .str w :: y :: l := by
        rintro (⟨b, t, h, _⟩ | ⟨t, h, _⟩ | ⟨z, h, _⟩) <;> simp only [PyData.tuple.injEq] at h <;> exact ⟨_, _, _, h⟩
      by_cases t2 : ds.length < 2
      · refine q_when (b := true) (et_orF (et_is (et_not (et_B (ev_isTD (hX (Ex.refl _))))) rfl) (et_orT (et_is (et_test (ev_op (ev_lenD (hX (Ex.refl _))) ev_c rv_I0)) ?_))) (fun _ H2 e2 => ret_no ?_ k e2) fun z => by cases z
        · have : (ds.length : Int) < 2 := by omega
          simp [this]
        · intro h
          obtain ⟨w', y, l, e⟩ := shape h
          rw [e] at t2
          simp only [List.length_cons] at t2
          omega
      · obtain ⟨a, y, l, rfl⟩ : ∃ a y l, ds = a :: y :: l := by
          match ds, t2 with
          | a :: y :: l, _ => exact ⟨a, y, l, rfl⟩
          | [a], h => simp at h
          | [], h => simp at h
        have h0 : ∀ {G}, Ex H1 G → EvP (tOp (rIxT K) (tVar 3) (tC (.int 0))) [some (.int (m : Int)), some v, some u, some x, none] G (fun v H => Dq K H v a) := fun e => ep_ixD (i := 0) (hX e) rfl
        have h1 : ∀ {G}, Ex H1 G → EvP (tOp (rIxT K) (tVar 3) (tC (.int 1))) [some (.int (m : Int)), some v, some u, some x, none] G (fun v H => Dq K H v y) := fun e => ep_ixD (i := 1) (hX e) rfl
        have tl : decide (((a :: y :: l).length : Int) < 2) = false := decide_eq_false (by simp; omega)
        by_cases t3 : isS a = true
        · obtain ⟨wd, rfl⟩ : ∃ wd, a = .str wd := by
            cases a <;> first | exact ⟨_, rfl⟩ | simp [isS] at t3
          refine q_when (b := false) (et_orF (et_is (et_not (et_B (ev_isTD (hX (Ex.refl _))))) rfl) (et_orF (et_is (et_test (ev_op (ev_lenD (hX (Ex.refl _))) ev_c rv_I0)) (by rw [tl])) (et_is (et_not (et_B (ev_isSD (h0 (Ex.refl _))))) rfl))) (fun z => by cases z) fun _ H2 e2 => ?_
          replace k : RetP (BoP (Shown n m R r (.tuple (.str wd :: y :: l)))) H2 Q := k.go e2
          replace hX : ∀ {σ : L2.St} {G}, σ[3]? = some (some x) → Ex H2 G → EvP (tVar 3) σ G (fun v H => Dq K H v (.tuple (.str wd :: y :: l))) := fun h e => ep_varM h (hx.mono (e2.trans e)) dq_mono
          replace h0 : ∀ {G}, Ex H2 G → Ev (tOp (rIxT K) (tVar 3) (tC (.int 0))) [some (.int (m : Int)), some v, some u, some x, none] G (.str wd) := fun e => ev_dStr (ep_ixD (i := 0) (hX rfl e) rfl)
          replace h1 : ∀ {σ : L2.St} {G}, σ[3]? = some (some x) → Ex H2 G → EvP (tOp (rIxT K) (tVar 3) (tC (.int 1))) σ G (fun v H => Dq K H v y) := fun h e => ep_ixD (i := 1) (hX h e) rfl
          replace hv := rws_mono _ _ _ e2 hv
          replace hu := rw_mono _ _ _ e2 hu
          have eqS : ∀ c : Str, decide (V.str wd = V.str c) = decide (wd = c) := fun c => by
            rw [decide_eq_decide]
            exact ⟨fun z => by injection z, fun z => by rw [z]⟩
          have lenX : ∀ {G}, Ex H2 G → Ev (tCB (fun xs H Q => ∃ p ys, xs = [V.ref p] ∧ (SqL K H p ys ∨ SqT K H p ys) ∧ Q (.int ys.length) H) (tCons (tVar 3) tNil)) [some (.int (m : Int)), some v, some u, some x, none] G (.int ((l.length + 2 : Nat) : Int)) := fun e => ev_is (ev_lenD (hX rfl e)) rfl
          by_cases w1 : wd = "times"
          · subst w1
            refine q_when (b := true) (et_is (et_test (ev_op (h0 (Ex.refl _)) ev_c (rv_eq rfl))) (by rw [eqS]; simp)) (fun _ H3 e3 => ?_) fun z => by cases z
            have sh2 : Shown n m R r (.tuple (.str "times" :: y :: l)) → ∃ b t, y = .int b ∧ l = [pdI n t] ∧ 1 ≤ b ∧ (∀ i, i < n → 0 ≤ t i) ∧ Comes n m R b t r := by
              rintro (⟨b, t, h, h2⟩ | ⟨t, h, _⟩ | ⟨z, h, _⟩)
              · simp only [PyData.tuple.injEq, List.cons.injEq, true_and] at h
                exact ⟨b, t, h.1, h.2, h2⟩
              · simp only [PyData.tuple.injEq, List.cons.injEq, PyData.str.injEq] at h
                exact absurd h.1 (by decide +kernel)
              · simp only [PyData.tuple.injEq, List.cons.injEq, PyData.str.injEq] at h
                exact absurd h.1 (by decide +kernel)
            by_cases l3 : l.length = 1
            · obtain ⟨y2, rfl⟩ : ∃ y2, l = [y2] := by
                match l, l3 with
                | [y2], _ => exact ⟨y2, rfl⟩
              have h2 : ∀ {G}, Ex H2 G → EvP (tOp (rIxT K) (tVar 3) (tC (.int 2))) [some (.int (m : Int)), some v, some u, some x, none] G (fun v H => Dq K H v y2) := fun e => ep_ixD (i := 2) (hX rfl e) rfl
              have T1 : ∀ {G}, Ex H2 G → EvT (tTest (tOp rNe (tCB (fun xs H Q => ∃ p ys, xs = [V.ref p] ∧ (SqL K H p ys ∨ SqT K H p ys) ∧ Q (.int ys.length) H) (tCons (tVar 3) tNil)) (tC (.int 3)))) [some (.int (m : Int)), some v, some u, some x, none] G false := fun e => et_is (et_test (ev_op (lenX e) ev_c (rv_ne rfl))) rfl
              by_cases t4 : isIn y = true
              · obtain ⟨b, rfl⟩ : ∃ b, y = .int b := by
                  cases y <;> first | exact ⟨_, rfl⟩ | simp [isIn] at t4
                by_cases b1 : b < 1
                · refine s_cons_if (b := true) (et_orF (T1 e3) (et_orF (et_is (et_not (et_B (ev_isID (h1 rfl e3)))) rfl) (et_orT (et_is (et_test (ev_op (ev_dInt (h1 rfl e3)) ev_c rv_I0)) (by simp [b1]))))) (fun _ H4 e4 => ret_no ?_ k (e3.trans e4)) fun z => by cases z
                  intro h
                  obtain ⟨b', t, h3, h4, h5, h6⟩ := sh2 h
                  injection h3 with h3
                  omega
                · by_cases at_ : ∃ t : Nat → Int, y2 = pdI n t ∧ ∀ i, i < n → 0 ≤ t i
                  · obtain ⟨t, rfl, tnn⟩ := id at_
                    refine s_cons_if (b := false) (et_orF (T1 e3) (et_orF (et_is (et_not (et_B (ev_isID (h1 rfl e3)))) rfl) (et_orF (et_is (et_test (ev_op (ev_dInt (h1 rfl e3)) ev_c rv_I0)) (by simp [b1])) (et_is (et_not (et_boY (ep_areT (n := n) (ep_varM rfl (rws_mono _ _ _ e3 hv) rws_mono) (h2 e3) (by omega)) ⟨t, rfl, tnn⟩)) rfl)))) (fun z => by cases z) fun _ H4 e4 => ?_
                    refine sp_ret (ep_come (n := n) (ev_var rfl) (ep_varM rfl (rws_mono _ _ _ (e3.trans e4) hv) rws_mono) (ev_dInt (h1 rfl (e3.trans e4))) (ep_w (h2 (e3.trans e4)) fun v H _ h => dq_ints h) (ep_varM rfl (rw_mono _ _ _ (e3.trans e4) hu) rw_mono) sm (sd.t _ _ _ rfl) (sd.b _ _ rfl) sr z0 z1 m24 (by omega)) fun w' H5 e5 ⟨b2, g1, g2⟩ => k w' H5 ((e3.trans e4).trans e5) ⟨b2, g1, g2.trans ?_⟩
                    constructor
                    · intro h
                      exact .inl ⟨b, t, rfl, by omega, tnn, h⟩
                    · intro h
                      obtain ⟨b', t', h3, h4, h5, h6, h7⟩ := sh2 h
                      injection h3 with h3
                      subst h3
                      simp only [List.cons.injEq, and_true] at h4
                      exact comes_congr (fun i hi => (pdI_inj h4 i hi).symm) h7
                  · refine s_cons_if (b := true) (et_orF (T1 e3) (et_orF (et_is (et_not (et_B (ev_isID (h1 rfl e3)))) rfl) (et_orF (et_is (et_test (ev_op (ev_dInt (h1 rfl e3)) ev_c rv_I0)) (by simp [b1])) (et_is (et_not (et_boB (ep_areT (n := n) (ep_varM rfl (rws_mono _ _ _ e3 hv) rws_mono) (h2 e3) (by omega)) at_)) rfl)))) (fun _ H4 e4 => ret_no ?_ k (e3.trans e4)) fun z => by cases z
                    intro h
                    obtain ⟨b', t, h3, h4, h5, h6, _⟩ := sh2 h
                    simp only [List.cons.injEq, and_true] at h4
                    exact at_ ⟨t, h4, h6⟩
              · refine s_cons_if (b := true) (et_orF (T1 e3) (et_orT (et_is (et_not (et_B (ev_isID (h1 rfl e3)))) (by simpa using t4)))) (fun _ H4 e4 => ret_no ?_ k (e3.trans e4)) fun z => by cases z
                intro h
                obtain ⟨b', t, rfl, _⟩ := sh2 h
                simp [isIn] at t4
            · refine s_cons_if (b := true) (et_orT (et_is (et_test (ev_op (lenX e3) ev_c (rv_ne rfl))) ?_)) (fun _ H4 e4 => ret_no ?_ k (e3.trans e4)) fun z => by cases z
              · exact ne_int (by omega)
              · intro h
                obtain ⟨b', t, h3, rfl, _⟩ := sh2 h
                simp at l3
          · refine q_when (b := false) (et_is (et_test (ev_op (h0 (Ex.refl _)) ev_c (rv_eq rfl))) (by rw [eqS]; simp [w1])) (fun z => by cases z) fun _ H3 e3 => ?_
            by_cases w2 : wd = "never"
            · subst w2
              refine q_when (b := true) (et_is (et_test (ev_op (h0 e3) ev_c (rv_eq rfl))) (by rw [eqS]; simp)) (fun _ H4 e4 => ?_) fun z => by cases z
              have e34 := e3.trans e4
              have sh3 : Shown n m R r (.tuple (.str "never" :: y :: l)) ↔ l.length = 0 ∧ ((∃ t : Nat → Int, y = pdI n t ∧ ∀ i, i < n → 0 ≤ t i) ∧ ∃ t, y = pdI n t ∧ ComesN n m R t) := by
                constructor
                · rintro (⟨b, t, h, _⟩ | ⟨t, h, h2⟩ | ⟨z, h, _⟩)
                  · simp only [PyData.tuple.injEq, List.cons.injEq, PyData.str.injEq] at h
                    exact absurd h.1 w1
                  · simp only [PyData.tuple.injEq, List.cons.injEq, true_and] at h
                    exact ⟨by rw [h.2]; rfl, ⟨t, h.1, h2.1⟩, t, h.1, h2.2⟩
                  · simp only [PyData.tuple.injEq, List.cons.injEq, PyData.str.injEq] at h
                    exact absurd h.1 (by decide +kernel)
                · rintro ⟨l0, ⟨t, rfl, h2⟩, t', h3, h4⟩
                  have : l = [] := List.eq_nil_of_length_eq_zero l0
                  subst this
                  exact .inr (.inl ⟨t, rfl, h2, comesN_congr (fun i hi => (pdI_inj h3 i hi).symm) h4⟩)
              refine sp_ret (bo_and (S := l.length = 0) (bo_of (ev_op (lenX e34) ev_c (rv_eq rfl)) ?_) fun l0 => bo_and (ep_areT (n := n) (ep_varM rfl (rws_mono _ _ _ e34 hv) rws_mono) (h1 rfl e34) (by omega)) (T := ∃ t, y = pdI n t ∧ ComesN n m R t) fun ⟨t, ht, tnn⟩ => ?_) fun w' H5 e5 ⟨b2, g1, g2⟩ => k w' H5 (e34.trans e5) ⟨b2, g1, g2.trans sh3.symm⟩
              · rw [decide_eq_true_eq]
                constructor
                · intro h
                  injection h with h
                  omega
                · intro h
                  rw [h]
                  rfl
              · subst ht
                have : l = [] := List.eq_nil_of_length_eq_zero l0
                subst this
                refine ep_w (ep_comeN (n := n) (Z := Z) (ev_var rfl) (ep_varM rfl (rws_mono _ _ _ e34 hv) rws_mono) (ep_w (h1 rfl e34) fun v H _ h => dq_ints h) sm (sd.e _ _ rfl) z0 z1 m24 (by omega)) fun w' H5 _ ⟨b2, g1, g2⟩ => ⟨b2, g1, g2.trans ?_⟩
                exact ⟨fun h => ⟨t, rfl, h⟩, fun ⟨t', h3, h4⟩ => comesN_congr (fun i hi => (pdI_inj h3 i hi).symm) h4⟩
            · refine q_when (b := false) (et_is (et_test (ev_op (h0 e3) ev_c (rv_eq rfl))) (by rw [eqS]; simp [w2])) (fun z => by cases z) fun _ H4 e4 => ?_
              have e34 := e3.trans e4
              have sh4 : Shown n m R r (.tuple (.str wd :: y :: l)) → wd = "spot" ∧ l = [] ∧ ∃ z, y = pdZ m z ∧ rv m r z < 0 ∧ ∀ i, i < n → 0 ≤ rv m (R i) z := by
                rintro (⟨b, t, h, _⟩ | ⟨t, h, _⟩ | ⟨z, h, h2⟩)
                · simp only [PyData.tuple.injEq, List.cons.injEq, PyData.str.injEq] at h
                  exact absurd h.1 w1
                · simp only [PyData.tuple.injEq, List.cons.injEq, PyData.str.injEq] at h
                  exact absurd h.1 w2
                · simp only [PyData.tuple.injEq, List.cons.injEq, PyData.str.injEq] at h
                  exact ⟨h.1, h.2.2, z, h.2.1, h2⟩
              have hlx := lenX (G := H4) e34
              have y1 : ∀ {σ : L2.St} {G}, σ[3]? = some (some x) → Ex H4 G → EvP (tOp (rIxT K) (tVar 3) (tC (.int 1))) σ G (fun v H => Dq K H v y) := fun h e => h1 h (e34.trans e)
              have hv4 := rws_mono _ _ _ e34 hv
              have hu4 := rw_mono _ _ _ e34 hu
              replace k : RetP (BoP (Shown n m R r (.tuple (.str wd :: y :: l)))) H4 Q := k.go e34
              by_cases w3 : wd = "spot"
              · have S1 : EvT (tTest (tOp rNe (tOp (rIxT K) (tVar 3) (tC (.int 0))) (tC (.str "spot")))) [some (.int (m : Int)), some v, some u, some x, none] H4 false := et_is (et_test (ev_op (h0 e34) ev_c (rv_ne rfl))) (by rw [eqS]; simp [w3])
                by_cases l0 : l = []
                · subst l0 w3
                  have S2 : EvT (tTest (tOp rNe (tCB (fun xs H Q => ∃ p ys, xs = [V.ref p] ∧ (SqL K H p ys ∨ SqT K H p ys) ∧ Q (.int ys.length) H) (tCons (tVar 3) tNil)) (tC (.int 2)))) [some (.int (m : Int)), some v, some u, some x, none] H4 false := et_is (et_test (ev_op hlx ev_c (rv_ne rfl))) rfl
                  by_cases ty : isT y = true
                  · obtain ⟨zs, rfl⟩ : ∃ zs, y = .tuple zs := by
                      cases y <;> first | exact ⟨_, rfl⟩ | simp [isT] at ty
                    by_cases zl : zs.length = m
                    · refine q_when (b := false) (et_orF S1 (et_orF S2 (et_orF (et_is (et_not (et_B (ev_isTD (y1 rfl (Ex.refl _))))) rfl) (et_is (et_test (ev_op (ev_lenD (y1 rfl (Ex.refl _))) (ev_var rfl) (rv_ne rfl))) (by rw [zl]; simp))))) (fun z => by cases z) fun _ H5 e5 => ?_
                      have fa := fr_all (zs := zs) zl
                      have el : ∀ {G : Hp} (i : Nat) (x' : V) (H2 : Hp), i < m → (∃ d, zs[i]? = some d ∧ Dq K H2 x' d) → Dq K H2 x' (zs.getD i .none) := fun i x' H2 hi ⟨d, g1, g2⟩ => by
                        have e : zs.getD i .none = d := by simp [g1]
                        rw [e]
                        exact g2
                      by_cases af : ∃ z : Nat → Rat, PyData.tuple zs = pdZ m z
                      · obtain ⟨z, ez⟩ := af
                        have cz : Cd 2900 m z := sd.z _ _ (by rw [ez])
                        have hz : ∀ {σ : L2.St} {G}, σ[3]? = some (some x) → Ex H4 G → EvP (tOp (rIxT K) (tVar 3) (tC (.int 1))) σ G (FrsT K m z) := fun h e => ep_w (y1 h e) fun v H _ q => dq_frs (ez ▸ q)
                        have lz : ∀ {r'}, Sml m r' → Sz 2917 (rv m r' z) := fun s' => sz_rv s' cz (Nat.le_refl m) m24
                        by_cases neg : rv m r z < 0
                        · refine q_when (b := false) (et_orF (et_is (et_not (et_B (ev_allN (n := m) (f := fun i => decide (∃ q : Rat, zs.getD i .none = frD q)) (en_lc (sr_tupP (n := m) (Pi := fun i x H => ∃ d, zs[i]? = some d ∧ Dq K H x d) (ep_w (y1 rfl e5) fun v H2 e2 h => zl ▸ dq_tsP h) dqm_mono) (by omega) (fun _ => mono_eq) ?_)))) (by rw [fa.mpr ⟨z, ez⟩]; rfl)) (et_is (et_not (et_B (ev_less 2917 1 (ep_valT (ep_varM rfl (rw_mono _ _ _ e5 hu4) rw_mono) (hz rfl e5) sr cz m24 (by decide) (by decide)) (ep_of ev_c fun H9 _ => N.fr H9) (lz sr) (sz0 (by decide)) ⟨by decide, by decide, by decide⟩))) (by simp [neg]))) (fun z => by cases z) fun _ H6 e6 => ?_
                          · intro i x' H7 hi e7 hX'
                            exact ⟨_, fun Q q => q, rfl, EvP.d tst_eq (ev_p (bo_ev (ep_isFr (ep_varM rfl (el (G := H7) i x' H7 hi hX') dq_mono))))⟩
                          refine sp_ret (bo_of (ev_notV (ev_anyN (n := n) (f := fun i => decide (rv m (R i) z < 0)) (en_lc (sr_tupP (ep_varM rfl (rws_mono _ _ _ (e5.trans e6) hv4) rws_mono) fun _ => rw_mono) (by omega) (fun _ => mono_eq) ?_))) ?_) (k.go (e5.trans e6))
                          · intro i x' H7 hi e7 hX'
                            exact ⟨_, fun Q q => q, rfl, EvP.d tst_eq (ev_p (ev_less 2917 1 (ep_valT (ep_varM rfl hX' rw_mono) (hz rfl ((e5.trans e6).trans e7)) (sm i hi) cz m24 (by decide) (by decide)) (ep_of ev_c fun H9 _ => N.fr H9) (lz (sm i hi)) (sz0 (by decide)) ⟨by decide, by decide, by decide⟩))⟩
                          · rw [Bool.not_eq_true', List.any_eq_false]
                            constructor
                            · intro h
                              refine .inr (.inr ⟨z, by rw [ez], neg, fun i hi => ?_⟩)
                              have := h i (List.mem_range.mpr hi)
                              simp only [decide_eq_true_eq] at this
                              grind
                            · intro h
                              obtain ⟨_, _, z', h', _, h3⟩ := sh4 h
                              intro i hi
                              have := h3 i (List.mem_range.mp hi)
                              rw [rv_congr (pdZ_inj (ez.symm.trans h'))]
                              simp only [decide_eq_true_eq]
                              grind
                        · refine q_when (b := true) (et_orF (et_is (et_not (et_B (ev_allN (n := m) (f := fun i => decide (∃ q : Rat, zs.getD i .none = frD q)) (en_lc (sr_tupP (n := m) (Pi := fun i x H => ∃ d, zs[i]? = some d ∧ Dq K H x d) (ep_w (y1 rfl e5) fun v H2 e2 h => zl ▸ dq_tsP h) dqm_mono) (by omega) (fun _ => mono_eq) ?_)))) (by rw [fa.mpr ⟨z, ez⟩]; rfl)) (et_is (et_not (et_B (ev_less 2917 1 (ep_valT (ep_varM rfl (rw_mono _ _ _ e5 hu4) rw_mono) (hz rfl e5) sr cz m24 (by decide) (by decide)) (ep_of ev_c fun H9 _ => N.fr H9) (lz sr) (sz0 (by decide)) ⟨by decide, by decide, by decide⟩))) (by simp [neg]))) (fun _ H6 e6 => ret_no ?_ k (e5.trans e6)) fun z => by cases z
                          · intro i x' H7 hi e7 hX'
                            exact ⟨_, fun Q q => q, rfl, EvP.d tst_eq (ev_p (bo_ev (ep_isFr (ep_varM rfl (el (G := H7) i x' H7 hi hX') dq_mono))))⟩
                          · intro h
                            obtain ⟨_, _, z', h', h3, _⟩ := sh4 h
                            rw [← rv_congr (pdZ_inj (ez.symm.trans h'))] at h3
                            exact neg h3
                      · have nf : (List.range m).all (fun i => decide (∃ q : Rat, zs.getD i .none = frD q)) = false := Bool.eq_false_iff.mpr fun h => af (fa.mp h)
                        refine q_when (b := true) (et_orT (et_is (et_not (et_B (ev_allN (n := m) (f := fun i => decide (∃ q : Rat, zs.getD i .none = frD q)) (en_lc (sr_tupP (n := m) (Pi := fun i x H => ∃ d, zs[i]? = some d ∧ Dq K H x d) (ep_w (y1 rfl e5) fun v H2 e2 h => zl ▸ dq_tsP h) dqm_mono) (by omega) (fun _ => mono_eq) ?_)))) (by rw [nf]; rfl))) (fun _ H6 e6 => ret_no ?_ k (e5.trans e6)) fun z => by cases z
                        · intro i x' H7 hi e7 hX'
                          exact ⟨_, fun Q q => q, rfl, EvP.d tst_eq (ev_p (bo_ev (ep_isFr (ep_varM rfl (el (G := H7) i x' H7 hi hX') dq_mono))))⟩
                        · intro h
                          obtain ⟨_, _, z', h', _⟩ := sh4 h
                          exact af ⟨z', h'⟩
                    · refine q_when (b := true) (et_orF S1 (et_orF S2 (et_orF (et_is (et_not (et_B (ev_isTD (y1 rfl (Ex.refl _))))) rfl) (et_is (et_test (ev_op (ev_lenD (y1 rfl (Ex.refl _))) (ev_var rfl) (rv_ne rfl))) (ne_int (by omega)))))) (fun _ H5 e5 => ret_no ?_ k e5) fun z => by cases z
                      intro h
                      obtain ⟨_, _, z, h, _⟩ := sh4 h
                      unfold pdZ at h
                      simp only [PyData.tuple.injEq] at h
                      rw [h] at zl
                      simp at zl
                  · refine q_when (b := true) (et_orF S1 (et_orF S2 (et_orT (et_is (et_not (et_B (ev_isTD (y1 rfl (Ex.refl _))))) (by simpa using ty))))) (fun _ H5 e5 => ret_no ?_ k e5) fun z => by cases z
                    intro h
                    obtain ⟨_, _, z, h, _⟩ := sh4 h
                    rw [h] at ty
                    simp [isT, pdZ] at ty
                · refine q_when (b := true) (et_orF S1 (et_orT (et_is (et_test (ev_op hlx ev_c (rv_ne rfl))) (ne_int ?_)))) (fun _ H5 e5 => ret_no ?_ k e5) fun z => by cases z
                  · have : l.length ≠ 0 := fun z => l0 (List.eq_nil_of_length_eq_zero z)
                    omega
                  · exact fun h => l0 (sh4 h).2.1
              · refine q_when (b := true) (et_orT (et_is (et_test (ev_op (h0 e34) ev_c (rv_ne rfl))) (by rw [eqS]; simp [w3]))) (fun _ H5 e5 => ret_no ?_ k e5) fun z => by cases z
                exact fun h => w3 (sh4 h).1
        · refine q_when (b := true) (et_orF (et_is (et_not (et_B (ev_isTD (hX (Ex.refl _))))) rfl) (et_orF (et_is (et_test (ev_op (ev_lenD (hX (Ex.refl _))) ev_c rv_I0)) (by rw [tl])) (et_is (et_not (et_B (ev_isSD (h0 (Ex.refl _))))) (by simpa using t3)))) (fun _ H2 e2 => ret_no ?_ k e2) fun z => by cases z
          intro h
          obtain ⟨w', y', l', e⟩ := shape h
          simp at e
          rw [e.1] at t3
          simp [isS] at t3
    | _ =>
      exact q_when (b := true) (et_orT (et_is (et_not (et_B (ev_isTD (hX (Ex.refl _))))) rfl)) (fun _ H2 e2 => ret_no (no0 rfl) k e2) fun z => by cases z
end
end EW
set_option Elab.async false
set_option linter.all false
set_option maxRecDepth 100000
set_option maxHeartbeats 4000000
set_option exponentiation.threshold 30000
namespace EW
open PySem PySem.Spec PyProof.Rows L2 Evl
theorem tot_cast {n m j : Nat} {R : Nat → Row} {t : Nat → Int} : ((totF n m R t j : Int) : Rat) = SX.sm n fun i => (t i : Rat) * (colOf m (R i) j : Rat) := by
  unfold totF
  rw [← SX.sm_cast]
  exact SX.sm_congr fun i _ => Rat.intCast_mul ..
theorem tot_col {n m j : Nat} {R : Nat → Row} {t : Nat → Int} (hj : j < m) : ((totF n m R t j : Int) : Rat) = SX.sm n fun i => (t i : Rat) * ((R i).2 j : Rat) := by
  rw [tot_cast]
  refine SX.sm_congr fun i _ => ?_
  unfold colOf
  rw [if_pos hj]
theorem tot_con {n m : Nat} {R : Nat → Row} {t : Nat → Int} : ((totF n m R t m : Int) : Rat) = SX.sm n fun i => (t i : Rat) * ((R i).1 : Rat) := by
  rw [tot_cast]
  refine SX.sm_congr fun i _ => ?_
  unfold colOf
  rw [if_neg (Nat.lt_irrefl m)]
theorem Fol.comes {n m : Nat} {R : Nat → Row} {r : Row} {b : Nat} {t : Nat → Int} (h : Fol n m R r b t) : Comes n m R (b : Int) t r := by
  refine ⟨fun j hj => ?_, ?_⟩
  · have e := h.k j hj
    rw [← tot_col hj] at e
    have : ((totF n m R t j : Int) : Rat) = (((b : Int) * r.2 j : Int) : Rat) := by
      rw [e, Rat.intCast_mul, Rat.intCast_natCast]
    exact_mod_cast this
  · have e := h.c
    rw [← tot_con (m := m)] at e
    have : ((totF n m R t m : Int) : Rat) ≤ (((b : Int) * r.1 : Int) : Rat) := by
      rw [Rat.intCast_mul, Rat.intCast_natCast]
      exact e
    exact_mod_cast this
theorem NevI.comes {n m : Nat} {R : Nat → Row} {t : Nat → Int} (h : NevI n m R t) : ComesN n m R t := by
  refine ⟨fun j hj => ?_, ?_⟩
  · have e := h.k j hj
    rw [← tot_col hj] at e
    exact_mod_cast e
  · have e := h.c
    rw [← tot_con (m := m)] at e
    exact_mod_cast e
theorem pdIZ {n m : Nat} {t : Nat → Int} {z : Nat → Rat} (h : pdI n t = pdZ m z) : n = 0 ∧ m = 0 := by
  unfold pdI pdZ at h
  simp only [PyData.tuple.injEq] at h
  have l := congrArg List.length h
  simp at l
  subst l
  by_cases n0 : n = 0
  · exact ⟨n0, n0⟩
  · have := congrArg (fun l => l[0]?) h
    have p : 0 < n := by omega
    simp [p, frD] at this
theorem cd_zero {z : Nat → Rat} : Cd 2900 0 z := ⟨1, by decide, Nat.one_lt_two_pow (by decide), fun j hj => absurd hj (Nat.not_lt_zero _)⟩
theorem Cd.congr {D m : Nat} {z z' : Nat → Rat} (h : Cd D m z) (e : ∀ j, j < m → z j = z' j) : Cd D m z' := by
  obtain ⟨d, d0, dl, hd⟩ := h
  exact ⟨d, d0, dl, fun j hj => by rw [← e j hj]; exact hd j hj⟩
/-- what follows tells is shown -/
theorem fol_shown {K : PySem.W.Frag} {n m : Nat} {R : Nat → Row} {r : Row} {v : V} {H : Hp} (h : FolP K n m R r v H) : ∃ d, Dq K H v d ∧ Shown n m R r d ∧ Szd n m (TB n) d := by
  rcases h with ⟨T, b, u, t, rfl, hT, hu, hf⟩ | ⟨T, u, t, rfl, hT, hu, hf⟩ | ⟨T, u, z, rfl, hT, hu, cz, hold, neg⟩
  · refine ⟨.tuple [.str "times", .int (b : Int), pdI n t], .tup hT (.cons (.str _) (.cons (.int _) (.cons (ints_dq hu) .nil))), .inl ⟨(b : Int), t, rfl, by have := hf.b0; omega, hf.nn, hf.comes⟩, ?_, ?_, ?_, ?_⟩
    · intro b' u' h
      simp only [PyData.tuple.injEq, List.cons.injEq, PyData.int.injEq] at h
      rw [← h.2.1]
      simpa using hf.bz
    · intro w b' t' h i hi
      simp only [PyData.tuple.injEq, List.cons.injEq, and_true] at h
      rw [← pdI_inj h.2.2 i hi]
      exact hf.tz i hi
    · intro w t' h
      simp at h
    · intro w t' h
      simp at h
  · refine ⟨.tuple [.str "never", pdI n t], .tup hT (.cons (.str _) (.cons (ints_dq hu) .nil)), .inr (.inl ⟨t, rfl, hf.nn, hf.comes⟩), ?_, ?_, ?_, ?_⟩
    · intro b' u' h
      simp at h
    · intro w b' t' h
      simp at h
    · intro w t' h i hi
      simp only [PyData.tuple.injEq, List.cons.injEq, and_true] at h
      rw [← pdI_inj h.2 i hi]
      exact hf.tz i hi
    · intro w z' h
      simp only [PyData.tuple.injEq, List.cons.injEq, and_true] at h
      obtain ⟨_, rfl⟩ := pdIZ h.2
      exact cd_zero
  · refine ⟨.tuple [.str "spot", pdZ m z], .tup hT (.cons (.str _) (.cons (frs_dq hu) .nil)), .inr (.inr ⟨z, rfl, neg, hold⟩), ?_, ?_, ?_, ?_⟩
    · intro b' u' h
      simp at h
    · intro w b' t' h
      simp at h
    · intro w t' h i hi
      simp only [PyData.tuple.injEq, List.cons.injEq, and_true] at h
      obtain ⟨rfl, _⟩ := pdIZ h.2.symm
      omega
    · intro w z' h
      simp only [PyData.tuple.injEq, List.cons.injEq, and_true] at h
      exact (cz.mono (by decide)).congr (pdZ_inj h.2)
/-! ### sizes -/
theorem mb_right {m : Nat} (h : m ≤ 8) : Mb m 2 1000 where
  A1 := by decide
  AM := by decide
  M8 := by decide
  D := by
    have : ∀ k, k ≤ 8 → (k + 2) * SX.PD (k + 1) (bd k 2 1000) < 2 ^ 112 := by decide +kernel
    exact this m h
  m5 := by omega
theorem mb_chain {m : Nat} (h : m ≤ 24) : Mb m 1 300 where
  A1 := by decide
  AM := by decide
  M8 := by decide
  D := by
    have : ∀ k, k ≤ 24 → (k + 2) * SX.PD (k + 1) (bd k 1 300) < 2 ^ 112 := by decide +kernel
    exact this m h
  m5 := h
theorem sml_of {A M m : Nat} {r : Row} (c : r.1.natAbs ≤ M) (k : ∀ j, j < m → (r.2 j).natAbs ≤ A) (AM : A ≤ M) (M8 : M < 2 ^ 12) : Sml m r := ⟨by omega, fun j hj => by have := k j hj; omega⟩
end EW
set_option Elab.async false
set_option linter.all false
set_option maxRecDepth 100000
set_option maxHeartbeats 4000000
set_option exponentiation.threshold 30000
namespace EW
open PySem PySem.Spec PyProof.Rows L2 Evl
/-! calls by keywords alone, in the parameters' order -/
structure KB0 (K : PySem.W.Frag) (fd : FuncData) (ps : List Str) : Prop where
  to : ∀ (s : Shared) (ws : List Value), K.In s.heap → ws.length = ps.length → BindsTo s fd ⟨[], ps.zip ws⟩ (ps.zip ws)
theorem kb0_of {K : PySem.W.Frag} {x qual : Str} {st : Stmt} {f : Addr} {fd : FuncData} {ps : List Str} (F : Fun K x qual st f fd)
    (h : ∀ (kV doc pm : Value) (an : Option Addr) (cdv ct : Value) (ws : List Value), ws.length = ps.length → bindArgs (PySem.W.fnOf x qual (defArgs st) (defBody st) (defScope st) .none kV doc pm an cdv ct) ⟨[], ps.zip ws⟩ = pure (ps.zip ws)) : KB0 K fd ps := by
  obtain ⟨oc, od, kV, doc, pm, an, cdv, ct, osl, rfl, lk, hcd⟩ := F.ex
  exact ⟨fun s ws _ hl => .of_eq (h kV doc pm an cdv ct ws hl)⟩
theorem pe_clK {X : Cx} {x : Str} {k : Nat} {ps : List Str} {sp : Sp} {f : Addr} {fd : FuncData} {kws : List Keyword} {tk : TA} {p pos : Pos} {E : XK} (D : Has X.prog X.w X.K X.mg X.base x k ps sp f fd) (kb : KB0 X.K fd ps) (hr : Room k X.A) (hkw : PK X kws tk) (hx : Passes CX0 X E := by exact pass0)
    (hg : Gl X x := by rfl) (hdb : (x == ("__debug__" : Str)) = false := by decide) (hall : (backToKw pos (keywordEach kws X.env)).all (·.1.isSome) = true := by rfl) (hks : (backToKw pos (keywordEach kws X.env)).filterMap (·.1) = ps := by rfl)
    (hpl : ((backTo pos (starEach [] X.env)).any (·.1) || (backToKw pos (keywordEach kws X.env)).any (·.1.isNone)) = false := by rfl) : PE X (.Call (.Name x p) [] kws pos) (tCall sp [] E tk) := by
  refine ⟨fun pins s σ H Q I h => ?_⟩
  refine wpAny_Call_Name_kw (ld_glob I hg D.gl ?_ hdb)
  refine PySem.W.callWith_KW0 (h₀ := X.base) I.ok.mod.kin D.kp hall (thn (hkw.run pos pins s σ H _ I h) fun ws s2 ⟨zs, H2, I2, rz, q2⟩ => ⟨I2.kIn, ?_⟩) hpl
  rw [hks]
  have q2 : sp zs H2 Q E := by simpa using q2
  have hl : ws.length = ps.length := by rw [← rz.length]; exact D.ok.len _ _ _ _ q2
  refine wpAny_call (codeAny_mono (D.ok.run X.A X.stack s2 H2 ⟨[], ps.zip ws⟩ ws zs Q E hr I2.env0 (kb.to s2 ws I2.kIn hl) rz q2) fun r s' hq => ?_)
  cases r with
  | error e => exact hx pins σ H2 s2 e s' I2 hq
  | ok fl =>
    cases fl with
    | ret u => exact I2.after hq
    | next => exact False.elim hq
    | brk => exact False.elim hq
    | cont => exact False.elim hq
end EW
set_option Elab.async false
set_option linter.all false
set_option maxRecDepth 100000
set_option maxHeartbeats 4000000
set_option exponentiation.threshold 30000
namespace EW
open PySem PySem.Spec PyProof.Rows L2 Evl
mutual
def noL : PyData → Bool
  | .list _ => false
  | .tuple xs => noLs xs
  | _ => true
def noLs : List PyData → Bool
  | [] => true
  | x :: xs => noL x && noLs xs
end
section
variable {X : Cx} {pins : List (Addr × Obj)} {σ : L2.St} {H : Hp} {s : Shared}
mutual
theorem Dq.reads (I : Inv X pins σ H s) : ∀ (d : PyData) (v : V) (u : Value), Dq X.K H v d → RelV v u → ∃ as, Reads s.heap u d as ∧ (noL d = true → sysModules ∉ as)
  | .none, _, _, h, r => by
    cases h
    cases r
    exact ⟨_, Reads.none, fun _ => by simp⟩
  | .bool b, _, _, h, r => by
    cases h
    cases r
    exact ⟨_, Reads.bool b, fun _ => by simp⟩
  | .int i, _, _, h, r => by
    cases h
    obtain ⟨t, rfl⟩ := r
    exact ⟨_, Reads.int i t, fun _ => by simp⟩
  | .str x, _, _, h, r => by
    cases h
    obtain ⟨t, rfl⟩ := r
    exact ⟨_, Reads.str x t, fun _ => by simp⟩
  | .list ds, _, _, h, r => by
    cases h with
    | lst hs ha =>
      cases r
      obtain ⟨its, rv, ⟨o, n, ho, hc, _, hd⟩, _⟩ := I.list hs
      obtain ⟨as, hr, _⟩ := Dq.readsAll I ds _ its ha rv
      exact ⟨_, Reads.list ho hc hd hr, fun z => by simp [noL] at z⟩
  | .tuple ds, _, _, h, r => by
    cases h with
    | tup hs ha =>
      cases r
      obtain ⟨its, rv, ⟨o, ho, hc, n, hd⟩, _⟩ := I.tuple hs
      obtain ⟨as, hr, hn⟩ := Dq.readsAll I ds _ its ha rv
      exact ⟨_, Reads.tuple ho hc hd hr, fun z => hn (by simpa [noL] using z)⟩
  | .dict kvs, _, _, h, r => by
    cases h with
    | dct hd =>
      cases r
      obtain ⟨_, ne, vs, kv, o, es, ep, ho, ex, hdat, _, pr, _⟩ := dk_of I.hok hd
      cases kv
      have e0 : es.toList = [] := by
        have := pr.length
        exact List.eq_nil_of_length_eq_zero (by simpa using this)
      refine ⟨_, Reads.dict (kvs := []) ho ex.1 hdat (by rw [e0]; exact ReadsAll.nil) (by rw [e0]; exact ReadsAll.nil), fun _ => ?_⟩
      simp
      intro z
      rw [← z] at ne
      simp at ne
theorem Dq.readsAll (I : Inv X pins σ H s) : ∀ (ds : List PyData) (vs : List V) (us : List Value), DqAll X.K H vs ds → Vals vs us → ∃ as, ReadsAll s.heap us ds as ∧ (noLs ds = true → sysModules ∉ as)
  | [], _, _, h, r => by
    cases h
    cases r
    exact ⟨_, ReadsAll.nil, fun _ => by simp⟩
  | d :: ds, _, _, h, r => by
    cases h with
    | cons h1 h2 =>
      cases r with
      | cons r1 r2 =>
        obtain ⟨as, q1, n1⟩ := Dq.reads I d _ _ h1 r1
        obtain ⟨bs, q2, n2⟩ := Dq.readsAll I ds _ _ h2 r2
        refine ⟨_, ReadsAll.cons q1 q2, fun z => ?_⟩
        simp only [noLs, Bool.and_eq_true] at z
        intro m
        rcases List.mem_append.mp m with m | m
        · exact n1 z.1 m
        · exact n2 z.2 m
end
/-- what repr asks of data -/
structure Rep (d : PyData) : Prop where
  show_ : d.showable = true
  mix : d.hasDict = true → noL d = true
  deep : d.depth ≤ 60
  size : d.shown.length ≤ sizeLine
def rRepr (K : PySem.W.Frag) : List V → Hp → VK → Prop := fun xs H Q => ∃ v d, xs = [v] ∧ Dq K H v d ∧ Rep d ∧ Q (.str d.shown) H
theorem call_repr (hu : X.A.units + 64 < cLine) (hg : X.A.guards = some []) : CallR X (.builtin "repr") (rRepr X.K) := by
  intro pins s σ H xs us Q I r h
  obtain ⟨v, d, rfl, hv, rp, q⟩ := h
  obtain ⟨u, rfl, ru⟩ := vals1 r
  have deep := rp.deep
  by_cases hd : ∃ a, u = .ref a
  · obtain ⟨a, rfl⟩ := hd
    obtain ⟨as, rd, nm⟩ := Dq.reads I d v _ hv ru
    exact repr_of_reads' rd rp.show_ (fun z => nm (rp.mix z)) hg (by omega) (fun _ _ e => e) (fun h' u tk hk => ⟨.str d.shown, H, I.kept hk, ⟨_, rfl⟩, q⟩) rp.size
  · have q' : Q (.str (PyData.shown d)) H := q
    cases hv with
    | non =>
      cases ru
      simp only [PyData.shown] at q'
      exact PySem.P.repr_of_none ⟨V.str "None", H, I.tok _, ⟨_, rfl⟩, q'⟩
    | bl b =>
      cases ru
      simp only [PyData.shown] at q'
      refine PySem.P.repr_of_bool ⟨V.str (if b then "True" else "False"), H, I.tok _, ?_, q'⟩
      cases b <;> exact ⟨_, rfl⟩
    | int i =>
      obtain ⟨t, rfl⟩ := ru
      simp only [PyData.shown] at q'
      exact PySem.P.repr_of_int (by simpa [PyData.showable] using rp.show_) ⟨V.str (toString i), H, I.tok _, ⟨_, rfl⟩, q'⟩
    | str x =>
      obtain ⟨t, rfl⟩ := ru
      simp only [PyData.shown] at q'
      exact PySem.P.repr_of_str ⟨V.str (reprText x), H, I.tok _, ⟨_, rfl⟩, q'⟩ (by simpa only [PyData.shown] using rp.size)
    | lst s _ => exact absurd ⟨_, ru⟩ hd
    | tup s _ => exact absurd ⟨_, ru⟩ hd
    | dct s => exact absurd ⟨_, ru⟩ hd
end
end EW
set_option Elab.async false
set_option linter.all false
set_option maxRecDepth 100000
set_option maxHeartbeats 4000000
set_option exponentiation.threshold 30000
namespace EW
open PySem PySem.Spec PyProof.Rows L2 Evl
/-! ### how long data is shown -/
def sl (d : PyData) : Nat := d.shown.length
def sls (ds : List PyData) : Nat := (ds.map fun d => sl d + 2).sum
theorem piled_shown (ds : List PyData) : piled (PyData.shownAll ds) = sls ds := by
  unfold piled sls
  rw [shownAll_eq_map, List.map_map]
  rfl
theorem strLen_app (a b : Str) : (a ++ b).length = a.length + b.length := strLen_append a b
theorem sl_tup_le (ds : List PyData) : sl (.tuple ds) ≤ 3 + sls ds := by
  rw [← piled_shown]
  show (tupleText (PyData.shownAll ds)).length ≤ _
  generalize PyData.shownAll ds = ts
  unfold tupleText
  rw [strLen_app, strLen_app]
  have h1 : (("(" : Str)).length = 1 := rfl
  have h2 : (((if (ts.length == 1) = true then ",)" else ")" : String)) : Str).length ≤ 2 := by
    split <;> decide
  have h3 : (Str.join ", " ts).length ≤ piled ts := by
    by_cases e : ts = []
    · subst e
      show (0 : Nat) ≤ _
      omega
    · have := join_length_add ts e
      omega
  omega
theorem sl_tup_ge (ds : List PyData) : sls ds ≤ sl (.tuple ds) := by
  rw [← piled_shown]
  show _ ≤ (tupleText (PyData.shownAll ds)).length
  generalize PyData.shownAll ds = ts
  unfold tupleText
  rw [strLen_app, strLen_app]
  have h1 : (("(" : Str)).length = 1 := rfl
  have h2 : 1 ≤ (((if (ts.length == 1) = true then ",)" else ")" : String)) : Str).length := by
    split <;> decide
  by_cases e : ts = []
  · subst e
    show (0 : Nat) ≤ _
    omega
  · have := join_length_add ts e
    omega
theorem textFrom_le : ∀ (ts : List Str) (k : Nat) (acc : Str), (textFrom k acc ts).length ≤ acc.length + piled ts
  | [], k, acc => by show acc.length ≤ _; omega
  | t :: r, k, acc => by
    have h := textFrom_le r (k + 1) (acc ++ (if k > 0 then ", " else "" : String) ++ t)
    show (textFrom (k + 1) (acc ++ (if k > 0 then ", " else "" : String) ++ t) r).length ≤ _
    rw [strLen_app, strLen_app] at h
    have h2 : (((if k > 0 then ", " else "" : String)) : Str).length ≤ 2 := by
      split <;> decide
    rw [piled_cons]
    omega
theorem sl_lst_le (ds : List PyData) : sl (.list ds) ≤ 3 + sls ds := by
  rw [← piled_shown]
  show (listText (PyData.shownAll ds)).length ≤ _
  generalize PyData.shownAll ds = ts
  unfold listText
  rw [strLen_app]
  have h := textFrom_le ts 0 "["
  have h1 : (("[" : Str)).length = 1 := rfl
  have h2 : (("]" : Str)).length = 1 := rfl
  omega
theorem sls_app (a b : List PyData) : sls (a ++ b) = sls a + sls b := by
  unfold sls
  rw [List.map_append, List.sum_append]
theorem sls_cons (d : PyData) (ds : List PyData) : sls (d :: ds) = sl d + 2 + sls ds := by
  unfold sls
  simp
theorem sls_nil : sls [] = 0 := rfl
theorem sls_take (ds : List PyData) (i : Nat) : sls (ds.take i) ≤ sls ds := by
  have := sls_app (ds.take i) (ds.drop i)
  rw [List.take_append_drop] at this
  omega
theorem sls_drop (ds : List PyData) (i : Nat) : sls (ds.drop i) ≤ sls ds := by
  have := sls_app (ds.take i) (ds.drop i)
  rw [List.take_append_drop] at this
  omega
theorem sls_rev (ds : List PyData) : sls ds.reverse = sls ds := by
  unfold sls
  rw [List.map_reverse, List.sum_reverse]
theorem sl_mem {d : PyData} {ds : List PyData} (h : d ∈ ds) : sl d ≤ sls ds := by
  induction ds with
  | nil => cases h
  | cons x xs ih =>
    rw [sls_cons]
    rcases List.mem_cons.mp h with rfl | h
    · omega
    · have := ih h
      omega
theorem strInt_len {i : Int} {k : Nat} (hk : 0 < k) (h : i.natAbs < 10 ^ k) : (Str.ofString (toString i)).length ≤ k + 1 := by
  cases i with
  | ofNat n =>
    have := toString_length_le (v := (n : Int)) (Int.natCast_nonneg n) hk (by
      have : n < 10 ^ k := h
      exact_mod_cast this)
    show (Str.ofString (toString (n : Int))).length ≤ k + 1
    omega
  | negSucc n =>
    have h1 := toString_length_le (v := ((n + 1 : Nat) : Int)) (Int.natCast_nonneg _) hk (by
      have : n + 1 < 10 ^ k := h
      exact_mod_cast this)
    rw [PyProof.Rows.ofString_length] at h1 ⊢
    have e : toString (Int.negSucc n) = "-" ++ toString ((n + 1 : Nat) : Int) := rfl
    rw [e, String.toList_append, List.length_append]
    have : ("-" : String).toList.length = 1 := rfl
    omega
theorem int_len {i : Int} (h : i.natAbs < 2 ^ 700) : sl (.int i) ≤ 701 := by
  have := strInt_len (i := i) (k := 700) (by decide) (Nat.lt_of_lt_of_le h (Nat.pow_le_pow_left (by decide) 700))
  show (PyData.shown (.int i)).length ≤ 701
  simp only [PyData.shown]
  exact this
end EW
set_option Elab.async false
set_option linter.all false
set_option maxRecDepth 100000
set_option maxHeartbeats 4000000
set_option exponentiation.threshold 30000
namespace EW
open PySem PySem.Spec PyProof.Rows L2 Evl
section
variable {K : PySem.W.Frag} {σ : L2.St} {H H' F : Hp} {ta tb tc td te tl : TE} {P P' Pz : V → Hp → Prop} {n m k c d e : Nat} {p : Addr} {Pi : Nat → V → Hp → Prop} {D : Ends} {tz : TS}
theorem qm_par {i j : Nat} {A B : V → Hp → Prop} (ha : EvM ta σ p c d H A) (mA : MonoB A) (hb : EvM tb σ p d e H B) (po : Pot p c H) (k : ∀ a b H1, Xb p H H1 → Pot p e H1 → A a H1 → B b H1 → tz D ((σ.set i (some a)).set j (some b)) H1) :
    tSeq (tPar i j (tCons ta (tCons tb tNil))) tz D σ H := ha H (Xb.refl _ _) po _ fun a H1 x1 p1 pa => hb H1 x1 p1 _ fun b H2 x2 p2 pb => ⟨a, b, rfl, k a b H2 (x1.trans x2) p2 (mA p _ _ _ (pot_mt p1) x2 pa) pb⟩
/-- a + a draw -/
theorem m_cPlus {i u : Nat} {a : Nat} {E : XK} (hσ : σ[i]? = some (some (V.ref p))) (hc : c < 2 ^ 60) (u0 : 0 < u) (u1 : u < 2 ^ 60) : EvM (tOp (rI0 fun i j => .int (i + j)) (tC (.int (a : Int))) (tCall spTake [] E (tCons (tVar i) (tCons (tC (.int (u : Int))) tNil)))) σ p c (c + 1) H (fun v _ => ∃ k : Nat, v = .int (k : Int) ∧ (a ≤ k ∧ k < a + u)) :=
  m_op (m_still fun H1 _ => ev_c) (m_take hσ hc u0 u1) eq_xb fun x y H1 _ _ hx ⟨t, hy, ht⟩ => by
    subst hx hy
    exact ep_w rp_I0 fun v H2 _ hv => ⟨a + t, by rw [hv]; push_cast; rfl, by omega, by omega⟩
/-- int(a draw - F), the draw below 2 * F -/
theorem m_farSub {i j : Nat} {G : Nat} {E : XK} (hσ : σ[i]? = some (some (V.ref p))) (hG : σ[j]? = some (some (V.int (G : Int)))) (hc : c < 2 ^ 60) (g0 : 0 < G) (g1 : G ≤ 1000) : EvM (tCB (fun xs H Q => (∃ i, xs = [V.int i] ∧ Q (.int i) H) ∨ ∃ k, xs = [V.bl k] ∧ Q (.int (if k then 1 else 0)) H) (tCons (tOp (rI0 fun i j => .int (i - j)) (tCall spTake [] E (tCons (tVar i) (tCons (tOp (rI CMulW fun i j => .int (i * j)) (tC (.int 2)) (tVar j)) tNil))) (tVar j)) tNil)) σ p c (c + 1) H (fun v _ => ∃ z : Int, v = .int z ∧ z.natAbs ≤ 1000) :=
  m_int (m_op (m_takeE (u := 2 * G) hσ (fun H1 _ => ev_is (ev_mulW (m := 2) (n := 10) ev_c (ev_var hG) (by decide) (by simp; omega) (by decide) (by decide) (by decide)) (by push_cast; rfl)) hc (by omega) (by omega)) (m_still fun H1 _ => ev_var hG) (fun _ _ _ _ _ _ q => q) fun x y H1 _ _ ⟨t, ht, hu⟩ hy => by
    subst ht hy
    exact ep_w rp_I0 fun v H2 _ hv => ⟨(t : Int) - G, hv, by omega⟩)
def DrQ (K : PySem.W.Frag) (m : Nat) (v : V) (H : Hp) : Prop := ∃ r, RwP K m r v H ∧ r.1.natAbs ≤ 1000 ∧ ∀ j, j < m → (r.2 j).natAbs ≤ 2
theorem drQ_xb : MonoB (DrQ K m) := fun p v H H' hp e ⟨r, h1, h2⟩ => ⟨r, rw_xb p _ _ _ hp e h1, h2⟩
theorem drQ_mono : Mono (DrQ K m) := fun v H H' e ⟨r, h1, h2⟩ => ⟨r, rw_mono _ _ _ e h1, h2⟩
theorem drQ_tst : Tst (DrQ K m) := fun D v H o o' hD mt ⟨r, h1, h2⟩ => ⟨r, rw_tst D v H o o' hD mt h1, h2⟩
theorem ls_pickQ {v : V} (h : LsP n (fun _ => DrQ K m) v H) : ∃ R : Nat → Row, LsP n (fun i => RwP K m (R i)) v H ∧ Rb 2 1000 m n R := by
  obtain ⟨t, xs, rfl, ht, hl, hx⟩ := h
  have : ∀ i : Nat, ∃ r : Row, ∀ x, xs[i]? = some x → RwP K m r x H ∧ r.1.natAbs ≤ 1000 ∧ ∀ j, j < m → (r.2 j).natAbs ≤ 2 := fun i => by
    cases hi : xs[i]? with
    | none => exact ⟨(0, fun _ => 0), fun x q => by cases q⟩
    | some x =>
      obtain ⟨r, h1, h2⟩ := hx i x hi
      exact ⟨r, fun y q => by cases q; exact ⟨h1, h2⟩⟩
  have at_ : ∀ i, i < n → (this i).choose.1.natAbs ≤ 1000 ∧ ∀ j, j < m → ((this i).choose.2 j).natAbs ≤ 2 := fun i hi => by
    obtain ⟨x, q⟩ := nd_at hl hi
    exact ((this i).choose_spec x q).2
  exact ⟨fun i => (this i).choose, ⟨t, xs, rfl, ht, hl, fun i x q => ((this i).choose_spec x q).1⟩, fun i hi => (at_ i hi).1, fun i hi => (at_ i hi).2⟩
/-- a drawn ROW, far numbers -/
theorem m_farRow {i j l at_ : Nat} {G : Nat} {E : XK} (hσ : σ[i]? = some (some (V.ref p))) (hm : σ[l]? = some (some (V.int (m : Int)))) (hG : σ[j]? = some (some (V.int (G : Int)))) (hc : c < 2 ^ 58) (g0 : 0 < G) (g1 : G ≤ 1000) (m1 : m ≤ 100) (s1 : ∀ x, wipe ((wipe σ [at_]).set at_ (some x)) [at_] = wipe σ [at_]) (s2 : ∀ x, ((wipe σ [at_]).set at_ (some x))[i]? = some (some (V.ref p))) :
    EvM (tTup (tCons (tCB (fun xs H Q => (∃ i, xs = [V.int i] ∧ Q (.int i) H) ∨ ∃ k, xs = [V.bl k] ∧ Q (.int (if k then 1 else 0)) H) (tCons (tOp (rI0 fun i j => .int (i - j)) (tCall spTake [] E (tCons (tVar i) (tCons (tOp (rI CMulW fun i j => .int (i * j)) (tC (.int 2)) (tVar j)) tNil))) (tVar j)) tNil))
      (tCons (tCB (fun xs H Q => ∃ p ys, xs = [V.ref p] ∧ ((SqL K H p ys ∧ ∀ l, H l = none → Q (.ref l) (upd H l (.tup ys))) ∨ (SqT K H p ys ∧ Q (.ref p) H))) (tCons (tLc (iRng1 (tCons (tVar l) tNil)) (gName at_) tYes (tCB (fun xs H Q => (∃ i, xs = [V.int i] ∧ Q (.int i) H) ∨ ∃ k, xs = [V.bl k] ∧ Q (.int (if k then 1 else 0)) H) (tCons (tOp (rI0 fun i j => .int (i - j)) (tCall spTake [] E (tCons (tVar i) (tCons (tC (.int ((5 : Nat) : Int))) tNil))) (tC (.int 2))) tNil)) [at_]) tNil)) tNil)))
      σ p c (c + 101) H (DrQ K m) :=
  m_w (m_pair (K := K) (d := c + 1) (P := fun v _ => ∃ z : Int, v = .int z ∧ z.natAbs ≤ 1000) (P' := fun v H => ∃ n, n = m ∧ TsP K n (fun i x _ => ∃ z : Int, x = .int z ∧ (-2 ≤ z ∧ z < 5 - 2)) v H) (m_farSub hσ hG (by omega) g0 g1) (fun _ _ _ _ _ _ q => q) (fun _ _ _ _ q => q)
    (m_tuple (m_lc (s := 1) (sm_rangeC (k := m) (fun H1 _ => ev_var hm) m1) (fun n hn => by omega) (fun _ _ _ _ _ _ _ q => q) (fun _ _ _ _ _ _ _ _ q => q) fun i' x H1 hi x1 hX => ⟨(wipe σ [at_]).set at_ (some x), fun Q q => q, s1 x, m_takeSub (u := 5) (k := 2) (s2 x) (by omega) (by decide) (by decide)⟩) fun _ _ _ _ _ q => q) (fun v H H' e ⟨n, hn, q⟩ => ⟨n, hn, ts_mono (fun _ _ _ _ _ q => q) _ _ _ e q⟩)) fun v H2 _ ⟨T, a, b, hv, hT, ⟨z, hz, hz2⟩, n, hn, hb⟩ => by
      subst hz hn
      obtain ⟨f, hf, g⟩ := ts_pick hb
      exact ⟨(z, f), ⟨T, b, hv, hT, hf⟩, hz2, fun j hj => by have := g j hj; show (f j).natAbs ≤ 2; omega⟩
theorem ep_shows {n m Z : Nat} {R : Nat → Row} {r : Row} {d : PyData} {E : XK} (ha : Ev ta σ H (.int (m : Int))) (hb : EvP tb σ H (RwsP K n m R)) (hc : EvP tc σ H (RwP K m r)) (hd : EvP td σ H (fun v H => Dq K H v d)) (sm : ∀ i, i < n → Sml m (R i)) (sr : Sml m r) (m24 : m ≤ 24) (hn : n ≤ 60) (z0 : 0 < Z) (z1 : Z ≤ 100000) (sd : Szd n m Z d) :
    EvP (tCall (spShows K) [] E (tCons ta (tCons tb (tCons tc (tCons td tNil))))) σ H (BoP (Shown n m R r d)) := fun H1 e Q q =>
  ha H1 e _ fun H2 e2 => hb H2 (e.trans e2) _ fun v H3 e3 hv => hc H3 ((e.trans e2).trans e3) _ fun u H4 e4 hu => hd H4 (((e.trans e2).trans e3).trans e4) _ fun x H5 e5 hx =>
  ⟨n, m, Z, R, r, v, u, x, d, rfl, rws_mono _ _ _ (e4.trans e5) hv, rw_mono _ _ _ e5 hu, hx, sm, sr, m24, hn, z0, z1, sd, fun w H6 e6 hw => q w H6 ((((e2.trans e3).trans e4).trans e5).trans e6) hw⟩
end
section
variable {P : Program} {w : World} {K : PySem.W.Frag} {mg : Str → Option Value} {base : Heap}
/-! ### _law_of -/
abbrev sOf : Stmt := top 51
def spOf (K : PySem.W.Frag) : Sp := fun vs H Q _ => ∃ (p a : Addr) (c : Nat) (xs : List V), vs = [.ref p, .ref a] ∧ Pot p c H ∧ a ≠ p ∧ H a = some (.lst xs) ∧ 0 < xs.length ∧ xs.length < 2 ^ 60 ∧ c < 2 ^ 60 ∧ ∀ (i : Nat) v H2, xs[i]? = some v → Xb p H H2 → Pot p (c + 1) H2 → Q v H2
theorem scOf : FnScope ["pot", "some"] ["pot", "some"] (defScope sOf) := ⟨rfl, rfl, rfl, by decide +kernel, rfl, by decide +kernel, by decide +kernel⟩
theorem ok_lawOf {f fT : Addr} {fd fdT : FuncData} (F : Fun K "_law_of" "_law_of" sOf f fd) (B : Bl2 mg) (Tk : Has P w K mg base "_law_take" 1 ["pot", "upto"] spTake fT fdT) : FnOk P w K mg base CX0 2 f fd ["pot", "some"] (spOf K) := by
  refine F.ok scOf (fun vs H Q E h => ?_) (fun cdv A outer s H vs Q E hr h => ?_)
  · obtain ⟨p, a, c, xs, rfl, _⟩ := h
    rfl
  · obtain ⟨p, a, c, xs, rfl, po, na, ha, h0, h1, hc, k⟩ := h
    refine ⟨_, pss_one (ps_ret (pe_ix ix_list (pv 1) (pe_cl Tk hr (pa_cons (pv 0) (pa_cons (pe_callB call_len_seq (by rfl) B.len PySem.boot_len (pa_cons (pv 1) pa_nil)) pa_nil))) (fun _ _ => rfl))), ?_⟩
    refine sm_ret (P := fun v H => ∃ i : Nat, xs[i]? = some v) (m_op (P := fun v _ => v = .ref a) (m_still fun _ _ => ev_var rfl) (m_takeE (u := xs.length) rfl (fun H1 x1 => ev_cb (ea_cons (ev_var rfl) ea_nil) fun H2 e2 Q q => ⟨a, xs, rfl, .inl (sq_of (e2 _ _ (x1 _ _ na ha))), q H2 (Ex.refl _)⟩) hc h0 h1) eq_xb fun x y H1 x1 _ hx ⟨t, hy, ht⟩ => ?_) po fun v H1 x1 p1 ⟨i, hi⟩ => k i v H1 hi x1 p1
    subst hx hy
    intro H2 e2 Q q
    have hv : xs[t]? = some xs[t] := by simp [ht]
    exact ⟨a, xs, (t : Int), xs[t], rfl, rfl, sq_of (e2 _ _ (x1 _ _ na ha)), atI_nat hv, q _ H2 (Ex.refl _) ⟨t, hv⟩⟩
end
end EW
set_option Elab.async false
set_option linter.all false
set_option maxRecDepth 100000
set_option maxHeartbeats 4000000
set_option exponentiation.threshold 30000
namespace EW
open PySem PySem.Spec PyProof.Rows L2 Evl
/-! ### data that leave the pot alone -/
def hid2 (p pq : Addr) (H : Hp) : Hp := hid pq (hid p H)
def DH (K : PySem.W.Frag) (p pq : Addr) (d : PyData) (v : V) (H : Hp) : Prop := Dq K (hid2 p pq H) v d
def cutL {α : Type} (ds : List α) (lo hi : Option Int) : List α := (ds.drop (HT.sIx ds.length 0 lo)).take (HT.sIx ds.length ds.length hi - HT.sIx ds.length 0 lo)
theorem hid_mono {p : Addr} {H H' : Hp} (e : Ex H H') : Ex (hid p H) (hid p H') := fun a o h => by
  unfold hid at h ⊢
  by_cases z : a = p
  · rw [if_pos z] at h
    cases h
  · rw [if_neg z] at h ⊢
    exact e a o h
theorem hid_xbm {p : Addr} {H H' : Hp} (x : Xb p H H') : Ex (hid p H) (hid p H') := fun a o h => by
  unfold hid at h ⊢
  by_cases z : a = p
  · rw [if_pos z] at h
    cases h
  · rw [if_neg z] at h ⊢
    exact x a o z h
theorem hid_sub {p : Addr} {H : Hp} : Ex (hid p H) H := fun a o h => by
  unfold hid at h
  by_cases z : a = p
  · rw [if_pos z] at h
    cases h
  · rw [if_neg z] at h
    exact h
theorem hid_new {p q : Addr} {H : Hp} {o : HO} (nq : q ≠ p) : hid p (upd H q o) q = some o := by
  unfold hid
  rw [if_neg nq]
  exact upd_same
theorem hid2_mono {p pq : Addr} {H H' : Hp} (e : Ex H H') : Ex (hid2 p pq H) (hid2 p pq H') := hid_mono (hid_mono e)
theorem hid2_xbm {p pq : Addr} {H H' : Hp} (x : Xb p H H') : Ex (hid2 p pq H) (hid2 p pq H') := hid_mono (hid_xbm x)
theorem hid2_sub {p pq : Addr} {H : Hp} : Ex (hid2 p pq H) H := hid_sub.trans hid_sub
theorem hid2_new {p pq n : Addr} {H : Hp} {o : HO} (nq : n ≠ p ∧ n ≠ pq) : hid2 p pq (upd H n o) n = some o := by
  have h1 : hid p (upd H n o) n = some o := hid_new nq.1
  unfold hid2
  generalize hid p (upd H n o) = G at h1
  unfold hid
  rw [if_neg nq.2]
  exact h1
/-- the two that are changed -/
structure At (p pq : Addr) (H : Hp) : Prop where
  a : ∃ o, H p = some o ∧ Mt o
  b : ∃ o, H pq = some o ∧ Mt o
theorem at_go {p pq : Addr} {c : Nat} {H H' : Hp} (h : At p pq H) (x : Xb p H H') (po : Pot p c H') : At p pq H' := ⟨pot_mt po, by
  by_cases z : pq = p
  · rw [z]
    exact pot_mt po
  · obtain ⟨o, h1, h2⟩ := h.b
    exact ⟨o, x _ _ z h1, h2⟩⟩
theorem sqT_hid2 {K : PySem.W.Frag} {p pq a : Addr} {H : Hp} {xs : List V} (h : At p pq H) (s : SqT K H a xs) : SqT K (hid2 p pq H) a xs := by
  have s1 : SqT K (hid p H) a xs := sqT_xb h.a (hid_xb p H) s
  by_cases z : pq = p
  · have e : hid2 p pq H = hid p H := funext fun b => by
      unfold hid2
      rw [z]
      by_cases y : b = p
      · unfold hid
        rw [if_pos y, if_pos y]
      · unfold hid
        rw [if_neg y]
    rw [e]
    exact s1
  · obtain ⟨o, h1, h2⟩ := h.b
    exact sqT_xb (p := pq) ⟨o, hid_xb p H pq o z h1, h2⟩ (hid_xb pq _) s1
theorem at_pot {p : Addr} {c : Nat} {H : Hp} (po : Pot p c H) : At p p H := ⟨pot_mt po, pot_mt po⟩
section
variable {K : PySem.W.Frag} {H H' : Hp} {p pq : Addr} {d : PyData} {ds es : List PyData} {v : V}
theorem dh_mono : Mono (DH K p pq d) := fun _ _ _ e h => Dq.mono (hid2_mono e) h
theorem dh_xb (x : Xb p H H') (h : DH K p pq d v H) : DH K p pq d v H' := Dq.mono (hid2_xbm x) h
theorem dh_dq (h : DH K p pq d v H) : Dq K H v d := Dq.mono hid2_sub h
theorem DqAll.app : ∀ {xs ys : List V} {ds es : List PyData}, DqAll K H xs ds → DqAll K H ys es → DqAll K H (xs ++ ys) (ds ++ es)
  | _, _, _, _, .nil, h => h
  | _, _, _, _, .cons a t, h => .cons a (t.app h)
theorem DqAll.take : ∀ (n : Nat) {xs : List V} {ds : List PyData}, DqAll K H xs ds → DqAll K H (xs.take n) (ds.take n)
  | 0, _, _, _ => by simp; exact .nil
  | n + 1, _, _, .nil => .nil
  | n + 1, _, _, .cons a t => .cons a (DqAll.take n t)
theorem DqAll.drop : ∀ (n : Nat) {xs : List V} {ds : List PyData}, DqAll K H xs ds → DqAll K H (xs.drop n) (ds.drop n)
  | 0, _, _, h => h
  | n + 1, _, _, .nil => .nil
  | n + 1, _, _, .cons a t => DqAll.drop n t
theorem DqAll.rev : ∀ {xs : List V} {ds : List PyData}, DqAll K H xs ds → DqAll K H xs.reverse ds.reverse
  | _, _, .nil => .nil
  | _, _, .cons a t => by
    rw [List.reverse_cons, List.reverse_cons]
    exact t.rev.app (.cons a .nil)
theorem DqAll.cut {lo hi : Option Int} {xs : List V} {ds : List PyData} (h : DqAll K H xs ds) : DqAll K H (cutV xs lo hi) (cutL ds lo hi) := by
  unfold cutV cutL
  rw [h.len]
  exact (h.drop _).take _
/-! data without lists, wherever they stand: the pot is none of them -/
mutual
theorem dq_hid (hp : At p pq H) : ∀ {v : V} {d : PyData}, Dq K H v d → noL d = true → d.hasDict = false → Dq K (hid2 p pq H) v d
  | _, _, .non, _, _ => .non
  | _, _, .bl b, _, _ => .bl b
  | _, _, .int i, _, _ => .int i
  | _, _, .str x, _, _ => .str x
  | _, _, .lst _ _, n, _ => by simp [noL] at n
  | _, _, .tup s a, n, k => .tup (sqT_hid2 hp s) (dq_hids hp a (by simpa [noL] using n) (by simpa [PyData.hasDict] using k))
  | _, _, .dct _, _, k => by simp [PyData.hasDict] at k
theorem dq_hids (hp : At p pq H) : ∀ {vs : List V} {ds : List PyData}, DqAll K H vs ds → noLs ds = true → PyData.hasDictAll ds = false → DqAll K (hid2 p pq H) vs ds
  | _, _, .nil, _, _ => .nil
  | _, _, .cons a t, n, k => by
    simp only [noLs, Bool.and_eq_true] at n
    simp only [PyData.hasDictAll, Bool.or_eq_false_iff] at k
    exact .cons (dq_hid hp a n.1 k.1) (dq_hids hp t n.2 k.2)
end
variable {σ : L2.St} {ta tb te : TE} {tl th : TO} {lo hi : Option Int}
theorem at_ex (h : At p pq H) (e : Ex H H') : At p pq H' := ⟨h.a.imp fun _ q => ⟨e _ _ q.1, q.2⟩, h.b.imp fun _ q => ⟨e _ _ q.1, q.2⟩⟩
theorem at_ne {n : Addr} (h : At p pq H) (hn : H n = none) : n ≠ p ∧ n ≠ pq := by
  obtain ⟨⟨o, h1, _⟩, ⟨u, g1, _⟩⟩ := h
  refine ⟨fun z => ?_, fun z => ?_⟩
  · rw [z, h1] at hn
    cases hn
  · rw [z, g1] at hn
    cases hn
def PartIs (tp : TO) (σ : L2.St) (H : Hp) (o : Option Int) : Prop := ∀ H1, Ex H H1 → ∀ Q : Option Int → Hp → Prop, (∀ H2, Ex H1 H2 → Q o H2) → tp σ H1 Q
theorem part_no : PartIs tNoPart σ H none := fun H1 _ _ q => q H1 (Ex.refl _)
theorem part_is {i : Int} (h : Ev te σ H (.int i)) : PartIs (tPart te) σ H (some i) := fun H1 e Q q => h H1 e _ fun H2 e2 => ⟨i, rfl, q H2 e2⟩
/-- t[lo:hi] -/
theorem ep_slD (at_ : At p pq H) (h : EvP te σ H (DH K p pq (.tuple ds))) (h1 : PartIs tl σ H lo) (h2 : PartIs th σ H hi) : EvP (tSl (rSlA K) te tl th) σ H (DH K p pq (.tuple (cutL ds lo hi))) := fun H1 e Q q =>
  h H1 e _ fun v H2 e2 hv => h1 H2 (e.trans e2) _ fun H3 e3 => h2 H3 ((e.trans e2).trans e3) _ fun H4 e4 => by
    have hv := dh_mono _ _ _ (e3.trans e4) hv
    have hq := dh_dq hv
    unfold DH at hv
    generalize hG : hid2 p pq H4 = G at hv
    cases hv with
    | tup s a =>
      subst hG
      have s4 := ex_t hid2_sub s
      refine ⟨_, _, rfl, s4, fun wh => q _ H4 ((e2.trans e3).trans e4) ?_, fun _ n hn => q _ _ (((e2.trans e3).trans e4).trans (Ex.new hn)) ?_⟩
      · have : cutL ds lo hi = ds := by
          unfold cutL
          rw [← a.len, wh.1, wh.2]
          simp [a.len]
        rw [this]
        exact .tup s a
      · have ne := at_ne (at_ex at_ (((e.trans e2).trans e3).trans e4)) hn
        exact .tup (st_of (hid2_new ne)) ((a.cut).mono (hid2_mono (Ex.new hn)))
theorem ep_catD (at_ : At p pq H) (ha : EvP ta σ H (DH K p pq (.tuple ds))) (hb : EvP tb σ H (DH K p pq (.tuple es))) (hz : ds.length + es.length ≤ 1000) : EvP (tOp (rCatA K) ta tb) σ H (DH K p pq (.tuple (ds ++ es))) := fun H1 e Q q =>
  ha H1 e _ fun x H2 e2 hx => hb H2 (e.trans e2) _ fun y H3 e3 hy => by
    have hx := dh_mono _ _ _ e3 hx
    unfold DH at hx hy
    generalize hG : hid2 p pq H3 = G at hx hy
    cases hx with
    | tup s a =>
      cases hy with
      | tup s' a' =>
        subst hG
        refine ⟨_, _, _, _, rfl, rfl, ex_t hid2_sub s, ex_t hid2_sub s', sz_of (by rw [a.len, a'.len]; omega), fun z => ?_, fun _ z => ?_, fun _ _ n hn => ?_⟩
        · subst z
          cases a
          exact q _ H3 (e2.trans e3) (.tup s' a')
        · subst z
          cases a'
          refine q _ H3 (e2.trans e3) ?_
          rw [List.append_nil]
          exact .tup s a
        · have ne := at_ne (at_ex at_ ((e.trans e2).trans e3)) hn
          exact q _ _ ((e2.trans e3).trans (Ex.new hn)) (.tup (st_of (hid2_new ne)) ((a.app a').mono (hid2_mono (Ex.new hn))))
theorem ep_revD (at_ : At p pq H) (h : EvP te σ H (DH K p pq (.tuple ds))) : EvP (tRevT K te) σ H (DH K p pq (.tuple ds.reverse)) := fun H1 e Q q => h H1 e _ fun v H2 e2 hv => by
  unfold DH at hv
  generalize hG : hid2 p pq H2 = G at hv
  cases hv with
  | tup s a =>
    subst hG
    exact ⟨_, _, rfl, ex_t hid2_sub s, fun n hn => q _ _ (e2.trans (Ex.new hn)) (.tup (st_of (hid2_new (at_ne (at_ex at_ (e.trans e2)) hn))) (a.rev.mono (hid2_mono (Ex.new hn))))⟩
/-- list(t) -/
theorem ep_listD (at_ : At p pq H) (h : EvP te σ H (DH K p pq (.tuple ds))) : EvP (tCB (fun xs H Q => ∃ p ys, xs = [V.ref p] ∧ (SqL K H p ys ∨ SqT K H p ys) ∧ ∀ l, H l = none → Q (.ref l) (upd H l (.lst ys))) (tCons te tNil)) σ H (DH K p pq (.list ds)) := fun H1 e Q q => h H1 e _ fun v H2 e2 hv => by
  unfold DH at hv
  generalize hG : hid2 p pq H2 = G at hv
  cases hv with
  | tup s a =>
    subst hG
    exact ⟨_, _, rfl, .inr (ex_t hid2_sub s), fun n hn => q _ _ (e2.trans (Ex.new hn)) (.lst (sq_of (hid2_new (at_ne (at_ex at_ (e.trans e2)) hn))) (a.mono (hid2_mono (Ex.new hn))))⟩
theorem ep_tup1D (at_ : At p pq H) (h : EvP te σ H (DH K p pq d)) : EvP (tTup (tCons te tNil)) σ H (DH K p pq (.tuple [d])) := fun H1 e Q q => h H1 e _ fun v H2 e2 hv =>
  ⟨by show 1 ≤ sizeLine; decide, fun n hn => q _ _ (e2.trans (Ex.new hn)) (.tup (st_of (hid2_new (at_ne (at_ex at_ (e.trans e2)) hn))) (.cons (Dq.mono (hid2_mono (Ex.new hn)) hv) .nil))⟩
theorem ep_lst1D (at_ : At p pq H) (h : EvP te σ H (DH K p pq d)) : EvP (tLst (tCons te tNil)) σ H (DH K p pq (.list [d])) := fun H1 e Q q => h H1 e _ fun v H2 e2 hv =>
  ⟨by show 1 ≤ sizeLine; decide, fun n hn => q _ _ (e2.trans (Ex.new hn)) (.lst (sq_of (hid2_new (at_ne (at_ex at_ (e.trans e2)) hn))) (.cons (Dq.mono (hid2_mono (Ex.new hn)) hv) .nil))⟩
theorem ep_tup0D (at_ : At p pq H) : EvP (tTup tNil) σ H (DH K p pq (.tuple [])) := fun H1 e Q q =>
  ⟨by show 0 ≤ sizeLine; decide, fun n hn => q _ _ (Ex.new hn) (.tup (st_of (hid2_new (at_ne (at_ex at_ e) hn))) .nil)⟩
theorem ep_dictD (at_ : At p pq H) : EvP tDNewK σ H (DH K p pq (.dict [])) := fun H1 e Q q n hn => q _ _ (Ex.new hn) (.dct (hid2_new (at_ne (at_ex at_ e) hn)))
theorem ep_tup2D {d' : PyData} (at_ : At p pq H) (h : EvP ta σ H (DH K p pq d)) (h' : EvP tb σ H (DH K p pq d')) : EvP (tTup (tCons ta (tCons tb tNil))) σ H (DH K p pq (.tuple [d, d'])) := fun H1 e Q q => h H1 e _ fun v H2 e2 hv => h' H2 (e.trans e2) _ fun w H3 e3 hw =>
  ⟨by show 2 ≤ sizeLine; decide, fun n hn => q _ _ ((e2.trans e3).trans (Ex.new hn)) (.tup (st_of (hid2_new (at_ne (at_ex at_ ((e.trans e2).trans e3)) hn))) (.cons (Dq.mono (hid2_mono (e3.trans (Ex.new hn))) hv) (.cons (Dq.mono (hid2_mono (Ex.new hn)) hw) .nil)))⟩
theorem ep_tup3D {d' d'' : PyData} {tc : TE} (at_ : At p pq H) (h : EvP ta σ H (DH K p pq d)) (h' : EvP tb σ H (DH K p pq d')) (h'' : EvP tc σ H (DH K p pq d'')) : EvP (tTup (tCons ta (tCons tb (tCons tc tNil)))) σ H (DH K p pq (.tuple [d, d', d''])) := fun H1 e Q q => h H1 e _ fun v H2 e2 hv => h' H2 (e.trans e2) _ fun w H3 e3 hw => h'' H3 ((e.trans e2).trans e3) _ fun u H4 e4 hu =>
  ⟨by show 3 ≤ sizeLine; decide, fun n hn => q _ _ (((e2.trans e3).trans e4).trans (Ex.new hn)) (.tup (st_of (hid2_new (at_ne (at_ex at_ (((e.trans e2).trans e3).trans e4)) hn))) (.cons (Dq.mono (hid2_mono ((e3.trans e4).trans (Ex.new hn))) hv) (.cons (Dq.mono (hid2_mono (e4.trans (Ex.new hn))) hw) (.cons (Dq.mono (hid2_mono (Ex.new hn)) hu) .nil))))⟩
theorem dh_c {c : V} (h : ∀ G, Dq K G c d) : EvP (tC c) σ H (DH K p pq d) := ep_of ev_c fun _ _ => h _
theorem dh_v {c : V} (e : Ev te σ H c) (h : ∀ G, Dq K G c d) : EvP te σ H (DH K p pq d) := ep_of e fun _ _ => h _
/-! ### lists of such values, all alike -/
def AL (ta : TA) (σ : L2.St) (H : Hp) (G : V → Hp → Prop) (n : Nat) : Prop := ∀ H1, Ex H H1 → ∀ Q : List V → Hp → Prop, (∀ vs H2, Ex H1 H2 → vs.length = n → (∀ v ∈ vs, G v H2) → Q vs H2) → ta σ H1 Q
theorem al_nil {G : V → Hp → Prop} : AL tNil σ H G 0 := fun H1 _ Q q => q [] H1 (Ex.refl _) rfl fun v h => by cases h
theorem al_cons {G : V → Hp → Prop} {tr : TA} {n : Nat} (mG : Mono G) (h : EvP te σ H G) (hr : AL tr σ H G n) : AL (tCons te tr) σ H G (n + 1) := fun H1 e Q q => h H1 e _ fun v H2 e2 hv => hr H2 (e.trans e2) _ fun vs H3 e3 hl hvs => q (v :: vs) H3 (e2.trans e3) (by simp [hl]) fun w hw => by
  rcases List.mem_cons.mp hw with rfl | hw
  · exact mG _ _ _ e3 hv
  · exact hvs w hw
theorem m_ofL {G : V → Hp → Prop} {n i c : Nat} {E : XK} {tA : TA} (at0 : At p pq H) (hσ : σ[i]? = some (some (V.ref p))) (hA : ∀ H1, Xb p H H1 → At p pq H1 → AL tA σ H1 G n) (xG : ∀ v H H', Xb p H H' → G v H → G v H') (n0 : 0 < n) (n1 : n ≤ 1000) (hc : c < 2 ^ 60) :
    EvM (tCall (spOf K) [] E (tCons (tVar i) (tCons (tLst tA) tNil))) σ p c (c + 1) H G := fun H1 x po Q q => ⟨V.ref p, hσ, hA H1 x (at_go at0 x po) H1 (Ex.refl _) _ fun vs H2 e2 hl hvs => ⟨sz_of (by omega), fun l hn => by
  have ne := pot_nn (pot_ex e2 po) hn
  refine ⟨p, l, c, vs, rfl, pot_ex (e2.trans (Ex.new hn)) po, ne, upd_same, by omega, by omega, hc, fun j v H3 hv x3 p3 => q v H3 ((xb_ex (e2.trans (Ex.new hn))).trans x3) p3 (xG _ _ _ ((xb_ex (Ex.new hn)).trans x3) (hvs v (List.mem_of_getElem? hv)))⟩⟩⟩
end
end EW
set_option Elab.async false
set_option linter.all false
set_option maxRecDepth 100000
set_option maxHeartbeats 4000000
set_option exponentiation.threshold 30000
namespace EW
open PySem PySem.Spec PyProof.Rows L2 Evl
/-! ### data that are asked -/
mutual
def aI : PyData → Bool
  | .int i => decide (i.natAbs < 2 ^ 700)
  | .list xs => aIs xs
  | .tuple xs => aIs xs
  | .dict kvs => kvs.isEmpty
  | .none => true
  | .bool _ => true
  | .str _ => true
def aIs : List PyData → Bool
  | [] => true
  | x :: xs => aI x && aIs xs
end
mutual
theorem aI_show : ∀ d : PyData, aI d = true → d.showable = true
  | .int i, h => by
    simp only [aI, decide_eq_true_eq] at h
    simp only [PyData.showable, decide_eq_true_eq]
    exact PySem.Flt.log2_lt_of (by decide) (Nat.lt_of_lt_of_le h (Nat.pow_le_pow_right (by decide) (by decide)))
  | .list xs, h => by
    simp only [aI] at h
    simp only [PyData.showable]
    exact aIs_show xs h
  | .tuple xs, h => by
    simp only [aI] at h
    simp only [PyData.showable]
    exact aIs_show xs h
  | .dict kvs, h => by
    simp only [aI, List.isEmpty_iff] at h
    subst h
    simp [PyData.showable, PyData.showableKv]
  | .none, _ => by simp [PyData.showable]
  | .bool _, _ => by simp [PyData.showable]
  | .str _, _ => by simp [PyData.showable]
theorem aIs_show : ∀ ds : List PyData, aIs ds = true → PyData.showableAll ds = true
  | [], _ => by simp [PyData.showableAll]
  | d :: ds, h => by
    simp only [aIs, Bool.and_eq_true] at h
    simp only [PyData.showableAll, Bool.and_eq_true]
    exact ⟨aI_show d h.1, aIs_show ds h.2⟩
end
theorem aIs_all : ∀ {ds : List PyData}, aIs ds = true ↔ ∀ d ∈ ds, aI d = true
  | [] => by simp [aIs]
  | d :: ds => by simp [aIs, aIs_all (ds := ds)]
theorem noLs_all : ∀ {ds : List PyData}, noLs ds = true ↔ ∀ d ∈ ds, noL d = true
  | [] => by simp [noLs]
  | d :: ds => by simp [noLs, noLs_all (ds := ds)]
theorem hasD_all : ∀ {ds : List PyData}, PyData.hasDictAll ds = false ↔ ∀ d ∈ ds, d.hasDict = false
  | [] => by simp [PyData.hasDictAll]
  | d :: ds => by simp [PyData.hasDictAll, hasD_all (ds := ds)]
theorem depth_all {D : Nat} : ∀ {ds : List PyData}, (∀ d ∈ ds, d.depth ≤ D) → PyData.depthAll ds ≤ D
  | [], _ => by simp [PyData.depthAll]
  | d :: ds, h => by
    have h1 := h d List.mem_cons_self
    have h2 := depth_all (ds := ds) fun x hx => h x (List.mem_cons_of_mem _ hx)
    simp only [PyData.depthAll]
    omega
structure Gd (L : Nat) (d : PyData) : Prop where
  ai : aI d = true
  mix : d.hasDict = true → noL d = true
  deep : d.depth ≤ 20
  size : sl d ≤ L
theorem Gd.mono {L L' : Nat} {d : PyData} (h : Gd L d) (l : L ≤ L') : Gd L' d := ⟨h.ai, h.mix, h.deep, Nat.le_trans h.size l⟩
theorem Gd.rep {L : Nat} {d : PyData} (h : Gd L d) (l : L ≤ 16000000) : Rep d := ⟨aI_show d h.ai, h.mix, by have := h.deep; omega, Nat.le_trans h.size (Nat.le_trans l (by decide))⟩
/-- what follows tells, and its parts -/
inductive Cl : Nat → PyData → Prop
  | int {j : Nat} {i : Int} : i.natAbs < 2 ^ 699 → Cl j (.int i)
  | str {j : Nat} {x : Str} : sl (.str x) ≤ 100 → (PyData.str x).canLay0 = true → Cl j (.str x)
  | tup {j : Nat} {ds : List PyData} : (∀ d ∈ ds, Cl j d) → ds.length ≤ 60 → Cl (j + 1) (.tuple ds)
theorem Cl.ai {j : Nat} {d : PyData} (h : Cl j d) : aI d = true := by
  induction h with
  | int h => simp only [aI, decide_eq_true_eq]; exact Nat.lt_of_lt_of_le h (Nat.pow_le_pow_right (by decide) (by decide))
  | str _ _ => simp [aI]
  | tup _ _ ih => simp only [aI]; exact aIs_all.mpr ih
theorem Cl.noL {j : Nat} {d : PyData} (h : Cl j d) : EW.noL d = true := by
  induction h with
  | int h => simp [EW.noL]
  | str _ _ => simp [EW.noL]
  | tup _ _ ih => simp only [EW.noL]; exact noLs_all.mpr ih
theorem Cl.noD {j : Nat} {d : PyData} (h : Cl j d) : d.hasDict = false := by
  induction h with
  | int h => simp [PyData.hasDict]
  | str _ _ => simp [PyData.hasDict]
  | tup _ _ ih => simp only [PyData.hasDict]; exact hasD_all.mpr ih
theorem Cl.deep {j : Nat} {d : PyData} (h : Cl j d) : d.depth ≤ j := by
  induction h with
  | int h => simp [PyData.depth]
  | str _ _ => simp [PyData.depth]
  | tup _ _ ih => simp only [PyData.depth]; have := depth_all ih; omega
theorem canLays_all : ∀ {ds : List PyData}, PyData.canLayAll0 ds = true ↔ ∀ d ∈ ds, d.canLay0 = true
  | [] => by simp [PyData.canLayAll0]
  | d :: ds => by simp [PyData.canLayAll0, canLays_all (ds := ds)]
theorem Cl.lay {j : Nat} {d : PyData} (h : Cl j d) : d.canLay0 = true := by
  induction h with
  | int h => simp [PyData.canLay0]
  | str _ h => exact h
  | tup _ _ ih => simp only [PyData.canLay0]; exact canLays_all.mpr ih
theorem Cl.shaped {j : Nat} {d : PyData} (h : Cl j d) (hj : j ≤ 60) : SeqAt.shaped d = true := by
  show (d.canLay0 && decide (d.depth ≤ 64)) = true
  rw [Bool.and_eq_true]
  exact ⟨h.lay, decide_eq_true (by have := h.deep; omega)⟩
mutual
theorem dq_dp {K : PySem.W.Frag} {H : Hp} : ∀ {v : V} {d : PyData}, Dq K H v d → d.hasDict = false → Dp K H v d
  | _, _, .non, _ => .non
  | _, _, .bl b, _ => .bl b
  | _, _, .int i, _ => .int i
  | _, _, .str x, _ => .str x
  | _, _, .lst s a, k => .lst s (dqs_dp a (by simpa [PyData.hasDict] using k))
  | _, _, .tup s a, k => .tup s (dqs_dp a (by simpa [PyData.hasDict] using k))
  | _, _, .dct _, k => by simp [PyData.hasDict] at k
theorem dqs_dp {K : PySem.W.Frag} {H : Hp} : ∀ {vs : List V} {ds : List PyData}, DqAll K H vs ds → PyData.hasDictAll ds = false → DpAll K H vs ds
  | _, _, .nil, _ => .nil
  | _, _, .cons a t, k => by
    simp only [PyData.hasDictAll, Bool.or_eq_false_iff] at k
    exact .cons (dq_dp a k.1) (dqs_dp t k.2)
end
theorem Cl.gd {j L : Nat} {d : PyData} (h : Cl j d) (hj : j ≤ 20) (hL : sl d ≤ L) : Gd L d := ⟨h.ai, fun _ => h.noL, by have := h.deep; omega, hL⟩
/-- a tuple of parts -/
theorem gd_tup {L j : Nat} {ds : List PyData} (h : ∀ d ∈ ds, Cl j d) (hj : j ≤ 19) (hL : 3 + sls ds ≤ L) : Gd L (.tuple ds) := ⟨by simp only [aI]; exact aIs_all.mpr fun d hd => (h d hd).ai, fun _ => by simp only [noL]; exact noLs_all.mpr fun d hd => (h d hd).noL, by
  simp only [PyData.depth]
  have := depth_all (D := j) fun d hd => (h d hd).deep
  omega, Nat.le_trans (sl_tup_le ds) hL⟩
theorem gd_lst {L j : Nat} {ds : List PyData} (h : ∀ d ∈ ds, Cl j d) (hj : j ≤ 19) (hL : 3 + sls ds ≤ L) : Gd L (.list ds) where
  ai := by
    simp only [aI]
    exact aIs_all.mpr fun d hd => (h d hd).ai
  mix := fun z => by
    have := hasD_all.mpr fun d hd => (h d hd).noD
    simp only [PyData.hasDict] at z
    rw [this] at z
    exact absurd z (by decide)
  deep := by
    simp only [PyData.depth]
    have := depth_all (D := j) fun d hd => (h d hd).deep
    omega
  size := Nat.le_trans (sl_lst_le ds) hL
/-- a tuple of parts, one of them otherwise -/
theorem gd_put {L M j : Nat} {as bs : List PyData} {b : PyData} (ha : ∀ d ∈ as, Cl j d) (hb : ∀ d ∈ bs, Cl j d) (g : Gd M b) (db : b.depth ≤ 19) (hj : j ≤ 19) (hL : 3 + (sls as + (M + 2 + sls bs)) ≤ L) : Gd L (.tuple (as ++ [b] ++ bs)) := by
  have ex : ∀ {P : PyData → Prop}, (∀ d, Cl j d → P d) → P b → ∀ d ∈ as ++ [b] ++ bs, P d := fun h1 h2 d hd => by
    rcases List.mem_append.mp hd with hd | hd
    · rcases List.mem_append.mp hd with hd | hd
      · exact h1 d (ha d hd)
      · rw [List.mem_singleton.mp hd]
        exact h2
    · exact h1 d (hb d hd)
  refine ⟨?_, fun z => ?_, ?_, ?_⟩
  · simp only [aI]
    exact aIs_all.mpr (ex (fun d h => h.ai) g.ai)
  · simp only [noL]
    refine noLs_all.mpr (ex (fun d h => h.noL) (g.mix ?_))
    cases q : b.hasDict with
    | true => rfl
    | false =>
      simp only [PyData.hasDict] at z
      rw [hasD_all.mpr (ex (fun d h => h.noD) q)] at z
      cases z
  · simp only [PyData.depth]
    have := depth_all (D := 19) (ex (fun d h => by have := h.deep; omega) db)
    omega
  · have := sl_tup_le (as ++ [b] ++ bs)
    rw [sls_app, sls_app, sls_cons, sls_nil] at this
    have := g.size
    omega
theorem gd_int {L : Nat} {i : Int} (h : i.natAbs < 2 ^ 700) (hL : 701 ≤ L) : Gd L (.int i) := ⟨by simp only [aI, decide_eq_true_eq]; exact h, fun z => by simp [PyData.hasDict] at z, by simp [PyData.depth], Nat.le_trans (int_len h) hL⟩
theorem gd_str {L : Nat} {x : Str} (hL : sl (.str x) ≤ L) : Gd L (.str x) := ⟨by simp [aI], fun z => by simp [PyData.hasDict] at z, by simp [PyData.depth], hL⟩
theorem gd_non {L : Nat} (hL : 4 ≤ L) : Gd L .none := ⟨by simp [aI], fun z => by simp [PyData.hasDict] at z, by simp [PyData.depth], Nat.le_trans (by decide) hL⟩
theorem gd_bl {L : Nat} {b : Bool} (hL : 5 ≤ L) : Gd L (.bool b) := ⟨by simp [aI], fun z => by simp [PyData.hasDict] at z, by simp [PyData.depth], Nat.le_trans (by cases b <;> decide) hL⟩
theorem gd_dict {L : Nat} (hL : 2 ≤ L) : Gd L (.dict []) := ⟨by simp [aI], fun _ => by simp [noL], by simp [PyData.depth, PyData.depthKv], Nat.le_trans (by decide) hL⟩
/-- str(an int), and how it is shown -/
theorem signs_lt (x : String) : ∀ c ∈ (Str.ofString x).cps.toList, c < 16 ^ 8 := fun c hc => by
  rw [Str.ofString_eq_toList] at hc
  simp only [List.mem_map] at hc
  obtain ⟨ch, _, rfl⟩ := hc
  have := ch.val.toNat_lt
  show ch.val.toNat < 16 ^ 8
  omega
theorem sl_strInt {i : Int} (h : i.natAbs < 2 ^ 700) : sl (.str (Str.ofString (toString i))) ≤ 7100 := by
  have h1 := PySem.StrLaws.reprText_len (Str.ofString (toString i)) (signs_lt _)
  have h2 := strInt_len (i := i) (k := 700) (by decide) (Nat.lt_of_lt_of_le h (Nat.pow_le_pow_left (by decide) 700))
  show (PyData.shown (.str (Str.ofString (toString i)))).length ≤ 7100
  simp only [PyData.shown]
  omega
end EW
set_option Elab.async false
set_option linter.all false
set_option maxRecDepth 100000
set_option maxHeartbeats 4000000
set_option exponentiation.threshold 30000
namespace EW
open PySem PySem.Spec PyProof.Rows L2 Evl
/-! ### sizes of any asked data -/
theorem aI_int {i : Int} (h : aI (.int i) = true) : i.natAbs < 2 ^ 700 := by
  simpa only [aI, decide_eq_true_eq] using h
theorem aI_mem {ds : List PyData} {d : PyData} (h : aI (.tuple ds) = true) (hd : d ∈ ds) : aI d = true := by
  simp only [aI] at h
  exact aIs_all.mp h d hd
theorem aI_pdI {n i : Nat} {t : Nat → Int} (h : aI (pdI n t) = true) (hi : i < n) : (t i).natAbs < 2 ^ 700 := aI_int (aI_mem h (List.mem_map.mpr ⟨i, List.mem_range.mpr hi, rfl⟩))
theorem aI_pdZ {m j : Nat} {z : Nat → Rat} (h : aI (pdZ m z) = true) (hj : j < m) : Sz 700 (z j) := by
  have h1 := aI_mem h (List.mem_map.mpr ⟨j, List.mem_range.mpr hj, rfl⟩)
  have h2 := aI_int (aI_mem h1 (d := .int (z j).num) (by simp))
  have h3 := aI_int (aI_mem h1 (d := .int ((z j).den : Int)) (by simp))
  exact ⟨h2, by simpa using h3⟩
theorem cd_prod {s : Nat} : ∀ {m : Nat} {z : Nat → Rat}, (∀ j, j < m → Sz s (z j)) → ∃ d : Nat, 0 < d ∧ d ≤ 2 ^ (m * s) ∧ ∀ j, j < m → (z j).den ∣ d
  | 0, _, _ => ⟨1, by decide, by simp, fun j hj => absurd hj (Nat.not_lt_zero _)⟩
  | m + 1, z, h => by
    obtain ⟨d, d0, dl, hd⟩ := cd_prod (m := m) (z := z) fun j hj => h j (by omega)
    refine ⟨d * (z m).den, Nat.mul_pos d0 (den_pos' _), ?_, fun j hj => ?_⟩
    · rw [Nat.succ_mul, Nat.pow_add]
      exact Nat.mul_le_mul dl (Nat.le_of_lt (h m (by omega)).den)
    · by_cases e : j = m
      · subst e
        exact Nat.dvd_mul_left _ _
      · exact Nat.dvd_trans (hd j (by omega)) (Nat.dvd_mul_right _ _)
theorem cd_of {s m : Nat} {z : Nat → Rat} (h : ∀ j, j < m → Sz s (z j)) (m3 : m ≤ 3) (s9 : s ≤ 700) : Cd 2900 m z := by
  obtain ⟨d, d0, dl, hd⟩ := cd_prod h
  have lms : m * s ≤ 2100 := Nat.le_trans (Nat.mul_le_mul m3 s9) (by decide)
  have dl' : d < 2 ^ 2101 := Nat.lt_of_le_of_lt (Nat.le_trans dl (Nat.pow_le_pow_right (by decide) lms)) (Nat.pow_lt_pow_right (by decide) (by decide : 2100 < 2101))
  refine ⟨(d : Int), by omega, Nat.lt_of_lt_of_le (show ((d : Int)).natAbs < 2 ^ 2101 by simpa using dl') (Nat.pow_le_pow_right (by decide) (by decide : 2101 ≤ 2900)), fun j hj => ?_⟩
  obtain ⟨c, hc⟩ := hd j hj
  refine ⟨(z j).num * (c : Int), ?_, ?_⟩
  · have h1 := num_den (z j)
    have h2 := den_ne (z j)
    rw [hc]
    simp only [Int.natCast_mul, Rat.intCast_mul, Rat.intCast_natCast]
    grind
  · rw [Int.natAbs_mul, Int.natAbs_natCast]
    have c1 : c ≤ d := by
      rw [hc]
      exact Nat.le_mul_of_pos_left _ (den_pos' _)
    have := Nat.mul_lt_mul'' (h j hj).num (Nat.lt_of_le_of_lt c1 dl')
    rw [← Nat.pow_add] at this
    exact Nat.lt_of_lt_of_le this (Nat.pow_le_pow_right (by decide) (by omega))
theorem szd_of {n m : Nat} {d : PyData} (h : aI d = true) (m3 : m ≤ 3) : Szd n m 700 d where
  b := fun b u e => by
    subst e
    exact aI_int (aI_mem h (by simp))
  t := fun w b t e i hi => by
    subst e
    exact aI_pdI (aI_mem h (d := pdI n t) (by simp)) hi
  e := fun w t e i hi => by
    subst e
    exact aI_pdI (aI_mem h (d := pdI n t) (by simp)) hi
  z := fun w z e => by
    subst e
    exact cd_of (fun j hj => aI_pdZ (aI_mem h (d := pdZ m z) (by simp)) hj) m3 (by decide)
end EW
set_option Elab.async false
set_option linter.all false
set_option maxRecDepth 100000
set_option maxHeartbeats 4000000
set_option exponentiation.threshold 30000
namespace EW
open PySem PySem.Spec PyProof.Rows L2 Evl
abbrev sErrInit : Stmt := inClass (top 1) 0
/-- the text of EndsError.__init__, at fI; D the class, cc its cell, cda the code -/
structure ErrTxt (prog : Program) (K : PySem.W.Frag) (D fI cc cda : Addr) : Prop where
  fn : ∃ (oc : Value) (od : Option Addr) (doc pm : Value) (an : Option Addr) (ct : Value) (osl : Array (Option Value)),
    K.lookup fI = some ⟨oc, od, .func (PySem.W.ksFn "__init__" "EndsError.__init__" (defArgs sErrInit) (defBody sErrInit) (defScope sErrInit) .none .none doc pm an (.ref cda) ct cc), osl⟩ ∧ PySem.W.codeIn K (.ref cda) "EndsError.__init__" = true
  code : ∃ (ccl : Value) (cdd : Option Addr) (vs : Array Value) (ccs : Array (Option Value)) (file : Str) (tf : Tok), K.lookup cda = some ⟨ccl, cdd, .fields vs, ccs⟩ ∧ vs[2]? = some (.str file tf) ∧ ((prog.main.file : Str) == file) = true
  cell : ∃ (cl : Value) (cld : Option Addr) (csl : Array (Option Value)), K.lookup cc = some ⟨cl, cld, .cell (some (.ref D)), csl⟩
  clsD : ∃ cdD, PySem.W.clsIn K D = some cdD
  sup : PySem.W.nsIn K mainGlobals "super" = some none
  topS : (prog.main.scope.names.lookup ("super" : Str)).isSome = false
  opq : PySem.W.nsIn K cStatics "thirdparty.any" = some none
  tI : PySem.W.typeIn K (.ref fI) = some (.type "function")
/-- a class below it, at C -/
structure ErrCls (K : PySem.W.Frag) (D C fI : Addr) : Prop where
  cls : ∃ nm q N bs bm sn sub ab col dd k0 k1 k2 k3 k5, K.lookup C = some (excClassObj nm q C N bs bm true sn sub ab col dd k0 k1 k2 k3 k5 "ValueError.__new__") ∧ PySem.HandSPX.refsVE bm = true
  sa : PySem.W.findIn K (.ref C) "__setattr__" = some (some (.builtin "object.__setattr__"))
  noV : PySem.W.findIn K (.ref C) "value" = some none
  iC : PySem.W.findIn K (.ref C) "__init__" = some (some (.ref fI))
  kC : PySem.W.keepIn K (.ref C) = true
  exC : PySem.W.subIn K (.ref C) (.type "BaseException") = some true
  tyC : PySem.W.typeIn K (.ref C) = some (.type "type")
  subD : PySem.W.mroIn K C (.ref D) = some true
  supI : PySem.W.ks_superIn K C D "__init__" = some (some (.builtin "ValueError.__init__"))
  subV : PySem.W.subIn K (.ref C) (.type "ValueError") = some true
open PySem.W PySem.Calls PySem.HandSPX in
/-- the built-in __init__, bound to a fresh exception, called -/
theorem call_mw {prog : Program} {w : World} {A : Around} {E : Value → Shared → Prop} {s : Shared} {C u e t0 : Addr} {rest : List Value} {Q : Value → Shared → Prop} {nm q : Str} {N : Addr} {bs bm : List Value} {hdct : Bool} {sn : List Str} {sub : List Value} {ab : Bool} {col : Option Bool} {dd : Option Addr} {k0 k1 k2 k3 k5 : Option Value}
    (hC : s.heap.get? C = some (excClassObj nm q C N bs bm hdct sn sub ab col dd k0 k1 k2 k3 k5 "ValueError.__new__")) (he : s.heap.get? e = some (excO C t0)) (hu : s.heap.get? u = some (kxs_mw "ValueError.__init__" e)) (hz : rest.length ≤ sizeLine)
    (hq : ∀ h' t1, (∀ b o, b ≠ e → s.heap.get? b = some o → h'.get? b = some o) → h'.get? e = some (excO C t1) → Q .none { s with heap := h' }) : wpAny (model prog w) A (call (.ref u) rest) Q E s := by
  obtain ⟨hh, g, d, tk, os⟩ := s
  refine wpAny_call (codeAny_of_tree ?_)
  show wpAny _ A.in1 (callAny (.ref u) ⟨rest, []⟩) _ _ _
  simp only [callAny]
  refine wpAny_bind (wpAny_load hu ?_)
  simp only [kxs_mw, show (Value.type "method-wrapper" == Value.type "method" || Value.type "method-wrapper" == Value.type "builtin_function_or_method" || Value.type "method-wrapper" == Value.type "method-wrapper") = true by decide, if_true]
  refine KFB.if_so (by decide) ?_
  refine wpAny_bind (check_bound_init (F.excBase_ValueError).toExcCallFacts hC he rfl ?_)
  refine wpAny_bind (wpAny_pure (wpAny_pure ?_))
  refine ⟨plainId_quiet (F.excBase_ValueError).init.plain _, codeAny_builtin (F.excBase_ValueError).initEntry ?_⟩
  exact exc_init_tree (cls := .ref C) (t0 := t0) (dv := none) (c2 := .none) (c3 := .none) (b4 := .bool false) he hz fun h' k e' _ => hq h' _ k e'
end EW
set_option Elab.async false
set_option linter.all false
set_option maxRecDepth 100000
set_option maxHeartbeats 4000000
set_option exponentiation.threshold 30000
namespace EW
open PySem PySem.Spec PyProof.Rows L2 Evl
open PySem.W PySem.Calls PySem.HandSPX in
theorem err_init {prog : Program} {w : World} {A : Around} {R : Result → Shared → Prop} {s : Shared} {K : PySem.W.Frag} {mg : Str → Option Value} {D C fI cc cda x t0 : Addr} {v : Value} (T : ErrTxt prog K D fI cc cda) (U : ErrCls K D C fI) (X : K.In s.heap) (hlim : s.heap.NoLimit) (G : s.heap.Ns mainGlobals mg)
    (B : ∃ mb, s.heap.Ns builtinsNs mb ∧ ∀ y : Str, y ≠ "__name__" → mb y = bootBuiltins y) (hx : s.heap.get? x = some (excO C t0)) (hnx : K.lookup x = none) (hroom : A.depth < recursionLimit)
    (hq : ∀ h' tk dx t1, (∀ b o, b ≠ x → s.heap.get? b = some o → h'.get? b = some o) → h'.get? x = some { cls := .ref C, dict := some dx, data := .fields #[.ref t1, .none, .none, .none, .bool false, .none] } → s.heap.objs.size ≤ dx → dx ≠ x → h'.Ns1 dx (fun y => if y = "value" then some v else none) → R (.ok (.ret .none)) { s with heap := h', toks := tk }) :
    codeAny (model prog w) A (.call (.ref fI) ⟨[.ref x, v], []⟩) R s := by
  obtain ⟨oc, od, doc, pm, an, ct, osl, ho, hcd⟩ := T.fn
  obtain ⟨ccl, cdd, vs, ccs, file, tf, hcode, hvs, hfile⟩ := T.code
  obtain ⟨cl, cld, csl, hcell⟩ := T.cell
  obtain ⟨cdD, hD⟩ := T.clsD
  obtain ⟨nm, q, N, bs, bm, sn, sub, ab, col, dd, k0, k1, k2, k3, k5, hC, hbm⟩ := U.cls
  obtain ⟨mb, hB, hboot⟩ := B
  have hcl : clsIn K C = some { name := nm, bases := bs, mro := .ref C :: bm, ns := N, qualname := q, hasDict := true, slotNames := sn, subclasses := sub, abstract := ab, collection := col, hasDel := false } := by unfold clsIn; rw [hC] <;> rfl
  refine ks_codeAny_call_defAt (fd := ksFn "__init__" "EndsError.__init__" (defArgs sErrInit) (defBody sErrInit) (defScope sErrInit) .none .none doc pm an (.ref cda) ct cc) (binds := [("self", .ref x), ("value", v)]) hroom (X _ _ ho) rfl hlim (codeRec_of X hcd) rfl (BindsTo.of_eq rfl) (show ∀ y ∈ (defScope sErrInit).names, y.2 ≠ .cell by decide +kernel) (locs rfl) (fun h₀ hns hk => ?_)
  have X0 : K.In h₀ := X.keeps hk
  have hx0 := hk _ _ hx
  have lx : ∀ {b : Addr} {o : Obj}, s.heap.get? b = some o → b ≠ s.heap.objs.size := fun e => Nat.ne_of_lt (Heap.lt_size e)
  refine ks_wpAt_execs_cons (ks_wpAt_Expr_any (ks_wpAt_MethodCall (o := .Call (.Name "super" ⟨5, 8, 5, 13⟩) [] [] ⟨5, 8, 5, 15⟩) (name := "__init__") (args := [.Name "value" ⟨5, 25, 5, 30⟩]) ?_))
  have nsL : ∀ {h' : Heap}, (∀ b o, h₀.get? b = some o → h'.get? b = some o) → h'.Ns s.heap.objs.size (fun y => ([("self", Value.ref x), ("value", v)] : List (Str × Value)).reverse.lookup y) := fun k => by
    obtain ⟨o, es, ep, e, r⟩ := hns
    exact ⟨o, es, ep, k _ _ e, r⟩
  refine ks_wpAt_super_base (env := ksEnv "EndsError.__init__" (defScope sErrInit) s.heap.objs.size fI (.ref cda) cc) rfl rfl (by decide) rfl (X0 _ _ ho) rfl rfl rfl (X0 _ _ hcode) rfl hvs hfile T.topS ?_
  refine ks_loadName_global rfl rfl (loadGlobal_builtin (env := ksEnv "EndsError.__init__" (defScope sErrInit) s.heap.objs.size fI (.ref cda) cc) (G.keeps hk) (mg_none_of X G T.sup) (hB.keeps hk) ((hboot _ (by decide +kernel)).trans Boot.«super») ⟨rfl, ?_⟩)
  refine wpAny_loadName_free rfl rfl rfl ⟨_, X0 _ _ hcell, rfl⟩ ?_
  refine wpAny_loadName_local rfl rfl hns (by first | rfl | with_unfolding_all rfl | kernel_rfl) ?_
  obtain ⟨oD, hD1, hD2⟩ : ∃ oD, h₀.get? D = some oD ∧ oD.data = .cls cdD := by
    unfold clsIn at hD
    split at hD
    · rename_i c d cd' sl hoD
      cases hD
      exact ⟨_, X0 _ _ hoD, rfl⟩
    · cases hD
  refine ks_wpAny_isType_cls hD1 hD2 ⟨rfl, ?_⟩
  refine ks_wpAny_call_super hD1 hD2 hx0 rfl (fun c e => by cases e) (looks_mroIn X0 U.subD) (fun h1 e1 hk1 => ?_)
  have X1 : K.In h1 := X0.keeps hk1
  have hx1 := hk1 _ _ hx0
  -- the method
  have I1 : InstAt h1 x (excO C t0) C none := ⟨hx1, rfl, rfl, trivial⟩
  have hsI : W.alongIn K "__init__" ((((Value.ref C :: bm) : List Value).dropWhile (· != .ref D)).drop 1) = some (some (.builtin "ValueError.__init__")) := by
    have z := U.supI
    unfold ks_superIn at z
    rw [hcl] at z
    exact z
  refine kxs_getMethod kxs_ValueError e1 (looks_opaque X1 T.opq) (l₀ := .ref C :: bm) (fun A Q E s k q => wpAny_bind ((looks_clsIn X1 hcl) A _ E s k (wpAny_pure q))) rfl X1 hsI (I1.type.andThen (looks_subIn X1 U.subV)) (ks_ne X1 I1 hcl) (by decide) ?_
  have hk2 : ∀ b o, h1.get? b = some o → (h1.push (kxs_mw "ValueError.__init__" x)).get? b = some o := fun b o e => Heap.get?_push_of_some _ e
  have hw2 : (h1.push (kxs_mw "ValueError.__init__" x)).get? h1.objs.size = some (kxs_mw "ValueError.__init__" x) := Heap.get?_push_at rfl rfl
  have hx2 := hk2 _ _ hx1
  have hk02 : ∀ b o, h₀.get? b = some o → (h1.push (kxs_mw "ValueError.__init__" x)).get? b = some o := fun b o e => hk2 b o (hk1 b o e)
  generalize hH2 : h1.push (kxs_mw "ValueError.__init__" x) = h2 at hk2 hw2 hx2 hk02 ⊢
  have ns2 := nsL hk02
  refine kxs_callWith (i := "ValueError.__init__") (x := x) (by rfl) (evalArgs_plain ?_)
  refine Calls.spliced_cons (wpAny_Name (wpAny_loadName_local rfl rfl ns2 (v := v) (by first | rfl | with_unfolding_all rfl | kernel_rfl) ?_) (by decide))
  refine Calls.spliced_nil ⟨hw2, ?_⟩
  refine call_mw ((X0.keeps hk02) _ _ hC) hx2 hw2 (by show 1 ≤ sizeLine; decide) fun h3 t1 k3 e3 => ?_
  have k13 : ∀ b o, b ≠ x → h₀.get? b = some o → h3.get? b = some o := fun b o hb e => k3 b o hb (hk02 b o e)
  have xL : x ≠ s.heap.objs.size := Nat.ne_of_lt (Heap.lt_size hx)
  have ns3 : h3.Ns s.heap.objs.size (fun y => ([("self", Value.ref x), ("value", v)] : List (Str × Value)).reverse.lookup y) := by
    obtain ⟨o, es, ep, e, r⟩ := hns
    exact ⟨o, es, ep, k13 _ _ xL.symm e, r⟩
  have X3 : K.In h3 := fun a o e => k13 a o (fun z => by rw [z, hnx] at e; cases e) (X0 a o e)
  refine ks_wpAt_execs_cons (ks_wpAt_Assign_Attr (wpAt_of_wpAny ?_))
  refine wpAny_Name (wpAny_loadName_local rfl rfl ns3 (v := v) (by first | rfl | with_unfolding_all rfl | kernel_rfl) ?_) (by decide)
  refine wpAny_Name (wpAny_loadName_local rfl rfl ns3 (v := .ref x) (by first | rfl | with_unfolding_all rfl | kernel_rfl) ?_) (by decide)
  refine set_plain X3 (ox := excO C t1) (od := none) ⟨e3, rfl, rfl, trivial⟩ U.sa ?_
  refine exc_osa X3 e3 hcl (show refsVE (.ref C :: bm) = true from hbm) rfl U.noV (fun h4 tk4 dx k4 dn dne hx4 hn4 => ?_)
  refine wpAt_of_wpAny (wpAny_execs_nil ?_)
  have z0 : s.heap.objs.size < h₀.objs.size := hns.lt
  have z3 : s.heap.objs.size < h3.objs.size := ns3.lt
  exact hq h4 tk4 dx t1 (fun b o hb e => k4 b o hb (k13 b o hb (hk b o e))) hx4 (Nat.le_of_lt (Nat.lt_of_lt_of_le z3 dn)) dne hn4
end EW
set_option Elab.async false
set_option linter.all false
set_option maxRecDepth 100000
set_option maxHeartbeats 4000000
set_option exponentiation.threshold 30000
namespace EW
open PySem PySem.Spec PyProof.Rows L2 Evl
/-- a made one: what stood stands, e the error, d its dict -/
structure ErrMade (h h' : Heap) (e C d t1 : Addr) (v : Value) : Prop where
  keep : ∀ b o, h.get? b = some o → h'.get? b = some o
  big : h.objs.size ≤ e
  obj : h'.get? e = some { cls := .ref C, dict := some d, data := .fields #[.ref t1, .none, .none, .none, .bool false, .none] }
  dbig : h.objs.size ≤ d
  dne : d ≠ e
  ns : h'.Ns1 d (fun y => if y = "value" then some v else none)
open PySem.W PySem.Calls PySem.HandSPX in
theorem err_made {prog : Program} {w : World} {A : Around} {R : Result → Shared → Prop} {s : Shared} {K : PySem.W.Frag} {mg : Str → Option Value} {D C fI cc cda : Addr} {v : Value} (T : ErrTxt prog K D fI cc cda) (U : ErrCls K D C fI) (X : K.In s.heap) (hlim : s.heap.NoLimit) (G : s.heap.Ns mainGlobals mg)
    (B : ∃ mb, s.heap.Ns builtinsNs mb ∧ ∀ y : Str, y ≠ "__name__" → mb y = bootBuiltins y) (hroom : A.depth + 1 < recursionLimit)
    (hq : ∀ h' tk e d t1, ErrMade s.heap h' e C d t1 v → R (.ok (.ret (.ref e))) { s with heap := h', toks := tk }) : codeAny (model prog w) A (.call (.ref C) ⟨[v], []⟩) R s := by
  obtain ⟨nm, q, N, bs, bm, sn, sub, ab, col, dd, k0, k1, k2, k3, k5, hC, hbm⟩ := U.cls
  obtain ⟨mb, hB, hboot⟩ := B
  obtain ⟨hp, g, dr, tk, os⟩ := s
  have k : ∀ b o, hp.get? b = some o → ((hp.push (kdv_tup [v])).push (excO C hp.objs.size)).get? b = some o := fun b o e => Heap.get?_push_of_some _ (Heap.get?_push_of_some _ e)
  have hget : ((hp.push (kdv_tup [v])).push (excO C hp.objs.size)).get? (hp.objs.size + 1) = some (excO C hp.objs.size) := by heap_get
  have hnx : K.lookup (hp.objs.size + 1) = none := by
    cases e : K.lookup (hp.objs.size + 1) with
    | none => rfl
    | some o => exact absurd (Nat.lt_of_succ_lt (Heap.lt_size (X _ _ e : hp.get? _ = some o))) (Nat.lt_irrefl _)
  refine call_own F.excBase_ValueError (fun Y => refsVE_contains Y bm hbm) (X _ _ hC) (looks_findIn X U.iC) (fun self => bind_fn X self T.tI) (by show 1 ≤ sizeLine; decide) ?_
  refine err_init (s := ⟨(hp.push (kdv_tup [v])).push (excO C hp.objs.size), g, dr, tk, os⟩) T U (X.keeps k) (hlim.keeps k) (G.keeps k) ⟨mb, hB.keeps k, hboot⟩ hget hnx hroom fun h' tk' dx t1 k' hx dn dne hns => ?_
  have lt1 : ∀ {b : Addr} {o : Obj}, hp.get? b = some o → b ≠ hp.objs.size + 1 := fun e => Nat.ne_of_lt (Nat.lt_succ_of_lt (Heap.lt_size e))
  have z : hp.objs.size + 1 + 1 ≤ dx := by
    have y := dn
    rw [Heap.size_push, Heap.size_push] at y
    exact y
  exact ⟨rfl, hq h' tk' (hp.objs.size + 1) dx t1 ⟨fun b o e => k' b o (lt1 e) (k b o e), Nat.le_succ _, hx, Nat.le_trans (Nat.le_trans (Nat.le_succ _) (Nat.le_succ _)) z, dne, hns⟩⟩
theorem relO_value {v : V} {v' : Value} (r : RelV v v') (f : Str) : RelO (List.lookup f [(("value" : Str), v)]) (if f = "value" then some v' else none) := by
  by_cases hw : f = "value"
  · subst hw
    rw [if_pos rfl]
    have y : List.lookup ("value" : Str) [(("value" : Str), v)] = some v := by simp [List.lookup]
    rw [y]
    exact r
  · have y : (f == ("value" : Str)) = false := by simpa using hw
    rw [if_neg hw, show List.lookup f [(("value" : Str), v)] = none by simp [List.lookup, y]]
    trivial
section
variable {X : Cx} {D C fI cc cda : Addr}
/-- BadRows(e) -/
def tMkE (C : Addr) (ta : TA) : L2.St → Hp → XK → Prop := fun σ H Q => ta σ H fun vs H1 => ∃ v, vs = [v] ∧ ∀ d, H1 d = none → Q (.ref C) (some d) (upd H1 d (.xd [(("value" : Str), v)]))
theorem pmk_err {x : Str} {a : Expr} {ta : TA} {p pos : Pos} {k : Nat} (T : ErrTxt X.prog X.K D fI cc cda) (U : ErrCls X.K D C fI) (gC : X.mg x = some (.ref C)) (hr : Room k X.A) (ha : PA X [a] ta) (hg : Gl X x := by rfl) (hdb : (x == ("__debug__" : Str)) = false := by decide)
    (he : starEach (a :: []) X.env = (false, eval a X.env) :: starEach [] X.env := by rfl) (hpl : (backTo pos (starEach [] X.env)).any (·.1) = false := by rfl) : PMk X (.Call (.Name x p) [a] [] pos) (tMkE C ta) := by
  intro pins s σ H Q I h
  refine wpAny_Call_Name_kw (ld_glob I hg gC ?_ hdb)
  refine PySem.W.callWith_K (h₀ := X.base) I.ok.mod.kin U.kC (thn (ha.run pos pins s σ H _ I h) fun us s1 hh => ?_) he hpl
  obtain ⟨vs, H1, I1, r1, v, ev, q1⟩ := hh
  subst ev
  refine ⟨I1.kIn, ?_⟩
  obtain ⟨v', rfl, rv⟩ := vals1 r1
  show wpAny _ _ (call (.ref C) [v']) _ _ _
  have hlim := I1.nolimit
  have hG := I1.mod.glob.keeps I1.bk
  have hB : ∃ mb, s1.heap.Ns builtinsNs mb ∧ ∀ y : Str, y ≠ "__name__" → mb y = bootBuiltins y := by
    obtain ⟨mb, b1, b2⟩ := I1.ok.mod.blt
    exact ⟨mb, b1.keeps I1.bk, b2⟩
  have kin := I1.kIn
  obtain ⟨hp, g, dr, tk, os⟩ := s1
  refine wpAny_call (err_made T U kin hlim hG hB (by have := hr.dp; omega) fun h' tk' e d t1 M => ?_)
  show MkP X pins σ Q (.ref e) ⟨h', g, dr, tk', os⟩
  obtain ⟨G', g1, g2⟩ := restrict h' fun b => decide (b ≠ e)
  have gk : ∀ b, b ≠ e → G'.get? b = h'.get? b := fun b hb => g1 b (decide_eq_true hb)
  have ge : G'.get? e = none := g2 e (by simp)
  have ne_e : ∀ {b : Addr} {o : Obj}, hp.get? b = some o → b ≠ e := fun q => Nat.ne_of_lt (Nat.lt_of_lt_of_le (Heap.lt_size q) M.big)
  have ob : ObjOk X.prog X.w (upd H1 d (.xd [(("value" : Str), v)])) G' d (.xd [(("value" : Str), v)]) := ⟨_, M.ns.at (fun o q => (gk d M.dne).trans q), fun f => relO_value rv f⟩
  have J : Inv X pins σ (upd H1 d (.xd [(("value" : Str), v)])) ⟨G', g, dr, tk', os⟩ := I1.laid (t' := tk') (fun b o q => (gk b (ne_e q)).trans (M.keep b o q)) M.dbig ob
  refine ⟨e, _, _, ⟨G', g, dr, tk', os⟩, _, .ref C, some d, rfl, J, fun b o q => ?_, ge, M.obj, ⟨rfl, rfl⟩, rfl, rfl, ?_, rfl, I1.bare, raises_own U.exC U.tyC, q1 d (I1.hok.fresh M.dbig)⟩
  · by_cases hb : b = e
    · have q' : G'.get? b = some o := q
      rw [hb, ge] at q'
      cases q'
    · exact (gk b hb).symm.trans q
  · rw [upd_ne (Ne.symm M.dne)]
    exact I1.hok.fresh M.big
end
end EW
set_option Elab.async false
set_option linter.all false
set_option maxRecDepth 100000
set_option maxHeartbeats 4000000
set_option exponentiation.threshold 30000
namespace EW
open PySem PySem.Spec PyProof.Rows L2 Evl
section
variable {X : Cx} {pins : List (Addr × Obj)} {σ : L2.St} {H : Hp} {s : Shared}
/-- what came since the entry may be looked after from now on -/
theorem inv_track {a : Addr} {o : HO} (I : Inv X pins σ H s) (n0 : X.s_0.heap.get? a = none) (na : H a = none) (nL : a ≠ X.env.locals) (nc : ∀ y c, X.env.cells.lookup y = some c → c ≠ a) (np : ∀ p ∈ X.pn ++ pins, p.1 ≠ a)
    (new : ObjOk X.prog X.w (upd H a o) s.heap a o) : Inv X pins σ (upd H a o) s where
  ok := I.ok
  os := I.os
  bare := I.bare
  base := {
    keep := I.base.keep
    slot := I.base.slot
    there := I.base.there
    free := fun b u e n x => by
      have nb : b ≠ a := fun z => by
        rw [z, n0] at e
        cases e
      rw [upd_ne nb]
      exact I.base.free b u e n x
    tups := fun b xs e => by
      have y := I.base.tups b xs e
      rw [upd_ne (ne_of_none y na)]
      exact y
    frzs := fun b u v e => by
      have y := I.base.frzs b u v e
      rw [upd_ne (ne_of_none y na)]
      exact y
    tbls := fun b ps e => by
      obtain ⟨more, y⟩ := I.base.tbls b ps e
      exact ⟨more, by rw [upd_ne (ne_of_none y na)]; exact y⟩ }
  loc := I.loc
  cell := I.cell
  free := by
    rw [upd_ne nL.symm]
    exact I.free
  freeC := fun y c e => by
    rw [upd_ne (nc y c e)]
    exact I.freeC y c e
  pin := fun p hp => by
    obtain ⟨h1, h2, h3⟩ := I.pin p hp
    exact ⟨h1, by rw [upd_ne (np p hp)]; exact h2, h3⟩
  hok := I.hok.laidN (fun _ _ q => q) na new
  len := I.len
/-- an error that was caught, at a -/
def ErO (cls : Value) (d : Option Addr) (a : Addr) : HO := .ext fun h => ∃ (oe : Obj) (vs : Array Value), h.get? a = some oe ∧ Zc cls d oe ∧ oe.data = .fields vs
theorem erO_ok {P : Program} {w : World} {h : Heap} {a : Addr} {cls : Value} {d : Option Addr} {oe : Obj} {vs : Array Value} (e : h.get? a = some oe) (z : Zc cls d oe) (y : oe.data = .fields vs) : ObjOk P w H h a (ErO cls d a) :=
  ⟨⟨oe, vs, e, z, y⟩, ⟨oe, e⟩, fun h1 h2 ⟨o1, v1, e1, z1, y1⟩ st => ⟨o1, v1, st _ e1, z1, y1⟩⟩
theorem erO_at {P : Program} {w : World} {h : Heap} {a : Addr} {cls : Value} {d : Option Addr} (hok : HOk P w H h) (e : H a = some (ErO cls d a)) : ∃ (oe : Obj) (vs : Array Value), h.get? a = some oe ∧ Zc cls d oe ∧ oe.data = .fields vs := by
  have x : ObjOk P w H h a (.ext fun h => ∃ (oe : Obj) (vs : Array Value), h.get? a = some oe ∧ Zc cls d oe ∧ oe.data = .fields vs) := hok a _ e
  exact x.1
end
/-- while it is handled -/
abbrev hot (X : Cx) (a : Addr) (pn : List (Addr × Obj)) : Cx := X.suite a pn
/-- the wish of «except x as n», every error of the body being one that it takes; slot i is n's -/
def wTrk (K : PySem.W.Frag) (c : Value) (i : Nat) (ts : Addr → TS) (D : Ends) : WX := fun cls d σ H =>
  PySem.W.exmOne K cls c = some true ∧ ∀ a, H a = none → ts a { nx := fun σ' G => D.nx (σ'.set i none) G, rt := D.rt, bk := fun σ' G => D.bk (σ'.set i none) G, ct := fun σ' G => D.ct (σ'.set i none) G } (σ.set i (some (.ref a))) (upd H a (ErO cls d a))
section
variable {X : Cx} {x n : Str} {c : Value} {i : Nat} {body rest : List Stmt} {b₀ : Stmt} {np pos pos' : Pos} {tb : WX → TS} {ts : Addr → TS}
theorem hot_back {pins pn' : List (Addr × Obj)} {σ : L2.St} {H : Hp} {s : Shared} {a : Addr} (I : Inv (hot X a (X.pn ++ pins)) pn' σ H s) (ok : X.Ok) : Inv X pins σ H s :=
  ⟨ok, I.os, I.bare, I.base, I.loc, I.cell, I.free, I.freeC, fun p hp => I.pin p (List.mem_append_left _ hp), I.hok, I.len⟩
theorem hot_to {pins : List (Addr × Obj)} {σ : L2.St} {H : Hp} {s : Shared} (a : Addr) (I : Inv X pins σ H s) : Inv (hot X a (X.pn ++ pins)) [] σ H s :=
  ⟨I.ok.suite _ _, I.os, I.bare, I.base, I.loc, I.cell, I.free, I.freeC, fun p hp => I.pin p (by rw [List.append_nil] at hp; exact hp), I.hok, I.len⟩
theorem ps_try_trk (hs : X.stack = X.env :: X.outer) (hf : X.env.frame = some X.env.locals) (hex : X.ex = []) (hN : X.N.Nodup) (hi : X.N[i]? = some n) (hln : X.env.kindOf n = some .local) (hc : Names X x c)
    (hb : ∀ (W : WX) (pn : List (Addr × Obj)) (xe : Value → Shared → Prop), Takes (X.tr pn xe) W → PSs (X.tr pn xe) body (tb W)) (hsu : ∀ (a : Addr) (pn : List (Addr × Obj)), PSs (hot X a pn) (b₀ :: rest) (ts a)) :
    PS X (.Try body [.ExceptHandler (some (.Name x np)) (some n) (b₀ :: rest) pos'] [] [] pos) (fun D σ H => tb (wTrk X.K c i ts D) D σ H) := by
  refine ⟨fun pins s σ H D I h => ?_⟩
  have ok := I.ok
  have frm : X.A.frames = some (X.env :: X.outer) := by rw [ok.frames, hs]
  refine wpAny_Try_except ?_
  have run := (hb (wTrk X.K c i ts D) (X.pn ++ pins) (fun e z => wpAny (model X.prog X.w) X.A (noteFrame e X.env) (fun _ z2 => wpAny (model X.prog X.w) X.A (setFlight e none)
    (fun _ z3 => wpAny (model X.prog X.w) X.A (handleBy e X.env [.ExceptHandler (some (.Name x np)) (some n) (b₀ :: rest) pos']) (SP X pins D) X.xe z3) X.xe z2) X.xe z) (fun u z xx => ?_)).run [] s σ H D (I.toTry _) h
  · refine wpAny_mono run (fun f z q => ?_) fun _ _ q => q
    cases f with
    | next =>
      obtain ⟨σ1, G, J, q⟩ := q
      exact wpAny_execs_nil ⟨σ1, G, J.ofTry ok, q⟩
    | ret u =>
      obtain ⟨v, σ1, G, J, r, q⟩ := q
      exact ⟨v, σ1, G, J.ofTry ok, r, q⟩
    | brk =>
      obtain ⟨σ1, G, J, q⟩ := q
      exact ⟨σ1, G, J.ofTry ok, q⟩
    | cont =>
      obtain ⟨σ1, G, J, q⟩ := q
      exact ⟨σ1, G, J.ofTry ok, q⟩
  · obtain ⟨a, B, sI, pins1, σ1, G, cls, d, rfl, J0, nb, up, sky, na, os, ag, hcls, hyes⟩ := xx
    have J : Inv X pins σ1 G sI := J0.ofTry ok
    have sky1 : Sky B (X.env :: X.outer) a (Zc cls d) X.env.locals z.heap := hs ▸ sky
    show wpAny (model X.prog X.w) X.A (noteFrame (.ref a) X.env) _ _ _
    refine Sky.land Zc.steady frm hf sky1 fun h3 fl3 up3 => ?_
    obtain ⟨oe3, vs3, he3, hz3, hd3⟩ := fl3.there
    have far : a ∉ frs (X.env :: X.outer) := fun hm => by
      obtain ⟨_, o1, e1, hnf⟩ := fl3.2.2.1.mem hm
      rw [he3] at e1
      cases e1
      exact hnf _ hd3
    have nL : a ≠ X.env.locals := fun y => far (List.mem_filterMap.mpr ⟨X.env, List.mem_cons_self, by rw [hf, y]⟩)
    have gone : sI.heap.get? a = none := by
      cases e : sI.heap.get? a with
      | none => rfl
      | some o =>
        have y := nb a o e (by rw [hs]; exact far)
        have y2 : B.get? a = none := fl3.2.1
        rw [y2] at y
        cases y
    have J3 : Inv X pins σ1 G { z with heap := h3 } := J.landed nb fl3.1 (up.trans up3) os ag
    have S3 := hot_to a J3
    refine wpAny_handleBy_cons (codeAny_handlers_test ?_) (by intro q; cases q)
    have LT : PySem.W.Looks (model X.prog X.w) h3 (typeOf (.ref a)) cls := fun A Q E s k q => wpAny_typeOf_ref (k _ _ he3) (by rw [hz3.1]; exact q)
    have LM := PySem.W.exm_one (M := model X.prog X.w) (J3.kIn) LT hcls
    have test : ∀ {Q : Value → Shared → Prop} {E : Value → Shared → Prop}, Q c { z with heap := h3 } → wpAny (model X.prog X.w) (X.A.mark (some (.ref a))) (eval (.Name x np) X.env) Q E { z with heap := h3 } := fun {Q E} q => by
      obtain ⟨hg, hdbg, y | ⟨y, hv, hnn⟩⟩ := hc
      · exact ld_glob (X := hot X a (X.pn ++ pins)) S3 hg y q hdbg
      · exact ld_blt (X := hot X a (X.pn ++ pins)) S3 hg y hv q hnn hdbg
    refine test (LM.here ?_)
    refine codeAny_handlers_suite_as (HandSPX.lands_againZ fl3 fun h4 fl4 up4 => ?_)
    obtain ⟨oe4, vs4, he4, hz4, hd4⟩ := fl4.there
    have J4 : Inv X pins σ1 G { z with heap := h4 } := J.landed nb fl4.1 ((up.trans up3).trans up4) os ag
    have n0 : X.s_0.heap.get? a = none := by
      cases e : X.s_0.heap.get? a with
      | none => rfl
      | some o =>
        obtain ⟨o', y⟩ := J.base.there a o e (by rw [hex]; simp)
        rw [gone] at y
        cases y
    have nc : ∀ y c, X.env.cells.lookup y = some c → c ≠ a := fun y c e ec => by
      subst ec
      obtain ⟨v, o, h1, h2⟩ := J4.cell y c e
      have h1' : h4.get? c = some o := h1
      rw [he4] at h1'
      cases h1'
      rw [hd4] at h2
      cases h2
    have npn : ∀ p ∈ X.pn ++ pins, p.1 ≠ a := fun p hp e => by
      have y := (J.pin p hp).1
      rw [e, gone] at y
      cases y
    have T4 : Inv X pins σ1 (upd G a (ErO cls d a)) { z with heap := h4 } := inv_track J4 n0 na nL nc npn (erO_ok he4 hz4 hd4)
    have S4 := hot_to a T4
    refine store_ok (X := hot X a (X.pn ++ pins)) (v := .ref a) S4 hN hi (.inl hln) rfl (fun s5 S5 => ?_) (.inr hln)
    refine wpAny_mono ((hsu a (X.pn ++ pins)).run [] s5 _ _ _ S5 (hyes a na)) (fun f s6 q => ?_) (fun _ _ y => False.elim y)
    have fin : ∀ {σ6 : L2.St} {H6 : Hp} {Q : Shared → Prop}, Inv (hot X a (X.pn ++ pins)) [] σ6 H6 s6 → (∀ s7, Inv X pins (σ6.set i none) H6 s7 → Q s7) → wpAny (model X.prog X.w) X.A (do bindName X.env n .none; unbindBehindTheSuite X.env n pos') (fun _ s7 => Q s7) X.xe s6 :=
      fun S6 hq => gone_ok (hot_back S6 ok) hN hi hln hq
    cases f with
    | ret u =>
      obtain ⟨v6, σ6, H6, S6, r6, q6⟩ := q
      exact fin S6 fun s7 J7 => ⟨_, _, _, J7, r6, q6⟩
    | next =>
      obtain ⟨σ6, H6, S6, q6⟩ := q
      exact fin S6 fun s7 J7 => ⟨_, _, J7, q6⟩
    | brk =>
      obtain ⟨σ6, H6, S6, q6⟩ := q
      exact fin S6 fun s7 J7 => ⟨_, _, J7, q6⟩
    | cont =>
      obtain ⟨σ6, H6, S6, q6⟩ := q
      exact fin S6 fun s7 J7 => ⟨_, _, J7, q6⟩
end
end EW
set_option Elab.async false
set_option linter.all false
set_option maxRecDepth 100000
set_option maxHeartbeats 4000000
set_option exponentiation.threshold 10000
namespace EW
open PySem PySem.Spec PyProof.Rows L2 Evl
section
variable {P : Program} {w : World} {K : PySem.W.Frag} {mg : Str → Option Value} {base : Heap}
abbrev sHolds : Stmt := top 47
abbrev nHolds : List Str := ["many", "rows", "times", "spot"]
def HoP (K : PySem.W.Frag) (n m : Nat) (R : Nat → Row) : V → Hp → Prop := fun v H => (v = .non ∧ ∀ z, ¬ Hold m n R z) ∨ ∃ z, FrsT K m z v H ∧ Cd 113 m z ∧ Hold m n R z
def spHolds (K : PySem.W.Frag) : Sp := fun vs H Q _ => ∃ (n m A M : Nat) (R : Nat → Row) (v : V), vs = [.int (m : Int), v] ∧ RwsP K n m R v H ∧ Mb m A M ∧ Rb A M m n R ∧ n ≤ 60 ∧ RetP (HoP K n m R) H Q
theorem scHolds : FnScope nHolds ["many", "rows"] (defScope sHolds) := ⟨rfl, rfl, rfl, by decide +kernel, rfl, by decide +kernel, by decide +kernel⟩
theorem ok_holds {f fC fS : Addr} {fd fdC fdS : FuncData} (F : Fun K "holds_somewhere" "holds_somewhere" sHolds f fd) (B : Bl2 mg) (C : Has P w K mg base "check_rows" 3 ["many", "rows"] (spCheckRows K) fC fdC) (So : Has P w K mg base "some_spot" 10 ["many", "rows"] (spSomeSpot K) fS fdS) :
    FnOk P w K mg base CX0 11 f fd ["many", "rows"] (spHolds K) := by
  refine F.ok scHolds (fun vs H Q E h => ?_) (fun cdv A outer s H vs Q E hr h => ?_)
  · obtain ⟨n, m, A', M, R, v, rfl, _⟩ := h
    rfl
  · obtain ⟨n, m, A', M, R, v, rfl, hv, mb, rb, hn, k⟩ := h
    refine ⟨_, pss_cons (ps_expr (pe_cl C (hr.mono (by decide)) (pa_cons (pv 0) (pa_cons (pv 1) pa_nil))))
      (pss_cons (ps_asg (pe_cl So hr (pa_cons (pv 0) (pa_cons (pv 1) pa_nil))) (pg_tup rfl (pgs_cons (pg_name (i := 2) scHolds.nd rfl (.inl rfl)) (pgs_cons (pg_name (i := 3) scHolds.nd rfl (.inl rfl)) pgs_nil))))
      (pss_one (ps_ret (pe_ifExp (pt_cmpR op_isN1 (pv 3) pe_non (nomark _)) pe_non (pe_callTy call_tuple_of (by rfl) B.tuple (by decide +kernel) (pa_cons (pv 3) pa_nil)))))), ?_⟩
    have m5 := mb.m5
    refine q_drop (v := .non) (ev_call (ea_cons (ev_var rfl) (ea_cons (ev_var rfl) ea_nil)) fun H1 e1 Q q E => ⟨m, n, R, v, rfl, rws_mono _ _ _ e1 hv, by omega, hn, q⟩) fun H1 e1 => ?_
    refine q_two2 (ep_callV (P := SomeP K n m R) (ea_cons (ev_var rfl) (ea_cons (ev_var rfl) ea_nil)) fun H6 e6 Q q => ⟨n, m, A', M, R, v, rfl, rws_mono _ _ _ (e1.trans e6) hv, mb, rb, hn, q⟩) someAB fun ti sp H2 e2 hab => ?_
    rcases hab with ⟨rfl, f, hf, sf, nev⟩ | ⟨rfl, z, hz, sz, hold⟩
    · exact sp_ret (P := HoP K n m R) (ep_if (b := true) (et_is (et_isN (ev_var rfl)) (by simp)) (fun _ => ep_of ev_c fun H3 e3 => .inl ⟨rfl, fun z => nev.no⟩) fun z => absurd z (by decide)) (k.go (e1.trans e2))
    · exact sp_ret (P := HoP K n m R) (ep_if (b := false) (et_is (et_isN (ev_var rfl)) (by simp [row_nn hz])) (fun z => absurd z (by decide)) fun _ => ep_w (ep_tuple (ep_varM rfl hz row_mono) fun _ => Fr.mono) fun v H3 e3 q => .inr ⟨z, q, sz, hold⟩) (k.go (e1.trans e2))
end
end EW
set_option Elab.async false
set_option linter.all false
set_option maxRecDepth 100000
set_option maxHeartbeats 4000000
set_option exponentiation.threshold 30000
namespace EW
open PySem PySem.Spec PyProof.Rows L2 Evl
/-! ### what is refused: any data -/
def rowB (m : Int) : PyData → Bool
  | .tuple [a, .tuple ts] => isIn a && (decide ((ts.length : Int) = m) && (List.range ts.length).all fun i => isIn (ts.getD i .none))
  | _ => false
def RowSz (d : PyData) : Prop := ∀ a ts, d = .tuple [a, .tuple ts] → ts.length ≤ 1000
section
variable {P : Program} {w : World} {K : PySem.W.Frag} {mg : Str → Option Value} {base : Heap}
def spIsRowD (K : PySem.W.Frag) : Sp := fun vs H Q _ => ∃ (m : Int) (v : V) (d : PyData), vs = [.int m, v] ∧ Dq K H v d ∧ RowSz d ∧ RetV (.bl (rowB m d)) H Q
theorem ok_isRowD {f fI : Addr} {fd fdI : FuncData} (F : Fun K "is_row" "is_row" sIsRow f fd) (B : Bl2 mg) (B1 : Blt mg) (I : Has P w K mg base "is_integer" 1 ["value"] (spIsInt K) fI fdI) : FnOk P w K mg base CX0 2 f fd ["many", "value"] (spIsRowD K) := by
  refine F.ok scIsRow (fun vs H Q E h => ?_) (fun cdv A outer s H vs Q E hr h => ?_)
  · obtain ⟨m, v, d, rfl, _⟩ := h
    rfl
  · obtain ⟨m, v, d, rfl, hv, hz, k⟩ := h
    refine ⟨_, pss_cons (ps_if (pw_or (pt_not (pt_val (pe_callB call_isi (by rfl) B1.isi (by decide +kernel) (pa_cons (pv 1) (pa_cons (pe_bltn (v := .ty "tuple") (by rfl) B.tuple (by decide +kernel) rfl) pa_nil)))))
        (pw_or (pt_cmpR op_ne (pe_callB call_len_seq (by rfl) B.len PySem.boot_len (pa_cons (pv 1) pa_nil)) pe_int (nomark _))
        (pw_or (pt_not (pt_val (pe_cl I hr (pa_cons (pe_ix ix_tup (pv 1) pe_int (fun _ _ => rfl)) pa_nil))))
        (pw_or1 (pt_not (pt_val (pe_callB call_isi (by rfl) B1.isi (by decide +kernel) (pa_cons (pe_ix ix_tup (pv 1) pe_int (fun _ _ => rfl)) (pa_cons (pe_bltn (v := .ty "tuple") (by rfl) B.tuple (by decide +kernel) rfl) pa_nil))))))))).pt (pss_one (ps_ret pe_bl)) pss_nil)
      (pss_one (ps_ret (pe_and (pe_cmpR op_eq (pe_callB call_len_seq (by rfl) B.len PySem.boot_len (pa_cons (pe_ix ix_tup (pv 1) pe_int (fun _ _ => rfl)) pa_nil)) (pv 0) (nomark _))
        (pe_one (pe_callB (cr_all rfl) (by rfl) B.all (by decide +kernel) (pa_cons (pe_lc (own := [("by", 2)]) (g := gName 2) (tt := tYes) rfl scIsRow.nd (pi_tup (pe_ix ix_tup (pv 1) pe_int (fun _ _ => rfl))) (blkOk_by (N := nIsRow) (sc := defScope sIsRow) (by decide +kernel))
          (fun _ _ _ _ _ => pg_name (i := 2) scIsRow.nd rfl (.inl rfl)) (fun _ _ _ _ _ => pts_nil) (fun _ _ _ _ _ => pe_cl I hr (pa_cons (pv 2) pa_nil))) pa_nil)))))), ?_⟩
    have hX : ∀ {σ : L2.St} {G : Hp}, σ[1]? = some (some v) → Ex H G → EvP (tVar 1) σ G (fun v H => Dq K H v d) := fun h e => ep_varM h (hv.mono e) dq_mono
    have no : rowB m d = false → ∀ {σ : L2.St} {G : Hp} {D : Ends}, Ex H G → D.rt = Q → tRet (tC (.bl false)) D σ G := fun hb σ G D e hD => s_ret ev_c fun H2 e2 => by
      rw [hD]
      have := k H2 (e.trans e2)
      rwa [hb] at this
    by_cases t1 : isT d = true
    · obtain ⟨ds, rfl⟩ : ∃ ds, d = .tuple ds := by
        cases d <;> first | exact ⟨_, rfl⟩ | simp [isT] at t1
      by_cases l2 : ds.length = 2
      · obtain ⟨a, b, rfl⟩ : ∃ a b, ds = [a, b] := by
          match ds, l2 with
          | [a, b], _ => exact ⟨a, b, rfl⟩
        have T1 : EvT (tNot (tB (tCB (rIsi K) (tCons (tVar 1) (tCons (tC (.ty "tuple")) tNil))))) [some (.int m), some v, none] H false := et_is (et_not (et_B (ev_isTD (hX rfl (Ex.refl _))))) rfl
        have T2 : EvT (tTest (tOp rNe (tCB (fun xs H Q => ∃ p ys, xs = [V.ref p] ∧ (SqL K H p ys ∨ SqT K H p ys) ∧ Q (.int ys.length) H) (tCons (tVar 1) tNil)) (tC (.int 2)))) [some (.int m), some v, none] H false := et_is (et_test (ev_op (ev_lenD (hX rfl (Ex.refl _))) ev_c (rv_ne rfl))) rfl
        have h0 : ∀ {σ : L2.St} {G : Hp}, σ[1]? = some (some v) → Ex H G → EvP (tOp (rIxT K) (tVar 1) (tC (.int 0))) σ G (fun v H => Dq K H v a) := fun h e => ep_ixD (i := 0) (hX h e) rfl
        have h1 : ∀ {σ : L2.St} {G : Hp}, σ[1]? = some (some v) → Ex H G → EvP (tOp (rIxT K) (tVar 1) (tC (.int 1))) σ G (fun v H => Dq K H v b) := fun h e => ep_ixD (i := 1) (hX h e) rfl
        by_cases ia : isIn a = true
        · have T3 : EvT (tNot (tB (tCall (spIsInt K) [] E0 (tCons (tOp (rIxT K) (tVar 1) (tC (.int 0))) tNil)))) [some (.int m), some v, none] H false := et_is (et_not (et_B (ev_isID (h0 rfl (Ex.refl _))))) (by rw [ia]; rfl)
          by_cases tb : isT b = true
          · obtain ⟨ts, rfl⟩ : ∃ ts, b = .tuple ts := by
              cases b <;> first | exact ⟨_, rfl⟩ | simp [isT] at tb
            refine q_when (b := false) (et_orF T1 (et_orF T2 (et_orF T3 (et_is (et_not (et_B (ev_isTD (h1 rfl (Ex.refl _))))) rfl)))) (fun z => by cases z) fun _ H1 e1 => ?_
            have lz := hz a ts rfl
            refine s_ret (ev_is (ev_andV (ev_op (ev_lenD (h1 rfl e1)) (ev_var rfl) (rv_eq rfl)) fun _ => ev_allN (n := ts.length) (f := fun i => isIn (ts.getD i .none)) (en_lc (sr_tupP (ep_w (h1 rfl e1) fun v H _ h => dq_tsP h) dqm_mono) (by omega) (fun _ => mono_eq) ?_)) ?_) (fun H2 e2 => k _ (e1.trans e2))
            · intro i x H2 hi e2 ⟨d', h2, h3⟩
              have hd : ts.getD i .none = d' := by
                rw [List.getD_eq_getElem?_getD, h2]
                rfl
              rw [hd]
              exact ⟨_, fun Q q => q, rfl, EvP.d tst_eq (ev_p (ev_isID (ep_varM rfl h3 dq_mono)))⟩
            · simp only [rowB, ia, Bool.true_and, V.bl.injEq]
              congr 1
              rw [decide_eq_decide]
              exact ⟨fun z => by injection z, fun z => by rw [z]⟩
          · refine q_when (b := true) (et_orF T1 (et_orF T2 (et_orF T3 (et_is (et_not (et_B (ev_isTD (h1 rfl (Ex.refl _))))) (by simpa using tb))))) (fun _ H1 e1 => no ?_ e1 rfl) fun z => by cases z
            cases b <;> first | rfl | exact absurd rfl tb
        · refine q_when (b := true) (et_orF T1 (et_orF T2 (et_orT (et_is (et_not (et_B (ev_isID (h0 rfl (Ex.refl _))))) (by simpa using ia))))) (fun _ H1 e1 => no ?_ e1 rfl) fun z => by cases z
          cases b <;> first | rfl | (simp only [rowB]; simp [ia])
      · refine q_when (b := true) (et_orF (et_is (et_not (et_B (ev_isTD (hX rfl (Ex.refl _))))) rfl) (et_orT (et_is (et_test (ev_op (ev_lenD (hX rfl (Ex.refl _))) ev_c (rv_ne rfl))) (ne_int (by omega))))) (fun _ H1 e1 => no ?_ e1 rfl) fun z => by cases z
        match ds, l2 with
        | [], _ => rfl
        | [a], _ => rfl
        | [a, b], h => exact absurd rfl h
        | a :: b :: c :: r, _ => cases b <;> rfl
    · refine q_when (b := true) (et_orT (et_is (et_not (et_B (ev_isTD (hX rfl (Ex.refl _))))) (by simpa using t1))) (fun _ H1 e1 => no ?_ e1 rfl) fun z => by cases z
      cases d <;> first | rfl | exact absurd rfl t1
/-! ### raising -/
structure HasX (P : Program) (w : World) (K : PySem.W.Frag) (mg : Str → Option Value) (base : Heap) (x : Str) (k : Nat) (ps : List Str) (sp : Sp) (f : Addr) (fd : FuncData) : Prop where
  kept : PySem.W.keepIn K (.ref f) = true
  bd : Binds K fd ps []
  gl : mg x = some (.ref f)
  ok : FnOk P w K mg base (L2.CX P w) k f fd ps sp
theorem pe_clX {X : Cx} {x : Str} {k : Nat} {ps : List Str} {sp : Sp} {f : Addr} {fd : FuncData} {e : Expr} {es : List Expr} {t : TA} {p pos : Pos} {E : XK} {W : WX} (D : HasX X.prog X.w X.K X.mg X.base x k ps sp f fd) (tk : Takes X W) (hW : ∀ cls d σ G, E cls d G → W cls d σ G) (hr : Room k X.A) (ha : PA X (e :: es) t)
    (hg : Gl X x := by rfl) (hdb : (x == ("__debug__" : Str)) = false := by decide) (he : starEach (e :: es) X.env = (false, eval e X.env) :: starEach es X.env := by rfl) (hpl : (backTo pos (starEach es X.env)).any (·.1) = false := by rfl) :
    PE X (.Call (.Name x p) (e :: es) [] pos) (tCall sp [] E t) := pe_call D.ok hr hg D.gl D.kept D.bd .nil (passes_call tk hW) ha hdb he hpl
/-- the error of the class at C comes, its value y -/
def Out (C : Addr) (y : V) (H : Hp) (E : XK) : Prop := ∀ G d, Ex H G → G d = none → E (.ref C) (some d) (upd G d (.xd [(("value" : Str), y)]))
theorem Out.go {C : Addr} {y : V} {H H1 : Hp} {E : XK} (h : Out C y H E) (e : Ex H H1) : Out C y H1 E := fun G d e2 n => h G d (e.trans e2) n
def okRs : PyData → PyData → Bool
  | .int m, .tuple rs => (decide (0 ≤ m) && decide (m ≤ 24)) && (decide (rs.length ≤ 60) && (List.range rs.length).all fun i => rowB m (rs.getD i .none))
  | _, _ => false
structure RsSz (d : PyData) : Prop where
  len : ∀ rs, d = .tuple rs → rs.length ≤ 1000
  row : ∀ (rs : List PyData) (i : Nat) (x : PyData), d = .tuple rs → rs[i]? = some x → RowSz x
def spCkX (K : PySem.W.Frag) (C : Addr) : Sp := fun vs H _ E => ∃ (x y : V) (dm dr : PyData), vs = [x, y] ∧ Dq K H x dm ∧ Dq K H y dr ∧ okRs dm dr = false ∧ RsSz dr ∧ Out C y H E
theorem ok_ckX {f fB fR C D fI cc cda : Addr} {fd fdB fdR : FuncData} (F : Fun K "check_rows" "check_rows" sCheckRows f fd) (B : Bl2 mg) (B1 : Blt mg) (Mo : Mosts mg) (T : ErrTxt P K D fI cc cda) (U : ErrCls K D C fI) (gC : mg "BadRows" = some (.ref C)) (Bt : Has P w K mg base "is_between" 2 ["value", "least", "most"] (spBetween K) fB fdB) (R : Has P w K mg base "is_row" 2 ["many", "value"] (spIsRowD K) fR fdR) :
    FnOk P w K mg base (L2.CX P w) 3 f fd ["many", "rows"] (spCkX K C) := by
  obtain ⟨⟨tc, gc⟩, ⟨tr, gr⟩⟩ := Mo
  refine F.okX scCheckRows (fun vs H Q E h => ?_) (fun cdv A outer s H vs Q E hr h => ?_)
  · obtain ⟨x, y, dm, dr, rfl, _⟩ := h
    rfl
  · obtain ⟨x, y, dm, dr, rfl, hx, hy, no, hz, out⟩ := h
    refine ⟨_, pss_cons (ps_if (PW.pt (pw_or (pt_not (pt_val (pe_cl Bt hr (pa_cons (pv 0) (pa_cons pe_int (pa_cons (pe_glob (v := .int 24) rfl gc ⟨_, rfl⟩) pa_nil))))))
        (pw_or (pt_not (pt_val (pe_callB call_isi (by rfl) B1.isi (by decide +kernel) (pa_cons (pv 1) (pa_cons (pe_bltn (v := .ty "tuple") (by rfl) B.tuple (by decide +kernel) rfl) pa_nil)))))
        (pw_or1 (pt_cmpR op_gt (pe_callB call_len_seq (by rfl) B.len PySem.boot_len (pa_cons (pv 1) pa_nil)) (pe_glob (v := .int 60) rfl gr ⟨_, rfl⟩) (nomark _)))))) (pss_one (ps_raise rfl (takes_of rfl rfl rfl rfl) (pmk_err T U gC hr (pa_cons (pv 1) pa_nil)))) pss_nil)
      (pss_one (ps_if (pt_not (pt_val (pe_callB (cr_all rfl) (by rfl) B.all (by decide +kernel) (pa_cons (pe_lc (own := [("row", 2)]) (g := gName 2) (tt := tYes) rfl scCheckRows.nd (pi_tup (pv 1)) (blkOk_by (N := nCheckRows) (sc := defScope sCheckRows) (by decide +kernel))
          (fun _ _ _ _ _ => pg_name (i := 2) scCheckRows.nd rfl (.inl rfl)) (fun _ _ _ _ _ => pts_nil) (fun _ _ _ _ _ => pe_cl R hr (pa_cons (pv 0) (pa_cons (pv 2) pa_nil)))) pa_nil)))) (pss_one (ps_raise rfl (takes_of rfl rfl rfl rfl) (pmk_err T U gC hr (pa_cons (pv 1) pa_nil)))) pss_nil)), ?_⟩
    have hX : ∀ {σ : L2.St} {G : Hp}, σ[0]? = some (some x) → Ex H G → EvP (tVar 0) σ G (fun v H => Dq K H v dm) := fun h e => ep_varM h (hx.mono e) dq_mono
    have hY : ∀ {σ : L2.St} {G : Hp}, σ[1]? = some (some y) → Ex H G → EvP (tVar 1) σ G (fun v H => Dq K H v dr) := fun h e => ep_varM h (hy.mono e) dq_mono
    have rs : ∀ {σ : L2.St} {G : Hp}, σ[1]? = some (some y) → Ex H G → tMkE C (tCons (tVar 1) tNil) σ G fun cls d H' => E cls d H' := fun h e => ⟨y, h, y, rfl, fun d n => out _ d e n⟩
    have bt : ∃ i, Ev (tCall (spBetween K) [] E0 (tCons (tVar 0) (tCons (tC (.int 0)) (tCons (tC (.int 24)) tNil)))) [some x, some y, none] H (.bl (isIn dm && (decide (0 ≤ i) && decide (i ≤ 24)))) ∧ (isIn dm = true → dm = .int i) := by
      by_cases im : isIn dm = true
      · obtain ⟨i, rfl⟩ : ∃ i, dm = .int i := by
          cases dm <;> first | exact ⟨_, rfl⟩ | simp [isIn] at im
        refine ⟨i, fun H1 e Q q => ⟨x, rfl, ⟨x, _, i, 0, 24, rfl, (hx.mono e).intIs, fun _ => dq_int (hx.mono e), fun H2 e2 => q H2 e2⟩⟩, fun _ => rfl⟩
      · refine ⟨0, fun H1 e Q q => ⟨x, rfl, ⟨x, _, 0, 0, 24, rfl, (hx.mono e).intIs, fun z => absurd z im, fun H2 e2 => q H2 e2⟩⟩, fun z => absurd z im⟩
    obtain ⟨i, b1, b2⟩ := bt
    by_cases t1 : (isIn dm && (decide (0 ≤ i) && decide (i ≤ 24))) = true
    · simp only [Bool.and_eq_true, decide_eq_true_eq] at t1
      obtain ⟨t1, t2, t3⟩ := t1
      have em := b2 t1
      subst em
      by_cases ty : isT dr = true
      · obtain ⟨ds, rfl⟩ : ∃ ds, dr = .tuple ds := by
          cases dr <;> first | exact ⟨_, rfl⟩ | simp [isT] at ty
        have l1 := hz.len ds rfl
        by_cases l6 : ds.length ≤ 60
        · refine q_when (b := false) (et_orF (et_is (et_not (et_B b1)) (by simp [t2, t3, isIn])) (et_orF (et_is (et_not (et_B (ev_isTD (hY rfl (Ex.refl _))))) rfl) (et_is (et_test (ev_op (ev_lenD (hY rfl (Ex.refl _))) ev_c rv_I0)) (by simp; omega)))) (fun z => by cases z) fun _ H1 e1 => ?_
          refine s_when (b := true) (et_is (et_not (et_B (ev_allN (n := ds.length) (f := fun j => rowB i (ds.getD j .none)) (en_lc (sr_tupP (ep_w (hY rfl e1) fun v H _ h => dq_tsP h) dqm_mono) (by omega) (fun _ => mono_eq) ?_)))) ?_) (fun _ H2 e2 => rs rfl (e1.trans e2)) fun z => by cases z
          · intro j z H2 hj e2 ⟨d', h2, h3⟩
            have hd : ds.getD j .none = d' := by
              rw [List.getD_eq_getElem?_getD, h2]
              rfl
            rw [hd]
            exact ⟨_, fun Q q => q, rfl, EvP.d tst_eq (ev_p (ev_call (ea_cons (ev_dInt (hX rfl (e1.trans e2))) (ea_cons (ev_var rfl) ea_nil)) fun H3 e3 Q q E => ⟨i, z, d', rfl, h3.mono e3, hz.row ds j d' rfl h2, q⟩))⟩
          · have z : (List.range ds.length).all (fun j => rowB i (ds.getD j .none)) = false := by
              simpa [okRs, t2, t3, l6] using no
            rw [z]
            rfl
        · refine q_when (b := true) (et_orF (et_is (et_not (et_B b1)) (by simp [t2, t3, isIn])) (et_orF (et_is (et_not (et_B (ev_isTD (hY rfl (Ex.refl _))))) rfl) (et_is (et_test (ev_op (ev_lenD (hY rfl (Ex.refl _))) ev_c rv_I0)) (by simp; omega)))) (fun _ H1 e1 => rs rfl e1) fun z => by cases z
      · exact q_when (b := true) (et_orF (et_is (et_not (et_B b1)) (by simp [t2, t3, isIn])) (et_orT (et_is (et_not (et_B (ev_isTD (hY rfl (Ex.refl _))))) (by simpa using ty)))) (fun _ H1 e1 => rs rfl e1) fun z => by cases z
    · exact q_when (b := true) (et_orT (et_is (et_not (et_B b1)) (by rw [Bool.eq_false_iff.mpr t1]; rfl))) (fun _ H1 e1 => rs rfl e1) fun z => by cases z
/-! ### check_following, follows, shows_follows, holds_somewhere -/
/-- bad ROWS; or good ones and a bad ROW -/
def BadIn (K : PySem.W.Frag) (C C2 : Addr) (x y z : V) (H : Hp) (E : XK) : Prop :=
  (∃ dm dr, Dq K H x dm ∧ Dq K H y dr ∧ okRs dm dr = false ∧ RsSz dr ∧ Out C y H E) ∨
  ∃ (m n : Nat) (R : Nat → Row) (dz : PyData), x = .int (m : Int) ∧ RwsP K n m R y H ∧ m ≤ 24 ∧ n ≤ 60 ∧ Dq K H z dz ∧ RowSz dz ∧ rowB (m : Int) dz = false ∧ Out C2 z H E
theorem BadIn.go {C C2 : Addr} {x y z : V} {H H1 : Hp} {E : XK} (h : BadIn K C C2 x y z H E) (e : Ex H H1) : BadIn K C C2 x y z H1 E := by
  rcases h with ⟨dm, dr, h1, h2, h3, h4, h5⟩ | ⟨m, n, R, dz, h1, h2, h3, h4, h5, h6, h7, h8⟩
  · exact .inl ⟨dm, dr, h1.mono e, h2.mono e, h3, h4, h5.go e⟩
  · exact .inr ⟨m, n, R, dz, h1, rws_mono _ _ _ e h2, h3, h4, h5.mono e, h6, h7, h8.go e⟩
def spFolX (K : PySem.W.Frag) (C C2 : Addr) : Sp := fun vs H _ E => ∃ x y z, vs = [x, y, z] ∧ BadIn K C C2 x y z H E
theorem ok_cfX {f fC fX fR C C2 D fI cc cda : Addr} {fd fdC fdX fdR : FuncData} (F : Fun K "check_following" "check_following" sCheckFollowing f fd) (T : ErrTxt P K D fI cc cda) (U2 : ErrCls K D C2 fI) (gC2 : mg "BadRow" = some (.ref C2))
    (Ck : Has P w K mg base "check_rows" 3 ["many", "rows"] (spCheckRows K) fC fdC) (Cx : HasX P w K mg base "check_rows" 3 ["many", "rows"] (spCkX K C) fX fdX) (R : Has P w K mg base "is_row" 2 ["many", "value"] (spIsRowD K) fR fdR) : FnOk P w K mg base (L2.CX P w) 4 f fd ["many", "rows", "row"] (spFolX K C C2) := by
  refine F.okX scCheckFollowing (fun vs H Q E h => ?_) (fun cdv A outer s H vs Q E hr h => ?_)
  · obtain ⟨x, y, z, rfl, _⟩ := h
    rfl
  · obtain ⟨x, y, z, rfl, bad⟩ := h
    rcases bad with ⟨dm, dr, h1, h2, h3, h4, h5⟩ | ⟨m, n, Rs, dz, rfl, h2, h3, h4, h5, h6, h7, h8⟩
    · refine ⟨_, pss_cons (ps_expr (pe_clX (E := E) Cx (takes_of rfl rfl rfl rfl) (fun _ _ _ _ q => q) hr (pa_cons (pv 0) (pa_cons (pv 1) pa_nil)))) pss_dead, ?_⟩
      exact ⟨x, rfl, y, rfl, ⟨x, y, dm, dr, rfl, h1, h2, h3, h4, h5⟩⟩
    · refine ⟨_, pss_cons (ps_expr (pe_cl Ck hr (pa_cons (pv 0) (pa_cons (pv 1) pa_nil)))) (pss_one (ps_if (pt_not (pt_val (pe_cl R (hr.mono (by decide)) (pa_cons (pv 0) (pa_cons (pv 2) pa_nil))))) (pss_one (ps_raise rfl (takes_of rfl rfl rfl rfl) (pmk_err T U2 gC2 hr (pa_cons (pv 2) pa_nil)))) pss_nil)), ?_⟩
      refine q_drop (v := .non) (ev_call (ea_cons (ev_var rfl) (ea_cons (ev_var rfl) ea_nil)) fun H3 e3 Q q E => ⟨m, n, Rs, y, rfl, rws_mono _ _ _ e3 h2, h3, h4, q⟩) fun H1 e1 => ?_
      refine s_when (b := true) (et_is (et_not (et_B (b := false) (ev_call (ea_cons (ev_var rfl) (ea_cons (ev_var rfl) ea_nil)) fun H3 e3 Q q E => ⟨(m : Int), z, dz, rfl, h5.mono (e1.trans e3), h6, by rw [h7]; exact q⟩))) rfl) (fun _ H2 e2 => ?_) fun z => by cases z
      exact ⟨z, rfl, z, rfl, fun d n => h8 _ d (e1.trans e2) n⟩
theorem ok_folX {f fC C C2 : Addr} {fd fdC : FuncData} (F : Fun K "follows" "follows" sFollows f fd) (Cf : HasX P w K mg base "check_following" 4 ["many", "rows", "row"] (spFolX K C C2) fC fdC) : FnOk P w K mg base (L2.CX P w) 5 f fd ["many", "rows", "row"] (spFolX K C C2) := by
  refine F.okX scFollows (fun vs H Q E h => ?_) (fun cdv A outer s H vs Q E hr h => ?_)
  · obtain ⟨x, y, z, rfl, _⟩ := h
    rfl
  · obtain ⟨x, y, z, rfl, bad⟩ := h
    exact ⟨_, pss_cons (ps_expr (pe_clX (E := E) Cf (takes_of rfl rfl rfl rfl) (fun _ _ _ _ q => q) hr (pa_cons (pv 0) (pa_cons (pv 1) (pa_cons (pv 2) pa_nil))))) pss_dead, ⟨x, rfl, y, rfl, z, rfl, ⟨x, y, z, rfl, bad⟩⟩⟩
def spShX (K : PySem.W.Frag) (C C2 : Addr) : Sp := fun vs H _ E => ∃ x y z u, vs = [x, y, z, u] ∧ BadIn K C C2 x y z H E
theorem ok_shX {f fC C C2 : Addr} {fd fdC : FuncData} (F : Fun K "shows_follows" "shows_follows" sShows f fd) (Cf : HasX P w K mg base "check_following" 4 ["many", "rows", "row"] (spFolX K C C2) fC fdC) : FnOk P w K mg base (L2.CX P w) 5 f fd ["many", "rows", "row", "value"] (spShX K C C2) := by
  refine F.okX scShows (fun vs H Q E h => ?_) (fun cdv A outer s H vs Q E hr h => ?_)
  · obtain ⟨x, y, z, u, rfl, _⟩ := h
    rfl
  · obtain ⟨x, y, z, u, rfl, bad⟩ := h
    exact ⟨_, pss_cons (ps_expr (pe_clX (E := E) Cf (takes_of rfl rfl rfl rfl) (fun _ _ _ _ q => q) hr (pa_cons (pv 0) (pa_cons (pv 1) (pa_cons (pv 2) pa_nil))))) pss_dead, ⟨x, rfl, y, rfl, z, rfl, ⟨x, y, z, rfl, bad⟩⟩⟩
theorem ok_hoX {f fC C : Addr} {fd fdC : FuncData} (F : Fun K "holds_somewhere" "holds_somewhere" sHolds f fd) (Cx : HasX P w K mg base "check_rows" 3 ["many", "rows"] (spCkX K C) fC fdC) : FnOk P w K mg base (L2.CX P w) 4 f fd ["many", "rows"] (spCkX K C) := by
  refine F.okX scHolds (fun vs H Q E h => ?_) (fun cdv A outer s H vs Q E hr h => ?_)
  · obtain ⟨x, y, dm, dr, rfl, _⟩ := h
    rfl
  · obtain ⟨x, y, dm, dr, rfl, bad⟩ := h
    exact ⟨_, pss_cons (ps_expr (pe_clX (E := E) Cx (takes_of rfl rfl rfl rfl) (fun _ _ _ _ q => q) hr (pa_cons (pv 0) (pa_cons (pv 1) pa_nil)))) pss_dead, ⟨x, rfl, y, rfl, ⟨x, y, dm, dr, rfl, bad⟩⟩⟩
end
end EW
set_option Elab.async false
set_option linter.all false
set_option maxRecDepth 100000
set_option maxHeartbeats 4000000
set_option exponentiation.threshold 30000
namespace EW
open PySem PySem.Spec PyProof.Rows L2 Evl
/-! ### a list comprehension whose items know the state in which their block began -/
section
variable {X : Cx}
/-- the block's context -/
abbrev bk (X : Cx) (sc : Scope) (z : Shared) (G : Hp) (C : Addr) (cl : List (Str × Addr)) (fp : List Addr) : Cx := X.blk z G sc (compEnvC sc cl C X.env) fp
/-- cells that were made at the entry are none of the frames -/
theorem cell_nofr {pins : List (Addr × Obj)} {σ : L2.St} {H : Hp} {s : Shared} (I : Inv X pins σ H s) {y : Str} {c : Addr} (f : X.fn y = true) (e : X.env.cells.lookup y = some c) : c ∉ frs X.stack := fun m => by
  rcases List.mem_cons.mp (I.stkSub c m) with z | z
  · exact I.cne y c e z
  · obtain ⟨_, o, e1, _⟩ := I.ok.funs.mem z
    exact absurd (Nat.lt_of_lt_of_le (Heap.lt_size e1) (I.ok.cab y c f e)) (Nat.lt_irrefl _)
theorem pe_lcK {elt tg iter : Expr} {sc : Scope} {own : List (Str × Nat)} {pos : Pos} {wi : TI} {g : TG} {te : L2.St → TE} (hc : X.calm = true) (nd : X.N.Nodup) (walks : PI X tg iter wi) (bo : BlkOk X.N X.env.scope sc own)
    (names : ∀ z G C cl fp, PG (bk X sc z G C cl fp) tg g)
    (item : ∀ pins σ z G C cl fp, Inv X pins σ G z → (∀ b ∈ fp, FpOk X pins G b) → PE (bk X sc z G C cl fp) elt (te σ)) (plain : ∀ x, foldedSetIterable iter X.env x = pure x := by intro _; rfl) :
    PE X (.ListComp elt [⟨tg, iter, [], 0⟩] sc pos) (fun σ G Q => tLc wi g tYes (te σ) (own.map (·.2)) σ G Q) := by
  refine ⟨fun pins z σ G Q J0 wish => ?_⟩
  rw [eval_ListComp]
  have caught : ∀ y ∈ sc.names, y.2 = .free → ∃ c, X.env.cells.lookup y.1 = some c := fun y m q => (bo.free y m q).elim (fun u => J0.ok.has _ (.inl u)) fun u => J0.ok.has _ (.inr u)
  refine wpAny_comprehension_free (use := none) rfl plain (closure_ok caught) bo.kind (fun y m q => (bo.uniq y m).trans (congrArg some q)) (thn (walks.run pins z σ G _ J0 wish) fun _ z1 w1 => thn w1 fun _ z2 w2 => ?_)
  obtain ⟨it, fp, tn, J, G2, rfl, J2, T, t0, fr0, q⟩ := w2
  refine wpAny_newObj_type (newEnv_comp ?_) (Nat.zero_le _)
  -- the list that is made, at D
  obtain ⟨D, hD⟩ : ∃ D, D = z2.heap.objs.size := ⟨_, rfl⟩
  obtain ⟨W, ⟨m0, w0⟩, turn⟩ := q D (J2.hok.fresh (Nat.le_of_eq hD.symm))
  obtain ⟨z3, hz3⟩ : ∃ z3 : Shared, z3 = { z2 with heap := z2.heap.push { cls := .type "list", data := .seq ([] : List Value).toArray } } := ⟨_, rfl⟩
  have up3 : z3.heap = z2.heap.push { cls := .type "list", data := .seq ([] : List Value).toArray } := by rw [hz3]
  have J3 : Inv X pins σ (upd G2 D (.lst [])) z3 := by
    rw [hz3]
    exact J2.laid (t' := z2.toks) (fun b o => Heap.get?_push_of_some _) (Nat.le_of_eq hD.symm) ⟨Nat.zero_le _, [], 0, .nil, by rw [hD]; exact Heap.get?_push_size _ rfl⟩
  have young : ∀ b ∈ fp, b < z2.heap.objs.size := fun b m => let ⟨_, u, _⟩ := T.obj _ _ t0 b m; Heap.lt_size u
  have fr3 : ∀ b ∈ fp, FpOk X pins (upd G2 D (.lst [])) b ∧ b < z3.heap.objs.size := fun b m => by
    have l := young b m
    refine ⟨⟨(upd_ne (fun u => ?_)).trans (fr0 b m).1, (fr0 b m).2⟩, by rw [up3, Heap.size_push]; exact Nat.lt_succ_of_lt l⟩
    rw [u, hD] at l
    exact Nat.lt_irrefl _ l
  have t3 : tn 0 z3.heap := T.keep _ _ _ t0 fun b _ o u => by rw [up3]; exact Heap.get?_push_of_some _ u
  have J4 := block_start J3 bo nd fr3
  obtain ⟨G3, hG3⟩ : ∃ G3, G3 = upd G2 D (.lst []) := ⟨_, rfl⟩
  rw [← hG3] at J3 fr3 J4 w0
  obtain ⟨cl, hcl⟩ : ∃ cl, cl = cellsFrom (z3.heap.objs.size + 1) sc.names (cloFrom X.env.cells sc.names []) := ⟨_, rfl⟩
  obtain ⟨C, hC⟩ : ∃ C, C = z3.heap.objs.size := ⟨_, rfl⟩
  obtain ⟨z4, hz4⟩ : ∃ z4 : Shared, z4 = { z3 with heap := pushCells (z3.heap.push { cls := .type "dict", data := .dict #[] }) sc.names } := ⟨_, rfl⟩
  have pn := names z3 G3 C cl fp
  have pe := item pins σ z3 G3 C cl fp J3 fun b m => (fr3 b m).1
  have J4' : Inv (bk X sc z3 G3 C cl fp) [] (wipe σ (own.map (·.2))) G3 z4 := by
    rw [hz4, hC, hcl]
    exact J4
  clear J4
  have t4 : tn 0 z4.heap := T.keep _ _ _ t3 fun b _ o u => by rw [hz4]; exact pushCells_keeps _ _ _ _ (Heap.get?_push_of_some _ u)
  let post := compPost (model X.prog X.w) X.A X.xe none (EP X pins σ Q) (.ref D) C
  have rounds : codeAny (model X.prog X.w) X.A (.compLoop (.ListComp elt [⟨tg, iter, [], 0⟩] sc pos) 0 (.ref it) (.ref D) (compEnvC sc cl C X.env)) post z4 := by
    have free_ : ∀ {σ' : L2.St} {G' : Hp} {z' : Shared}, Inv (bk X sc z3 G3 C cl fp) [] σ' G' z' → (∀ b ∈ fp, G' b = none) → ∀ b ∈ fp, FpOk (bk X sc z3 G3 C cl fp) [] G' b := fun J' n b m =>
      ⟨n b m, (J'.ok.exf b m).1, J'.ok.exfs b m, .inl m, fun x c u => (J'.ok.exf b m).2 x c u, fun p hp => by simp at hp⟩
    refine compLoop_any (fun n z' => ∃ i G', Inv (bk X sc z3 G3 C cl fp) [] (wipe σ (own.map (·.2))) G' z' ∧ tn i z'.heap ∧ (∀ b ∈ fp, G' b = none) ∧ W i n G') ?_ m0 ⟨0, G3, J4', t4, fun b m => (fr3 b m).1.1, w0⟩
    rintro n z5 ⟨i, G5, J5, t5, n5, w5⟩
    rcases turn i n G5 w5 with ⟨stop, qq⟩ | ⟨go, Nx, less, step⟩
    · refine thnF (T.done (bk X sc z3 G3 C cl fp) rfl rfl rfl hc i [] z5 _ G5 (fun _ _ => False) J5 (free_ J5 n5) t5 stop) fun r z6 ⟨hr, J6⟩ => ?_
      subst hr
      have J7 : Inv X pins σ G5 z6 := J3.call' (ch := fp) J6.os J6.base J6.hok J6.bare fun b m => ⟨(fr3 b m).1.2.2.2.1, (fr3 b m).1.2.1, (fr3 b m).1.2.2.2.2.1, (fr3 b m).1.2.2.2.2.2⟩
      obtain ⟨mm, hn, _⟩ := J6.loc
      have hn : z6.heap.Ns C mm := hn
      have nC : G5 C = none := J6.free
      obtain ⟨a0, a1, a2, a3, a4, a5⟩ := J3.fpOk (b := C) (Nat.le_of_eq hC.symm) nC
      refine ⟨mm, hn, fun h'' sb => ?_⟩
      exact ⟨.ref D, G5, J7.turned (t' := z6.toks) (fun b o hb u => (sb.2 b hb).trans u) a0 a1 a3 a4 a5, rfl, qq⟩
    · refine thnF (T.item (bk X sc z3 G3 C cl fp) rfl rfl rfl hc i [] z5 _ G5 (fun _ _ => False) J5 (free_ J5 n5) t5 go) fun r z6 ⟨u, hr, more⟩ => ?_
      subst hr
      refine thnF more fun _ z7 ⟨x, G7, J7, rx, y7, t7, n7⟩ => ?_
      refine thnF (pn.run _ z7 _ G7 x u _ (J7.pinned (free_ J7 n7) (T.obj _ _ t7)) rx (step x G7 y7)) fun _ z8 ⟨σ8, G8, J8, same, q8⟩ => ?_
      refine thnF ((pts_nil (X := bk X sc z3 G3 C cl fp)).run _ z8 σ8 G8 _ J8 q8) fun b z9 ⟨G9, J9, q9⟩ => ?_
      have turned : ∀ {z' : Shared} {G' : Hp}, Inv (bk X sc z3 G3 C cl fp) ([] ++ pinsAt fp z7.heap) σ8 G' z' → Nx G' → ∃ m, m < n ∧ ∃ i G', Inv (bk X sc z3 G3 C cl fp) [] (wipe σ (own.map (·.2))) G' z' ∧ tn i z'.heap ∧ (∀ b ∈ fp, G' b = none) ∧ W i m G' := fun {z' G'} J' nx => by
        obtain ⟨m', lt, w'⟩ := less G' nx
        have still : ∀ b ∈ fp, ∀ o, z7.heap.get? b = some o → z'.heap.get? b = some o ∧ G' b = none := fun b m o u => by
          have y := J'.pin (b, o) (List.mem_append_right _ (List.mem_append_right _ (mem_pinsAt m u)))
          exact ⟨y.1, y.2.1⟩
        refine ⟨m', lt, i + 1, G', J'.unpinned.weak (by rw [← same, wipe_length]) fun j v y => ?_, T.keep _ _ _ t7 fun b m o u => (still b m o u).1, fun b m => ?_, w'⟩
        · rw [← same] at y
          exact (wipe_some y).1
        · obtain ⟨o, u, _⟩ := T.obj _ _ t7 b m
          exact (still b m o u).2
      cases b with
      | false => exact turned J9 (by simpa using q9)
      | true =>
        have q9 : te σ σ8 G9 fun y G => ∃ acc, G D = some (.lst acc) ∧ acc.length < sizeLine ∧ Nx (upd G D (.lst (acc ++ [y]))) := by simpa using q9
        refine thnF (pe.run _ z9 σ8 G9 _ J9 q9) fun _ z10 ⟨y, G10, J10, ry, acc, at_, sz, nx⟩ => ?_
        exact app_ok (X := bk X sc z3 G3 C cl fp) J10 at_ sz ry fun z11 J11 => turned J11 nx
  have goal_ : codeAny (model X.prog X.w) X.A (.compStart (.ListComp elt [⟨tg, iter, [], 0⟩] sc pos) 0 (.ref it) (.ref D) (compEnvC sc cl C X.env)) post z4 := codeAny_compStart_list rounds (T.self X.A 0 _ _ _ t4 rounds)
  rw [hz4, hcl] at goal_
  simp only [post] at goal_
  rw [hC] at goal_
  rw [hz3, hD] at goal_
  exact goal_
end
end EW
set_option Elab.async false
set_option linter.all false
set_option maxRecDepth 100000
set_option maxHeartbeats 4000000
set_option exponentiation.threshold 30000
namespace EW
open PySem PySem.Spec PyProof.Rows L2 Evl LamX NdefX
/-! ### lambdas without parameters, as values -/
/-- what a lambda's object says -/
structure LF where
  q : Str
  ps : Arguments
  ex : Expr
  sc : Scope
  cl : List (Str × Addr)
  c : Addr
abbrev LF.nf (F : LF) : NF := ⟨"<lambda>", F.q, F.ps, [], F.sc, F.cl, F.c⟩
abbrev LF.obj (F : LF) (pm ct : Value) : Obj := PySem.W.kla_obj "<lambda>" F.q F.ps F.ex F.sc F.cl pm F.c ct
def LamO (f : Addr) (F : LF) : HO := .ext fun h => ∃ pm ct, h.get? f = some (F.obj pm ct)
theorem lamO_at {P : Program} {w : World} {H : Hp} {h : Heap} {f : Addr} {F : LF} (hok : HOk P w H h) (e : H f = some (LamO f F)) : ∃ pm ct, h.get? f = some (F.obj pm ct) := by
  have x : ObjOk P w H h f (.ext fun h => ∃ pm ct, h.get? f = some (F.obj pm ct)) := hok f _ e
  exact x.1
section
variable {X : Cx} {pins : List (Addr × Obj)} {σ : L2.St} {H : Hp} {s : Shared}
theorem inv_lam {F : LF} {pm ct : Value} {t' : Nat} (I : Inv X pins σ H s) : Inv X pins σ (upd H s.heap.objs.size (LamO s.heap.objs.size F)) { s with heap := s.heap.push (F.obj pm ct), toks := t' } := by
  have at_ : (s.heap.push (F.obj pm ct)).get? s.heap.objs.size = some (F.obj pm ct) := Heap.get?_push_size _ rfl
  exact I.laid (a := s.heap.objs.size) (fun b u e => Heap.get?_push_of_some _ e) (Nat.le_refl _) ⟨⟨pm, ct, at_⟩, ⟨_, at_⟩, fun h1 h2 ⟨p, c, z⟩ st => ⟨p, c, st _ z⟩⟩
/-- the name of a lambda's code -/
abbrev lamQ (X : Cx) : Str := X.env.qual ++ "<lambda>"
abbrev lamF (X : Cx) (ps : Arguments) (e : Expr) (sc : Scope) (c' : Addr) : LF := ⟨lamQ X, ps, e, sc, cloFrom X.env.cells sc.names [], c'⟩
/-- it is made; P the table of the code objects -/
theorem lam_new {c P : Addr} {ps : Arguments} {e : Expr} {sc : Scope} {pos : Pos} {E : Value → Shared → Prop} {Q : Value → Shared → Prop} (I : Inv X pins σ H s) (TB : TabB X.base X.mg c P) (cd : X.env.code = .ref c) (t0 : TabS H P (lamQ X)) (nodef : defaultsOf ps X.env = ([], []))
    (caught : ∀ y ∈ sc.names, y.2 = .free → ∃ c, X.env.cells.lookup y.1 = some c)
    (k : ∀ (f c' : Addr) (G : Hp) (z : Shared), Inv X pins σ G z → Xb P H G → TabS G P (lamQ X) → G f = some (LamO f (lamF X ps e sc c')) → G c' = some (CodeO c' (lamQ X)) → Q (.ref f) z) :
    wpAny (model X.prog X.w) X.A (eval (.Lambda ps e sc pos) X.env) Q E s := by
  refine PySem.W.kla_eval nodef ?_
  obtain ⟨ts, hP, ok3, told⟩ := t0
  have mn : s.heap.BuiltinsAt X.mg P := TB.bm.keeps I.bk
  have tab : s.heap.get? P = some { cls := .none, data := .fields ts } := I.hok P _ hP
  -- the object, once its code object is known
  have fin : ∀ (c' : Addr) (G : Hp) (z : Shared) (pm ct : Value), Inv X pins σ G z → Xb P H G → TabS G P (lamQ X) → G c' = some (CodeO c' (lamQ X)) → Q (.ref z.heap.objs.size) { z with heap := z.heap.push ((lamF X ps e sc c').obj pm ct) } := fun c' G z pm ct J x t hc => by
    have n := J.hok.fresh (Nat.le_refl z.heap.objs.size)
    have up : Ex G (upd G z.heap.objs.size (LamO z.heap.objs.size (lamF X ps e sc c'))) := Ex.new n
    exact k _ c' _ _ (inv_lam (F := lamF X ps e sc c') (pm := pm) (ct := ct) (t' := z.toks) J) (x.trans (xb_ex up)) (t.ext up) upd_same (up _ _ hc)
  cases old : codeAmong pos ts.toList with
  | some cv =>
    obtain ⟨c', rfl, hc⟩ := told pos cv old
    exact PySem.W.kla_makeFunctionHit (mg := X.mg) (c := c) (P := P) (ps := ts) (closure_ok caught) I.ok.glob (I.mod.glob.keeps I.bk) cd (TB.code.keeps I.bk) tab ok3 old mn fun ct h' tk up _ =>
      fin c' H { s with heap := h', toks := tk } ((X.mg "__name__").getD .none) ct (I.kept up) (Xb.refl _ _) ⟨ts, hP, ok3, told⟩ hc
  | none =>
    refine PySem.W.kla_makeFunction (mg := X.mg) (c := c) (P := P) (ps := ts) (closure_ok caught) I.ok.glob (I.mod.glob.keeps I.bk) cd (TB.code.keeps I.bk) tab ok3 old TB.gP mn fun c' ct h' tk up big _ rec_ tab' => ?_
    obtain ⟨c2, oc, us, t, ec, hoc, hd, hv⟩ := rec_
    cases ec
    have nC : H c' = none := I.hok.fresh big
    have J := inv_table (t' := tk) (more := #[rawInt pos.line, rawInt pos.col, .ref c']) (h' := h') I hP (fun b o n q => up b o n q) tab' big ⟨oc, us, t, hoc, hd, hv⟩
    have x : Xb P H (upd (upd H P (.tbl (ts ++ #[rawInt pos.line, rawInt pos.col, .ref c']))) c' (CodeO c' (lamQ X))) := fun b o n q => (upd_ne (ne_of_none q nC)).trans ((upd_ne n).trans q)
    refine fin c' _ { s with heap := h', toks := tk } ((X.mg "__name__").getD .none) ct J x ⟨ts ++ #[rawInt pos.line, rawInt pos.col, .ref c'], (upd_ne (ne_of_none hP nC)).trans upd_same, ?_, fun p cv q => ?_⟩ upd_same
    · have el : (ts ++ #[rawInt pos.line, rawInt pos.col, .ref c']).toList = ts.toList ++ [rawInt pos.line, rawInt pos.col, .ref c'] := by simp
      rw [el]
      exact PySem.TriplesOk_snoc _ _ _ _ ok3
    · have el : (ts ++ #[rawInt pos.line, rawInt pos.col, .ref c']).toList = ts.toList ++ [rawInt pos.line, rawInt pos.col, .ref c'] := by simp
      rw [el] at q
      rcases among_app _ ok3 q with q | q
      · obtain ⟨c0, h1, h2⟩ := told p cv q
        refine ⟨c0, h1, x c0 _ (fun y => ?_) h2⟩
        rw [y, hP] at h2
        exact codeO_ne ts (Option.some.inj h2).symm
      · exact ⟨c', q, upd_same⟩
/-- the reading: P the table -/
def tLamV (P : Addr) (q : Str) (mk : Addr → LF) : TE := fun _ H Q => TabS H P q ∧ ∀ f c' G, Xb P H G → TabS G P q → G f = some (LamO f (mk c')) → G c' = some (CodeO c' q) → Q (.ref f) G
theorem pe_lam {c P : Addr} {ps : Arguments} {e : Expr} {sc : Scope} {pos : Pos} (TB : TabB X.base X.mg c P) (cd : X.env.code = .ref c) (nodef : defaultsOf ps X.env = ([], []))
    (lays : ∀ y ∈ sc.names, y.2 = .free → X.env.scope.names.lookup y.1 = some .cell ∨ X.env.scope.names.lookup y.1 = some .free) : PE X (.Lambda ps e sc pos) (tLamV P (lamQ X) (lamF X ps e sc)) := by
  refine ⟨fun pins s σ H Q I h => ?_⟩
  obtain ⟨t0, k⟩ := h
  exact lam_new I TB cd t0 nodef (fun y m q => (lays y m q).elim (fun u => I.ok.has _ (.inl u)) fun u => I.ok.has _ (.inr u)) fun f c' G z J x t hf hc => ⟨.ref f, G, J, rfl, k f c' G x t hf hc⟩
end
/-! ### such a lambda called -/
theorem lam_run {P : Program} {w : World} {K : PySem.W.Frag} {mg : Str → Option Value} {base : Heap} {F : LF} {f : Addr} {fr : List Str} {ws : List (Option V)} {te : TE} {k : Nat} {B : Around} {up : List Env} {z : Shared} {G : Hp} {R : VK} {E : XK} (hr : Room (k + 1) B) (e0 : Env0 P w K mg base B up z G)
    (hf : G f = some (LamO f F)) (hc : G F.c = some (CodeO F.c F.q)) (S : NScope fr [] fr F.sc) (C : CellsAt F.cl fr ws z.heap G) (bd : ∀ pm cv ct, bindArgs (PySem.W.kla_fn "<lambda>" F.q F.ps F.ex F.sc F.cl pm cv ct) ⟨[], []⟩ = pure [])
    (body : Room k (B.deeper (envF F.nf f z.heap.objs.size)) → PE (ncx (L2.CX P w) P w K mg base fr F.nf f B up z G E) F.ex te) (q : te (startF fr [] ws) G R) :
    codeAny (model P w) B (.call (.ref f) ⟨[], []⟩) (CR (L2.CX P w) up P w G z R E) z := by
  obtain ⟨pm, ct, ho⟩ := lamO_at e0.hok hf
  have lim : z.heap.NoLimit := e0.mod.nolimit.keeps fun b o e => (e0.bs b o e).1
  refine PySem.W.kla_callFunE hr.depth ho rfl S.co S.gen rfl (codeO_at e0.hok hc) ?_
  rw [bd]
  refine wpAny_pure (wpAny_newFunctionEnv S.nocell (fun y hy => absurd hy (by simp)) (fun h₁ hns hsb => ⟨lim.fresh _ hsb, ?_⟩) S.kind)
  have kp : ∀ b o, z.heap.get? b = some o → h₁.get? b = some o := fun b o e => hsb.extBut b o (Nat.ne_of_lt (Heap.lt_size e)) (Heap.get?_push_of_some _ e)
  have J : Inv (ncx (L2.CX P w) P w K mg base fr F.nf f B up z G E) [] (startF fr [] ws) G { z with heap := h₁, toks := z.toks + ([] : List (Str × Value)).length } := inv_startN (F := F.nf) (us := []) (vs := []) S hr.hd e0 rfl .nil C hns kp
  refine PySem.W.kla_codeExpr (wpAny_mono ((body (hr.deeper _)).run [] _ _ G R J q) (fun v z' y => ?_) fun _ _ y => y)
  obtain ⟨x, G', J', rv, y⟩ := y
  exact ⟨x, G', J'.os, J'.bare, J'.base, J'.hok, rv, y⟩
/-- what is known of a lambda that was made in X -/
structure LamGood (X : Cx) (k : Nat) (F : LF) (fr : List Str) (js : List Nat) (t : XK → TE) : Prop where
  sc : NScope fr [] fr F.sc
  bd : ∀ pm cv ct, bindArgs (PySem.W.kla_fn "<lambda>" F.q F.ps F.ex F.sc F.cl pm cv ct) ⟨[], []⟩ = pure []
  caps : X.Ok → Caps X F.cl fr js
  body : ∀ f B up z G E, Room k (B.deeper (envF F.nf f z.heap.objs.size)) → PE (ncx (L2.CX X.prog X.w) X.prog X.w X.K X.mg X.base fr F.nf f B up z G E) F.ex (t E)
/-- x(), x holding it -/
theorem pe_lam0 {Z : Cx} {F : LF} {f : Addr} {fr : List Str} {ws : List (Option V)} {t : XK → TE} {k i : Nat} {a : Str} {W : WX} {p1 p2 : Pos} (tk : Takes Z W) (hr : Room (k + 1) Z.A) (S : NScope fr [] fr F.sc)
    (bd : ∀ pm cv ct, bindArgs (PySem.W.kla_fn "<lambda>" F.q F.ps F.ex F.sc F.cl pm cv ct) ⟨[], []⟩ = pure [])
    (body : ∀ f B up z G E, Room k (B.deeper (envF F.nf f z.heap.objs.size)) → PE (ncx (L2.CX Z.prog Z.w) Z.prog Z.w Z.K Z.mg Z.base fr F.nf f B up z G E) F.ex (t E))
    (C : CellsAt F.cl fr ws Z.s_0.heap Z.H_0) (nf : ∀ y c, F.cl.lookup y = some c → c ∉ Z.fs) (nx : ∀ y c, F.cl.lookup y = some c → c ∉ Z.ex) (hN : Z.N[i]? = some a) (hv : Vis Z.env.scope a) (hd : (a == ("__debug__" : Str)) = false := by decide) (hcd : (a == ("__classdict__" : Str)) = false := by decide) :
    PE Z (.Call (.Name a p1) [] [] p2) (fun σ G Q => σ[i]? = some (some (.ref f)) ∧ G f = some (LamO f F) ∧ G F.c = some (CodeO F.c F.q) ∧ t (WE W σ) (startF fr [] ws) G Q) := by
  refine ⟨fun pins s σ H Q I h => ?_⟩
  obtain ⟨hs, hf, hc, ht⟩ := h
  refine wpAny_Call_Name_kw (thn ((pe_var (pos := p1) (i := i) hN hv hd hcd).run pins s σ H (fun v G => v = .ref f ∧ G = H) I ⟨.ref f, hs, rfl, rfl⟩) fun u s1 ⟨v, G, I1, rv, ev, eG⟩ => ?_)
  subst ev eG
  obtain rfl : u = Value.ref f := rv
  obtain ⟨pm, ct, ho⟩ := lamO_at I1.hok hf
  refine PySem.W.callWith_F0 ⟨_, _, _, _, ho⟩ (wpAny_call (codeAny_mono (lam_run (E := WE W σ) hr I1.env0 hf hc S (C.later nf nx I1) bd (body f Z.A Z.stack s1 G (WE W σ)) ht) fun r z y => ?_))
  cases r with
  | error e => exact passAt tk σ pins G s1 e z I1 y
  | ok fl => cases fl with
    | ret u => exact I1.after y
    | next => cases y
    | brk => cases y
    | cont => cases y
end EW
set_option Elab.async false
set_option linter.all false
set_option maxRecDepth 100000
set_option maxHeartbeats 4000000
set_option exponentiation.threshold 30000
namespace EW
open PySem PySem.Spec PyProof.Rows L2 Evl LamX NdefX
/-! ### a caught error that was kept: its class, its value -/
/-- what its class says -/
structure ErC (K : PySem.W.Frag) (C : Addr) : Prop where
  is : ExcC K C
  get : XfC K C
  no : PySem.W.findIn K (.ref C) "value" = some none
section
variable {X : Cx}
theorem er_inst {P : Program} {w : World} {H : Hp} {h : Heap} {a C dd : Addr} {fs : List (Str × V)} (hok : HOk P w H h) (ha : H a = some (ErO (.ref C) (some dd) a)) (hd : H dd = some (.xd fs)) :
    ∃ oe od, PySem.W.InstAt h a oe C (some od) ∧ ∀ f, ∃ r, PySem.W.lookIn f od = some r ∧ RelO (fs.lookup f) r := by
  obtain ⟨oe, vs, e, z, hv⟩ := erO_at hok ha
  have x : ObjOk P w H h dd (.xd fs) := hok dd _ hd
  obtain ⟨mA, ns, rel⟩ := x
  obtain ⟨od, ho, hl⟩ := lookIn_ns ns
  exact ⟨oe, od, ⟨e, z.1, by unfold PySem.W.notCls; rw [hv] <;> rfl, by rw [z.2]; exact ho⟩, fun f => ⟨_, hl f, rel f⟩⟩
def rIsEr (K : PySem.W.Frag) : List V → Hp → VK → Prop := fun xs H Q => ∃ (a C dd : Addr) (fs : List (Str × V)) (c : V) (cv : Value) (b : Bool), xs = [.ref a, c] ∧ H a = some (ErO (.ref C) (some dd) a) ∧ H dd = some (.xd fs) ∧ ErC K C ∧ (∀ u, RelV c u → u = cv) ∧ PySem.W.kitOne K (.ref C) cv = some b ∧ Q (.bl b) H
theorem call_isEr : CallR X (.builtin "isinstance") (rIsEr X.K) := by
  intro pins s σ H xs us Q I r h
  obtain ⟨a, C, dd, fs, c, cv, b, rfl, ha, hd, ec, hcv, kit, q⟩ := h
  cases r with
  | cons rx rr => cases rr with
    | cons rt rr =>
      cases rr
      cases rx
      obtain rfl := hcv _ rt
      obtain ⟨oe, od, J, _⟩ := er_inst I.hok ha hd
      have i := ec.is
      obtain ⟨cd, hc, _⟩ := PySem.W.any_some i.hd
      exact PySem.W.kia_one (PySem.W.kitx_exc (by rw [hc] <;> rfl) i.hg i.hk i.hs i.ha i.hn i.ht i.hm) I.kIn J kit (fun z => nomatch z) fun tk => ⟨.bl b, H, I.kept (t' := tk) fun _ _ z => z, rfl, q⟩
/-- e.value -/
def tErV (K : PySem.W.Frag) (te : TE) : TE := fun σ H Q => te σ H fun x G => ∃ a C dd v, x = .ref a ∧ G a = some (ErO (.ref C) (some dd) a) ∧ G dd = some (.xd [(("value" : Str), v)]) ∧ ErC K C ∧ Q v G
theorem pe_erV {e : Expr} {te : TE} {pos : Pos} (he : PE X e te) (hb : attributeBase e "value" X.env (eval e X.env) = eval e X.env := by rfl) : PE X (.Attribute e "value" pos) (tErV X.K te) := by
  refine ⟨fun pins s σ H Q I h => ?_⟩
  refine attr_of hb (thn (he.run pins s σ H _ I h) fun u s1 ⟨x, G, I1, rx, a, C, dd, v, ex, ha, hd, ec, q⟩ => ?_)
  subst ex
  obtain rfl : u = Value.ref a := rx
  obtain ⟨oe, od, J, at_⟩ := er_inst I1.hok ha hd
  obtain ⟨r, hr, rel⟩ := at_ "value"
  have l : List.lookup ("value" : Str) [(("value" : Str), v)] = some v := by simp [List.lookup]
  rw [l] at rel
  obtain ⟨u, hu, ru⟩ := RelO.some_of rel
  subst hu
  exact HandSPX.exc_get I1.kIn J ec.get.ga ec.get.gg ec.get.exC (PySem.W.findObj_own ec.get.hdC ec.no rfl hr) (handed_of ru) ⟨v, G, I1.tok _, ru, q⟩
end
/-! ### readings -/
section
variable {K : PySem.W.Frag} {σ : L2.St} {H : Hp} {ta tb : TE} {xs ys : List V}
theorem en_lst2U (ha : EvU ta σ H xs) (hb : EvU tb σ H ys) : EvN (tLst (tCons ta (tCons tb tNil))) σ H (fun v H => ∃ l t u, v = .ref l ∧ H l = some (.lst [.ref t, .ref u]) ∧ H t = some (.tup xs) ∧ H u = some (.tup ys)) := fun H1 e Q q =>
  ha H1 e _ fun t H2 n2 e2 h2 => hb H2 (e.trans e2) _ fun u H3 n3 e3 h3 => ⟨by show 2 ≤ sizeLine; decide, fun l hn => q l _ (fresh_back (e2.trans e3) hn) ((e2.trans e3).trans (Ex.new hn)) ⟨l, t, u, rfl, upd_same, Ex.new hn _ _ (e3 _ _ h2), Ex.new hn _ _ h3⟩⟩
/-- [word for word, is_so in marks if is_so] -/
theorem en_marks {l t u : Addr} {a b : V} {p q : Bool} {m : Nat} (hm : σ[m]? = some (some (.ref l))) (h4 : 4 < σ.length) (h5 : 5 < σ.length) (m4 : m ≠ 4) (m5 : m ≠ 5) (hl : H l = some (.lst [.ref t, .ref u])) (ht : H t = some (.tup [a, .bl p])) (hu : H u = some (.tup [b, .bl q])) :
    EvN (tLc (iList K (tVar m)) (gTup K 2 (gCons (gName 4) (gCons (gName 5) gNil))) (tB (tVar 5)) (tVar 4) [4, 5]) σ H (fun v H => ∃ L, v = .ref L ∧ H L = some (.lst ((if p = true then [a] else []) ++ if q = true then [b] else []))) := fun H1 e Q k =>
  ⟨.ref l, hm, l, rfl, ⟨_, sq_of (e _ _ hl)⟩, fun D hD => by
    refine lc_list (xs := [.ref t, .ref u]) (fun i G => G D = some (.lst (((if p = true then [a] else []) ++ if q = true then [b] else []).take (if i = 0 then 0 else if i = 1 then (if p = true then 1 else 0) else 2)) ) ∧ ∀ c o, c ≠ D → H1 c = some o → G c = some o) ⟨by simp [upd_same], fun c o n y => by rw [upd_ne n]; exact y⟩ (fun i G _ y => sq_of (y.2 l _ (ne_of_none (e _ _ hl) hD) (e _ _ hl))) ?_ ?_
    · intro i x G hx ⟨acc, st⟩
      have ln : ∀ y z : V, (((wipe σ [4, 5]).set 4 (some y)).set 5 (some z))[5]? = some (some z) := fun y z => by simp [wipe, h5]
      have ln4 : ∀ y z : V, (((wipe σ [4, 5]).set 4 (some y)).set 5 (some z))[4]? = some (some y) := fun y z => by simp [wipe, h4]
      have wp : ∀ y z : V, wipe (((wipe σ [4, 5]).set 4 (some y)).set 5 (some z)) [4, 5] = wipe σ [4, 5] := fun y z => by
        refine List.ext_getElem? fun j => ?_
        simp only [wipe, List.getElem?_set, List.length_set]
        by_cases j4 : 4 = j
        · subst j4; simp [h4]
        · by_cases j5 : 5 = j
          · subst j5; simp [h5]
          · simp [j4, j5]
      match i, hx with
      | 0, hx =>
        have hx : x = .ref t := by simpa using hx.symm
        subst hx
        refine ⟨t, [a, .bl p], rfl, st_of (st t _ (ne_of_none (e _ _ ht) hD) (e _ _ ht)), rfl, a, _, rfl, .bl p, _, rfl, rfl, wp a (.bl p), ?_⟩
        refine ⟨.bl p, ln _ _, p, rfl, ?_⟩
        cases p with
        | true => exact ⟨a, ln4 _ _, [], by simpa using acc, by decide, by simp [upd_same], fun c o n y => by rw [upd_ne n]; exact st c o n y⟩
        | false => exact ⟨by simpa using acc, st⟩
      | 1, hx =>
        have hx : x = .ref u := by simpa using hx.symm
        subst hx
        refine ⟨u, [b, .bl q], rfl, st_of (st u _ (ne_of_none (e _ _ hu) hD) (e _ _ hu)), rfl, b, _, rfl, .bl q, _, rfl, rfl, wp b (.bl q), ?_⟩
        refine ⟨.bl q, ln _ _, q, rfl, ?_⟩
        cases q with
        | true =>
          refine ⟨b, ln4 _ _, if p = true then [a] else [], ?_, by (cases p; exact (by decide : 0 < sizeLine); exact (by decide : 1 < sizeLine)), ?_, fun c o n y => by rw [upd_ne n]; exact st c o n y⟩
          · rw [acc]
            cases p <;> simp
          · cases p <;> simp [upd_same]
        | false =>
          refine ⟨?_, st⟩
          rw [acc]
          cases p <;> simp
      | i + 2, hx => simp at hx
    · intro G ⟨acc, st⟩
      refine k D G hD (fun c o y => st c o (ne_of_none y hD) y) ⟨D, rfl, ?_⟩
      rw [acc]
      cases p <;> cases q <;> simp⟩
end
/-! ### _law_heard -/
abbrev sHeard : Stmt := top 53
abbrev nHeard : List Str := ["call", "caught", "error", "marks", "word", "is_so"]
theorem scHeard : FnScope nHeard ["call"] (defScope sHeard) := ⟨rfl, rfl, rfl, by decide +kernel, rfl, by decide +kernel, by decide +kernel⟩
/-- what it leans on: D the package's error, C1 and C2 its two classes -/
structure Hears (K : PySem.W.Frag) (mg : Str → Option Value) (D C1 C2 : Addr) : Prop where
  gD : mg "EndsError" = some (.ref D)
  g1 : mg "BadRows" = some (.ref C1)
  g2 : mg "BadRow" = some (.ref C2)
  isi : mg "isinstance" = none
  e1 : ErC K C1
  e2 : ErC K C2
  x1 : PySem.W.exmOne K (.ref C1) (.ref D) = some true
  x2 : PySem.W.exmOne K (.ref C2) (.ref D) = some true
  k11 : PySem.W.kitOne K (.ref C1) (.ref C1) = some true
  k12 : PySem.W.kitOne K (.ref C1) (.ref C2) = some false
  k21 : PySem.W.kitOne K (.ref C2) (.ref C1) = some false
  k22 : PySem.W.kitOne K (.ref C2) (.ref C2) = some true
/-- the reading: what the lambda v does is told at the state σ0 in which the block began -/
def tHeard (X : Cx) (k : Nat) (C1 C2 : Addr) (σ0 : L2.St) (te : TE) : TE := fun σ H Q => tCons te tNil σ H fun vs G => ∃ (f : Addr) (F : LF) (fr : List Str) (js : List Nat) (t : XK → TE) (b : Bool) (y : V), vs = [.ref f] ∧ G f = some (LamO f F) ∧ G F.c = some (CodeO F.c F.q) ∧ LamGood X k F fr js t ∧
  (∀ G', Ex G G' → ∀ E Q', Out (if b = true then C1 else C2) y G' E → t E (startF fr [] (js.map (slotAt σ0))) G' Q') ∧ ∀ L T G', Ex G G' → G' L = some (.lst [.str (if b = true then "rows" else "row")]) → G' T = some (.tup [.ref L, y]) → Q (.ref T) G'
theorem pe_heard {X : Cx} {pins : List (Addr × Obj)} {σ0 : L2.St} {G0 : Hp} {z0 : Shared} {sc : Scope} {C : Addr} {cl : List (Str × Addr)} {fp : List Addr} {k : Nat} {fH D C1 C2 : Addr} {fdH : FuncData} {e : Expr} {te : TE} {p pos : Pos} (J : Inv X pins σ0 G0 z0) (hfp : ∀ b ∈ fp, FpOk X pins G0 b) (all : ∀ y, X.fn y = true)
    (F : Fun X.K "_law_heard" "_law_heard" sHeard fH fdH) (gH : X.mg "_law_heard" = some (.ref fH)) (kH : PySem.W.keepIn X.K (.ref fH) = true) (bH : Binds X.K fdH ["call"] []) (U : Hears X.K X.mg D C1 C2) (hr : Room (k + 2) X.A) (he : PE (bk X sc z0 G0 C cl fp) e te)
    (hg : Gl (bk X sc z0 G0 C cl fp) "_law_heard" := by rfl) (hs : starEach (e :: []) (bk X sc z0 G0 C cl fp).env = (false, eval e (bk X sc z0 G0 C cl fp).env) :: starEach [] (bk X sc z0 G0 C cl fp).env := by rfl) (hpl : (backTo pos (starEach [] (bk X sc z0 G0 C cl fp).env)).any (·.1) = false := by rfl) :
    PE (bk X sc z0 G0 C cl fp) (.Call (.Name "_law_heard" p) [e] [] pos) (tHeard X k C1 C2 σ0 te) := by
  refine ⟨fun pins' s σ H Q I h => ?_⟩
  refine wpAny_Call_Name_kw (ld_glob I hg gH ?_ (by decide))
  refine PySem.W.callWith_K (h₀ := X.base) I.ok.mod.kin kH (thn ((pa_cons he pa_nil hs).run pos pins' s σ H _ I h) fun us s1 ⟨vs, H1, I1, r, q⟩ => ⟨I1.kIn, ?_⟩) hs hpl
  obtain ⟨f, L, fr, js, t, b, y, ev, hf, hc, good, out, back⟩ := q
  subst ev
  cases r with
  | cons r1 rr =>
  cases rr
  cases r1
  -- the cells
  have C0 := cells_of J (good.caps J.ok)
  have sub := (good.caps J.ok).sub
  have C1' : CellsAt L.cl fr (js.map (slotAt σ0)) s1.heap H1 := CellsAt.later (X := bk X sc z0 G0 C cl fp) C0 (fun y c e => cell_nofr J (all y) (sub y c e)) (fun y c e m => (hfp c m).2.2.2.2.1 y c (sub y c e) rfl) I1
  obtain ⟨oc, od, kV, doc, pm, an, cdv, ct, osl, rfl, lk, hcd⟩ := F.ex
  have bd := bH s1 [.ref f] I1.kIn rfl
  have Cc : ErC X.K (if b = true then C1 else C2) := by (cases b; exact U.e2; exact U.e1)
  refine wpAny_call (codeAny_mono (run_ofS (CX := CX0) (E := E0) (N := nHeard) (ps := ["call"]) (us := [.ref f]) (vs := [.ref f]) (Q := Q) lk hcd scHeard (k := k + 1) hr I1.env0 bd (.cons rfl .nil) rfl fun hr' => ?_) fun r z w => ?_)
  · refine ⟨_, pss_cons (ps_asg pe_non (pg_name (i := 1) scHeard.nd rfl (.inl rfl)))
      (pss_cons (ps_try_trk (n := "error") (i := 2) (c := .ref D) (tb := fun W => tDrop fun σ G Q => σ[0]? = some (some (.ref f)) ∧ G f = some (LamO f L) ∧ G L.c = some (CodeO L.c L.q) ∧ t (WE W σ) (startF fr [] (js.map (slotAt σ0))) G Q) rfl rfl rfl scHeard.nd rfl rfl ⟨rfl, by decide, .inl U.gD⟩
          (fun W pn xe tk => pss_one (ps_expr (pe_lam0 tk hr' good.sc good.bd (fun f B up z G E hb => good.body f B up z G E hb) C1' (fun y c e => cell_nofr J (all y) (sub y c e)) (fun y c e m => by cases m) rfl (.inl rfl)))) fun a pn => pss_one (ps_asg (pv 2) (pg_name (i := 1) scHeard.nd rfl (.inl rfl))))
      (pss_cons (ps_if (pt_cmpR op_isN1 (pv 1) pe_non (nomark _)) (pss_one (ps_ret pe_non)) pss_nil)
      (pss_cons (ps_asg (pe_lst (pa_cons (pe_tup (pa_cons pe_str (pa_cons (pe_callB call_isEr (by rfl) U.isi (by decide +kernel) (pa_cons (pv 1) (pa_cons (pe_glob (v := .ref C1) rfl U.g1 rfl) pa_nil))) pa_nil)))
          (pa_cons (pe_tup (pa_cons pe_str (pa_cons (pe_callB call_isEr (by rfl) U.isi (by decide +kernel) (pa_cons (pv 1) (pa_cons (pe_glob (v := .ref C2) rfl U.g2 rfl) pa_nil))) pa_nil))) pa_nil))) (pg_name (i := 3) scHeard.nd rfl (.inl rfl)))
      (pss_one (ps_ret (pe_tup (pa_cons (pe_lc (own := [("word", 4), ("is_so", 5)]) (g := gTup X.K 2 (gCons (gName 4) (gCons (gName 5) gNil))) (tt := tB (tVar 5)) rfl scHeard.nd (pi_list (pv 3)) (blkOk_by (N := nHeard) (sc := defScope sHeard) (by decide +kernel))
          (fun _ _ _ _ _ => pg_tup rfl (pgs_cons (pg_name (i := 4) scHeard.nd rfl (.inl rfl)) (pgs_cons (pg_name (i := 5) scHeard.nd rfl (.inl rfl)) pgs_nil))) (fun _ _ _ _ _ => pts_one (pt_val (pv 5))) (fun _ _ _ _ _ => pv 4)) (pa_cons (pe_erV (pv 1)) pa_nil)))))))), ?_⟩
    refine q_asg ev_c fun H2 e2 => ?_
    refine ⟨rfl, e2 _ _ hf, e2 _ _ hc, out H2 e2 _ _ fun G d e3 dn => ⟨?_, fun a an => ?_⟩⟩
    · (cases b; exact U.x2; exact U.x1)
    -- the error at a, its fields at d
    have nda : d ≠ a := fun z => by rw [z, upd_same] at an; cases an
    refine s_asg (ev_var rfl) fun H3 e4 => ?_
    have ha : H3 a = some (ErO (.ref (if b = true then C1 else C2)) (some d) a) := e4 _ _ upd_same
    have hd : H3 d = some (.xd [(("value" : Str), y)]) := e4 _ _ ((upd_ne nda).trans upd_same)
    have up : Ex H1 H3 := (e2.trans e3).trans (((Ex.new dn).trans (Ex.new an)).trans e4)
    refine q_when (b := false) (et_is (et_isN (ev_var rfl)) rfl) (fun z => by cases z) fun _ H4 e5 => ?_
    have isr : ∀ {c : Addr} {p : Bool} {σ : L2.St} {G : Hp}, σ[1]? = some (some (.ref a)) → Ex H3 G → PySem.W.kitOne X.K (.ref (if b = true then C1 else C2)) (.ref c) = some p → Ev (tCB (rIsEr X.K) (tCons (tVar 1) (tCons (tC (.ref c)) tNil))) σ G (.bl p) := fun hσ e kit => ev_cb (ea_cons (ev_var hσ) (ea_cons ev_c ea_nil)) fun H5 e6 Q q => ⟨a, _, d, _, _, _, _, rfl, e6 _ _ (e _ _ ha), e6 _ _ (e _ _ hd), Cc, fun u ru => ru, kit, q H5 (Ex.refl _)⟩
    refine qn_asg (en_lst2U (xs := [.str "rows", .bl b]) (ys := [.str "row", .bl !b]) (eu_tup (ea_cons ev_c (ea_cons (isr rfl e5 (by (cases b; exact U.k21; exact U.k11))) ea_nil)) (by show 2 ≤ 100000; decide)) (eu_tup (ea_cons ev_c (ea_cons (isr rfl e5 (by (cases b; exact U.k22; exact U.k12))) ea_nil)) (by show 2 ≤ 100000; decide))) fun l H5 l0 e6 ⟨l', t1, t2, el, hl, ht1, ht2⟩ => ?_
    cases el
    have em := en_marks (K := X.K) (σ := [some (.ref f), some (.ref a), none, some (.ref l), none, none]) (m := 3) rfl (by show 4 < 6; decide) (by show 5 < 6; decide) (by decide) (by decide) hl ht1 ht2
    unfold tRet tTup tCons
    refine em H5 (Ex.refl _) _ fun L H6 L0 e7 ⟨L', eL, hL⟩ => ?_
    cases eL
    refine ⟨.ref a, rfl, a, _, d, y, rfl, e7 _ _ (e6 _ _ (e5 _ _ ha)), e7 _ _ (e6 _ _ (e5 _ _ hd)), Cc, ?_⟩
    refine ⟨by show 2 ≤ sizeLine; decide, fun T hT => back L T _ ((up.trans e5).trans ((e6.trans e7).trans (Ex.new hT))) (Ex.new hT _ _ ?_) upd_same⟩
    rw [hL]
    cases b <;> rfl
  · cases r with
    | error e => exact (show False from w).elim
    | ok fl => cases fl with
      | ret u => exact I1.after w
      | next => cases w
      | brk => cases w
      | cont => cases w
end EW
set_option Elab.async false
set_option linter.all false
set_option maxRecDepth 100000
set_option maxHeartbeats 4000000
set_option exponentiation.threshold 30000
namespace EW
open PySem PySem.Spec PyProof.Rows L2 Evl
/-! ### a ROW that holds everywhere follows once, from none -/
section
variable {P : Program} {w : World} {K : PySem.W.Frag} {mg : Str → Option Value} {base : Heap}
structure Flat (m : Nat) (r : Row) : Prop where
  k : ∀ j, j < m → r.2 j = 0
  c : 0 ≤ r.1
def QkZ (K : PySem.W.Frag) (n : Nat) : V → Hp → Prop := fun v H => ∃ T q, v = .ref T ∧ SqT K H T [.int 1, q] ∧ IntsT K n (fun _ => 0) q H
theorem qkZ_mono {n : Nat} : Mono (QkZ K n) := fun v H H' e ⟨T, q, h1, h2, h3⟩ => ⟨T, q, h1, ex_t e h2, intsT_mono _ _ _ e h3⟩
def spQuickZ (K : PySem.W.Frag) : Sp := fun vs H Q _ => ∃ (n m : Nat) (R : Nat → Row) (r : Row) (v u : V), vs = [v, u] ∧ RwsP K n m R v H ∧ RwP K m r u H ∧ Flat m r ∧ m ≤ 1000 ∧ n ≤ 1000 ∧ RetP (QkZ K n) H Q
theorem ok_quickZ {f : Addr} {fd : FuncData} (F : Fun K "quick_times" "quick_times" sQuick f fd) (B : Bl2 mg) : FnOk P w K mg base CX0 1 f fd ["rows", "row"] (spQuickZ K) := by
  refine F.ok scQuick (fun vs H Q E h => ?_) (fun cdv A outer s H vs Q E hr h => ?_)
  · obtain ⟨n, m, R, r, v, u, rfl, _⟩ := h
    rfl
  · obtain ⟨n, m, R, r, v, u, rfl, hv, hu, fl, hm, hn, k⟩ := h
    refine ⟨_, pss_cons (ps_if (PW.pt (pw_and (pt_val (pe_callB (cr_all rfl) (by rfl) B.all (by decide +kernel) (pa_cons (pe_lc (own := [("by", 4)]) (g := gName 4) (tt := tYes) rfl scQuick.nd (pi_tup (pe_ix ix_tup (pv 1) pe_int (fun _ _ => rfl))) (blkOk_by (N := nQuick) (sc := defScope sQuick) (by decide +kernel))
          (fun _ _ _ _ _ => pg_name (i := 4) scQuick.nd rfl (.inl rfl)) (fun _ _ _ _ _ => pts_nil) (fun _ _ _ _ _ => pe_cmpR op_eq (pv 4) pe_int (nomark _))) pa_nil))) (pw_and1 (pt_cmpR op_ge (pe_ix ix_tup (pv 1) pe_int (fun _ _ => rfl)) pe_int (nomark _)))))
        (pss_one (ps_ret (pe_tup (pa_cons pe_int (pa_cons (pe_op op_repU (pe_tup (pa_cons pe_int pa_nil)) (pe_callB call_len_seq (by rfl) B.len PySem.boot_len (pa_cons (pv 0) pa_nil))) pa_nil))))) pss_nil)
      pss_dead, ?_⟩
    refine q_when (b := true) (et_is (et_and (et_B (ev_allN (n := m) (f := fun j => decide (r.2 j = 0)) (en_lc (sr_tupP (ep_row1 (ep_varM rfl hu rw_mono)) fun _ => mono_eq) (by omega) (fun _ => mono_eq) ?_))) fun _ => et_test (ev_op (ev_row0 (ep_varM rfl hu rw_mono)) ev_c rv_I0)) ?_) (fun hb H1 e1 => ?_) fun hb => by cases hb
    · intro i x H2 hi e2 hX
      subst hX
      refine ⟨_, fun Q q => q, rfl, EvP.d tst_eq (ev_p (ev_is (ev_op (ev_var rfl) ev_c (rv_eq rfl)) ?_))⟩
      congr 1
      rw [decide_eq_decide]
      exact ⟨fun z => by injection z, fun z => by rw [z]⟩
    · simp only [Bool.and_eq_true, List.all_eq_true, List.mem_range, decide_eq_true_eq]
      exact ⟨fl.k, fl.c⟩
    · exact sp_ret (ep_w (eu2 (ep_zeros (n := n) (ev_lenT (ep_varM rfl (rws_mono _ _ _ e1 hv) rws_mono)) hn) intsT_mono) fun v H2 e2 ⟨T, q, h1, h2, h3⟩ => ⟨T, q, h1, h2, h3⟩) (k.go e1)
def FolZ (K : PySem.W.Frag) (n : Nat) : V → Hp → Prop := fun v H => ∃ T q, v = .ref T ∧ SqT K H T [.str "times", .int 1, q] ∧ IntsT K n (fun _ => 0) q H
def spToldZ (K : PySem.W.Frag) : Sp := fun vs H Q _ => ∃ (n m : Nat) (R : Nat → Row) (r : Row) (v u : V), vs = [.int (m : Int), v, u] ∧ RwsP K n m R v H ∧ RwP K m r u H ∧ Flat m r ∧ m ≤ 24 ∧ n ≤ 60 ∧ RetP (FolZ K n) H Q
theorem ok_toldZ {f fQ : Addr} {fd fdQ : FuncData} (F : Fun K "told_following" "told_following" sTold f fd) (Wo : Words mg) (Qk : Has P w K mg base "quick_times" 1 ["rows", "row"] (spQuickZ K) fQ fdQ) : FnOk P w K mg base CX0 2 f fd ["many", "rows", "row"] (spToldZ K) := by
  obtain ⟨⟨tt, gt⟩, _, _⟩ := Wo
  refine F.ok scTold (fun vs H Q E h => ?_) (fun cdv A outer s H vs Q E hr h => ?_)
  · obtain ⟨n, m, R, r, v, u, rfl, _⟩ := h
    rfl
  · obtain ⟨n, m, R, r, v, u, rfl, hv, hu, fl, hm, hn, k⟩ := h
    refine ⟨_, pss_cons (ps_set (i := 3) scTold.nd rfl (.inl rfl) (pe_cl Qk hr (pa_cons (pv 1) (pa_cons (pv 2) pa_nil))))
      (pss_cons (ps_if (pt_cmpR op_notN1 (pv 3) pe_non (nomark _)) (pss_one (ps_ret (pe_tup (pa_cons (pe_glob (v := .str "times") rfl gt ⟨_, rfl⟩) (StX.pa_star (pv 3) pa_nil))))) pss_nil) pss_dead), ?_⟩
    refine qp_asg (P := QkZ K n) (ep_callV (ea_cons (ev_var rfl) (ea_cons (ev_var rfl) ea_nil)) fun H1 e1 Q q => ⟨n, m, R, r, v, u, rfl, rws_mono _ _ _ e1 hv, rw_mono _ _ _ e1 hu, fl, by omega, by omega, q⟩) fun qv H1 e1 hq => ?_
    have nn : qv ≠ .non := by
      obtain ⟨T, q, rfl, _⟩ := hq
      intro z
      cases z
    refine q_when (b := true) (et_is (et_notN (ev_var rfl)) (by simp [nn])) (fun hb H2 e2 => ?_) fun hb => by cases hb
    exact sp_ret (P := FolZ K n) (ep_w (ep_star2 (P := QkZ K n) (AB := fun a b H => a = .int 1 ∧ IntsT K n (fun _ => 0) b H) (ep_varM rfl (qkZ_mono _ _ _ e2 hq) qkZ_mono) (fun v H ⟨T, q, h1, h2, h3⟩ => ⟨T, _, q, h1, h2, rfl, h3⟩) (fun a b H H' e ⟨h1, h3⟩ => ⟨h1, intsT_mono _ _ _ e h3⟩)) fun v H3 e3 ⟨T, a, b, h1, h2, h3, h4⟩ => ⟨T, b, h1, by subst h3; exact h2, h4⟩) (k.go (e1.trans e2))
theorem ok_folZ {f fC fT : Addr} {fd fdC fdT : FuncData} (F : Fun K "follows" "follows" sFollows f fd) (C : Has P w K mg base "check_following" 4 ["many", "rows", "row"] (spCheckFollowing K) fC fdC) (T : Has P w K mg base "told_following" 2 ["many", "rows", "row"] (spToldZ K) fT fdT) :
    FnOk P w K mg base CX0 5 f fd ["many", "rows", "row"] (spToldZ K) := by
  refine F.ok scFollows (fun vs H Q E h => ?_) (fun cdv A outer s H vs Q E hr h => ?_)
  · obtain ⟨n, m, R, r, v, u, rfl, _⟩ := h
    rfl
  · obtain ⟨n, m, R, r, v, u, rfl, hv, hu, fl, hm, hn, k⟩ := h
    refine ⟨_, pss_cons (ps_expr (pe_cl C hr (pa_cons (pv 0) (pa_cons (pv 1) (pa_cons (pv 2) pa_nil))))) (pss_one (ps_ret (pe_cl T (hr.mono (by decide)) (pa_cons (pv 0) (pa_cons (pv 1) (pa_cons (pv 2) pa_nil)))))), ?_⟩
    refine q_drop (v := .non) (ev_call (ea_cons (ev_var rfl) (ea_cons (ev_var rfl) (ea_cons (ev_var rfl) ea_nil))) fun H1 e1 Q q E => ⟨m, n, R, r, v, u, rfl, rws_mono _ _ _ e1 hv, rw_mono _ _ _ e1 hu, hm, hn, q⟩) fun H1 e1 => ?_
    exact sp_ret (P := FolZ K n) (ep_callV (ea_cons (ev_var rfl) (ea_cons (ev_var rfl) (ea_cons (ev_var rfl) ea_nil))) fun H2 e2 Q q => ⟨n, m, R, r, v, u, rfl, rws_mono _ _ _ (e1.trans e2) hv, rw_mono _ _ _ (e1.trans e2) hu, fl, hm, hn, q⟩) (k.go e1)
end
end EW
set_option Elab.async false
set_option linter.all false
set_option maxRecDepth 100000
set_option maxHeartbeats 4000000
set_option exponentiation.threshold 30000
namespace EW
open PySem PySem.Spec PyProof.Rows L2 Evl
/-! ### defs that show data: no guard stands around them -/
section
variable {P : Program} {w : World} {K : PySem.W.Frag} {mg : Str → Option Value} {base : Heap} {k : Nat}
structure FnG (P : Program) (w : World) (K : PySem.W.Frag) (mg : Str → Option Value) (base : Heap) (k : Nat) (f : Addr) (fd : FuncData) (ps : List Str) (sp : Sp) : Prop where
  len : ∀ xs G R E, sp xs G R E → xs.length = ps.length
  go : ∀ (B : Around), B.guards = some [] → Room k B → ∀ (up : List Env) (z : Shared) (G : Hp), Env0 P w K mg base B up z G → ∀ (ar : Args) (ys : List Value) (xs : List V), Vals xs ys → BindsTo z fd ar (ps.zip ys) →
    ∀ (R : VK) (E : XK), sp xs G R E → codeAny (model P w) B (.call (.ref f) ar) (CR CX0 up P w G z R E) z
/-- how a body's end ends the call -/
theorem ends_call {N : List Str} {qual : Str} {sc : Scope} {f : Addr} {cd : Value} {B : Around} {up : List Env} {z : Shared} {G : Hp} {R : VK} {E : XK} {fl : Flow} {z' : Shared}
    (h : SP (cxOf CX0 P w K mg base N qual sc f cd B up z G E) [] { nx := fun _ G' => R .non G', rt := R } fl z') :
    CR CX0 up P w G z R E (.ok (.ret (match (generalizing := false) fl with | .ret v => v | _ => .none))) z' := by
  cases fl with
  | brk =>
    obtain ⟨_, _, _, q⟩ := h
    cases q
  | cont =>
    obtain ⟨_, _, _, q⟩ := h
    cases q
  | next =>
    obtain ⟨_, G', J, q⟩ := h
    exact ⟨.non, G', J.os, J.bare, J.base, J.hok, rfl, q⟩
  | ret u =>
    obtain ⟨x, _, G', J, rv, q⟩ := h
    exact ⟨x, G', J.os, J.bare, J.base, J.hok, rv, q⟩
theorem fun_okG {x qual : Str} {st : Stmt} {f : Addr} {fd : FuncData} {N ps : List Str} {sp : Sp} (F : Fun K x qual st f fd) (S : FnScope N ps (defScope st)) (len : ∀ xs G R E, sp xs G R E → xs.length = ps.length)
    (body : ∀ (cd : Value) (B : Around) (up : List Env) (z : Shared) (G : Hp) (xs : List V) (R : VK) (E : XK), B.guards = some [] → Room k (B.deeper (envOfC qual (defScope st) z.heap.objs.size f cd)) → sp xs G R E →
      ∃ t, PSs (cxOf CX0 P w K mg base N qual (defScope st) f cd B up z G E).nox (defBody st) t ∧ t { nx := fun _ G' => R .non G', rt := R } (start N xs) G) : FnG P w K mg base (k + 1) f fd ps sp := by
  obtain ⟨oc, od, kV, doc, pm, an, cd, ct, osl, rfl, lk, hcd⟩ := F.ex
  refine ⟨len, fun B hB hr up z G e0 ar ys xs rv hbd R E hsp => ?_⟩
  have kin : K.In z.heap := e0.mod.kin.keeps fun b o e => (e0.bs b o e).1
  refine codeAny_call_function hr.depth (kin _ _ lk) rfl S.co S.gen rfl (PySem.W.codeRec_of kin hcd) (hbd _ _ _ _ ?_)
  refine wpAny_newFunctionEnv_cells S.kind (fun y hy => ?_) fun env he z1 x => ?_
  · obtain ⟨n, v⟩ := y
    refine (S.par n (List.of_mem_zip hy).1).imp (fun q => q) fun q => ⟨q, ?_⟩
    exact PySem.W.cellsFrom_some _ _ _ (.inl q)
  · subst he
    obtain ⟨t, ht, hq⟩ := body cd B up z G xs R E hB (hr.deeper _) hsp
    have lim : z.heap.NoLimit := e0.mod.nolimit.keeps fun b o e => (e0.bs b o e).1
    have J := inv_start (CX := CX0) (E := E) S hr.hd e0 (len _ _ _ _ hsp) rv x
    exact ⟨lim.keeps x.toInCall.keep, codeAny_func (wpAny_mono (ht.nox.run [] z1 (start N xs) G _ J hq) (fun fl z' h => ends_call h) fun _ _ h => h)⟩
structure HasG (P : Program) (w : World) (K : PySem.W.Frag) (mg : Str → Option Value) (base : Heap) (x : Str) (k : Nat) (ps : List Str) (sp : Sp) (f : Addr) (fd : FuncData) : Prop where
  kp : PySem.W.keepIn K (.ref f) = true
  bd : Binds K fd ps []
  gl : mg x = some (.ref f)
  ok : FnG P w K mg base k f fd ps sp
end
theorem pe_clG {X : Cx} {x : Str} {k : Nat} {ps : List Str} {sp : Sp} {f : Addr} {fd : FuncData} {e : Expr} {es : List Expr} {t : TA} {p pos : Pos} {E : XK} (D : HasG X.prog X.w X.K X.mg X.base x k ps sp f fd) (gd : X.A.guards = some []) (hr : Room k X.A) (ha : PA X (e :: es) t) (hx : Passes CX0 X E := by exact pass0)
    (hg : Gl X x := by rfl) (hdb : (x == ("__debug__" : Str)) = false := by decide) (he : starEach (e :: es) X.env = (false, eval e X.env) :: starEach es X.env := by rfl) (hpl : (backTo pos (starEach es X.env)).any (·.1) = false := by rfl) :
    PE X (.Call (.Name x p) (e :: es) [] pos) (tCall sp [] E t) := by
  refine ⟨fun pins s σ H Q I h => ?_⟩
  refine wpAny_Call_Name_kw (ld_glob I hg D.gl ?_ hdb)
  refine PySem.W.callWith_K (h₀ := X.base) I.ok.mod.kin D.kp (thn (ha.run pos pins s σ H _ I h) fun us s1 ⟨vs, H1, I1, r, q⟩ => ⟨I1.kIn, ?_⟩) he hpl
  have q' : sp vs H1 Q E := by simpa using q
  have hl : (us ++ []).length = ps.length := by rw [List.append_nil, ← r.length]; exact D.ok.len _ _ _ _ q'
  have bd := D.bd s1 us I1.kIn hl
  rw [List.append_nil] at bd
  refine wpAny_call (codeAny_mono (D.ok.go X.A gd hr X.stack s1 H1 I1.env0 ⟨us, []⟩ us vs r bd Q E q') fun r z hz => ?_)
  cases r with
  | error e => exact hx pins σ H1 s1 e z I1 hz
  | ok fl => cases fl with
    | ret u => exact I1.after hz
    | next => cases hz
    | brk => cases hz
    | cont => cases hz
/-! ### the law's call -/
def scrO (vs : List Value) : Obj := { cls := .type "list", data := .seq vs.toArray }
def scrH (K : PySem.W.Frag) (a : Addr) (vs : List Value) (ns : List Int) : Hp := fun b => if b = a ∧ K.lookup a = none then some (.frz (scrO vs) (.lst (ns.map V.int))) else none
theorem scr_cases {K : PySem.W.Frag} {a : Addr} {vs : List Value} {ns : List Int} (b : Addr) : scrH K a vs ns b = none ∨ (b = a ∧ K.lookup a = none ∧ scrH K a vs ns b = some (.frz (scrO vs) (.lst (ns.map V.int)))) := by
  by_cases c : b = a ∧ K.lookup a = none
  · exact .inr ⟨c.1, c.2, if_pos c⟩
  · exact .inl (if_neg c)
theorem scr_only {K : PySem.W.Frag} {a : Addr} {vs : List Value} {ns : List Int} : Only (scrH K a vs ns) := fun b => (scr_cases b).imp (fun q => q) fun q => ⟨_, _, q.2.2⟩
section
variable {K : PySem.W.Frag} {a : Addr} {vs : List Value} {ns : List Int} {h : Heap}
theorem scr_sq (ha : h.get? a = some (scrO vs)) (kx : K.In h) (hi : IntsAre vs ns) (hl : ns.length ≤ sizeLine) : SqL K (scrH K a vs ns) a (ns.map V.int) := by
  cases e : K.lookup a with
  | none => exact .inl (.inr ⟨scrO vs, if_pos ⟨rfl, e⟩⟩)
  | some o =>
    have q := kx a o e
    rw [ha] at q
    cases q
    have n0 : scrH K a vs ns = fun _ => none := funext fun b => if_neg fun z => by rw [e] at z; cases z.2
    rw [n0]
    refine .inr ⟨_, vs.toArray, _, e, rfl, rfl, rfl, ?_, by simpa using vals_ints hi⟩
    rw [List.size_toArray, hi.length]
    exact hl
theorem scr_ok {P : Program} {w : World} (ha : h.get? a = some (scrO vs)) (hi : IntsAre vs ns) (hl : ns.length ≤ sizeLine) : HOk P w (scrH K a vs ns) h := fun b u q => by
  rcases scr_cases (K := K) (a := a) (vs := vs) (ns := ns) b with z | ⟨rfl, _, z⟩
  · rw [z] at q
    cases q
  · rw [z] at q
    cases q
    refine ⟨ha, ?_, vs, _, vals_ints hi, ha⟩
    rw [List.length_map]
    exact hl
/-- what stands apart from the script stands in the base -/
theorem scr_base {b : Addr} {o : Obj} (e : h.get? b = some o) (n : b = a → K.lookup a ≠ none) : (hidT h (scrH K a vs ns)).get? b = some o := hidT_get e (by
  rcases scr_cases (K := K) (a := a) (vs := vs) (ns := ns) b with z | ⟨c, d, _⟩
  · exact z
  · exact absurd d (n c))
theorem scr_ns (ha : h.get? a = some (scrO vs)) {b : Addr} {m : Str → Option Value} (q : h.Ns b m) : (hidT h (scrH K a vs ns)).Ns b m := by
  obtain ⟨o, es, ep, e, d, r⟩ := q
  refine ⟨o, es, ep, scr_base e fun c => ?_, d, r⟩
  subst c
  rw [ha] at e
  cases e
  exact absurd d (by intro z; cases z)
end
theorem law_callG {P : Program} {w : World} {K : PySem.W.Frag} {mg mb : Str → Option Value} {k : Nat} {fa a : Addr} {fd : FuncData} {x : Str} {sp : Sp} {z : Shared} {vs : List Value} {ns : List Int}
    (kx : K.In z.heap) (hm : z.heap.Ns mainGlobals mg) (hb : z.heap.Ns builtinsNs mb) (hbb : ∀ x : Str, x ≠ "__name__" → mb x = bootBuiltins x) (hlim : z.heap.NoLimit) (hg : z.gens = #[]) (ha : z.heap.get? a = some (scrO vs)) (hi : IntsAre vs ns) (hl : ns.length ≤ sizeLine) (hr : Room k callerA)
    (F : ∀ base : Heap, K.In base → base.Ns mainGlobals mg → FnG P w K mg base k fa fd [x] sp) (hbd : ∀ (s : Shared) (u : Value), BindsTo s fd ⟨[u], []⟩ [(x, u)]) (hsp : ∀ H : Hp, Only H → SqL K H a (ns.map V.int) → sp [.ref a] H (fun v _ => v = .bl true) fun _ _ _ => False) :
    codeAny (model P w) callerA (.call (.ref fa) ⟨[.ref a], []⟩) (fun r s' => r = .ok (.ret (.bool true)) ∧ OldK z.heap s'.heap ∧ s'.os = z.os ∧ AllBare s'.gens) z := by
  have kb : K.In (hidT z.heap (scrH K a vs ns)) := fun b o e => scr_base (kx b o e) fun c d => by
    subst c
    rw [d] at e
    cases e
  have lim : (hidT z.heap (scrH K a vs ns)).NoLimit := hlim.imp fun mc q => ⟨scr_ns ha q.1, q.2⟩
  have md : Mod K mg (hidT z.heap (scrH K a vs ns)) := ⟨kb, scr_ns ha hm, ⟨mb, scr_ns ha hb, hbb⟩, lim⟩
  have e0 : Env0 P w K mg (hidT z.heap (scrH K a vs ns)) callerA [] z (scrH K a vs ns) := by
    refine ⟨rfl, md, fun b o e => of_hidT e, Nat.le_of_eq (hidT_size _ _), trivial, fun b q => ?_, scr_ok ha hi hl, .of_eq hg⟩
    cases (show b ∈ ([] : List Addr) from q)
  refine codeAny_mono ((F _ kb (scr_ns ha hm)).go callerA rfl hr [] z _ e0 ⟨[.ref a], []⟩ [.ref a] [.ref a] (.cons rfl .nil) (hbd z _) _ _ (hsp _ scr_only (scr_sq ha kx hi hl))) fun r s' q => ?_
  match r, q with
  | .ok (.ret u), ⟨v, H', os, bare, un, hok', rv, q⟩ =>
    have q' : v = .bl true := q
    subst q'
    obtain rfl : u = Value.bool true := rv
    refine ⟨rfl, OldK.of_keep fun b o e => ?_, os, bare⟩
    rcases scr_cases (K := K) (a := a) (vs := vs) (ns := ns) b with c | ⟨_, _, c⟩
    · refine un.keep b o e c (fun y => ?_) (by simp)
      cases (show b ∈ ([] : List Addr) from y)
    · obtain ⟨e1, _⟩ := scr_ok (P := P) (w := w) ha hi hl b _ c
      obtain ⟨e2, _⟩ := hok' b _ (un.frzs b _ _ c)
      rw [e] at e1
      cases e1
      exact e2
/-- the goal that is left of the head, from a law's promise that wants no guards -/
theorem walkG {l : PySem.W.OpenLaw} {n k : Nat} {q : Program} {loose : List Str} {XP : (Str → Option Value) → Heap → Prop} {YP : World → Heap → Prop} {d : DefRec} {K : Params → PySem.W.Frag} {sp : World → Sp} {x : Str} (hn : l.most = some n) (hn2 : n ≤ sizeLine) (hdf : d.params.defaults = []) (hr : Room k callerA)
    (hY : ∀ (w : World) (h : Heap), YP w h → (K w.params).In h) (F : ∀ (w : World) (mg : Str → Option Value) (fa : Addr) (h : Heap), (K w.params).In h → h.Ns mainGlobals mg → mg d.name = some (.ref fa) →
      ∃ fd : FuncData, (∀ (s : Shared) (u : Value), BindsTo s fd ⟨[u], []⟩ [(x, u)]) ∧ ∀ base : Heap, (K w.params).In base → base.Ns mainGlobals mg → FnG l.prog w (K w.params) mg base k fa fd [x] (sp w))
    (hsp : ∀ (w : World) (H : Hp) (a : Addr) (ns : List Int), ns.length ≤ n → Only H → SqL (K w.params) H a (ns.map V.int) → sp w [.ref a] H (fun v _ => v = .bl true) fun _ _ _ => False) : PySem.W.WalkO q loose XP YP l.row.toRowW d [] (fun f vs => PySem.call f vs) := by
  refine Att.attach_call hn hdf fun w z0 z mg mb fa o pm cd doc a vs ns Gr Y ho hd hcd hmg hobj hints hlen hg => ?_
  obtain ⟨fd, hb, hF⟩ := F w mg fa _ (hY w _ Y) Gr.T.g hmg
  exact law_callG (hY w _ Y) Gr.T.g Gr.T.b Gr.T.builtins Gr.T.nolimit hg hobj hints (Nat.le_trans hlen hn2) hr hF hb fun H hO hS => hsp w H a ns hlen hO hS
end EW
set_option Elab.async false
set_option linter.all false
set_option maxRecDepth 100000
set_option maxHeartbeats 4000000
set_option exponentiation.threshold 30000
namespace EW
open PySem PySem.Spec PyProof.Rows L2 Evl LamX NdefX
section
variable {K : PySem.W.Frag} {σ : L2.St} {H H' : Hp} {ta tb te : TE} {p pq : Addr} {L L' M c d e : Nat} {D : Ends} {tu tz : TS}
/-! ### a value of some -/
def Alt (K : PySem.W.Frag) (p : Addr) (ds : List PyData) (v : V) (H : Hp) : Prop := ∃ d, d ∈ ds ∧ DH K p p d v H
theorem alt_mono {ds : List PyData} : Mono (Alt K p ds) := fun _ _ _ e ⟨d, h1, h2⟩ => ⟨d, h1, dh_mono _ _ _ e h2⟩
theorem alt_xb {ds : List PyData} {v : V} (x : Xb p H H') : Alt K p ds v H → Alt K p ds v H' := fun ⟨d, h1, h2⟩ => ⟨d, h1, dh_xb x h2⟩
theorem alt_of {ds : List PyData} {d : PyData} (h : EvP te σ H (DH K p p d)) (m : d ∈ ds) : EvP te σ H (Alt K p ds) := ep_w h fun v H2 _ hv => ⟨d, m, hv⟩
/-- a new list of such values -/
def LG (p : Addr) (G : V → Hp → Prop) (n : Nat) (v : V) (H : Hp) : Prop := ∃ l vs, v = .ref l ∧ H l = some (.lst vs) ∧ l ≠ p ∧ vs.length = n ∧ ∀ x ∈ vs, G x H
theorem lg_mono {G : V → Hp → Prop} {n : Nat} (mG : Mono G) : Mono (LG p G n) := fun v H H' e ⟨l, vs, h1, h2, h3, h4, h5⟩ => ⟨l, vs, h1, e _ _ h2, h3, h4, fun x hx => mG _ _ _ e (h5 x hx)⟩
theorem ep_lstL {G : V → Hp → Prop} {n : Nat} {tA : TA} (mG : Mono G) (at_ : At p pq H) (h : AL tA σ H G n) (hn : n ≤ 1000) : EvP (tLst tA) σ H (LG p G n) := fun H1 e Q q => h H1 e _ fun vs H2 e2 hl hvs => ⟨sz_of (by omega), fun l hl0 => q _ _ (e2.trans (Ex.new hl0)) ⟨l, vs, rfl, upd_same, (at_ne (at_ex at_ (e.trans e2)) hl0).1, hl, fun x hx => mG _ _ _ (Ex.new hl0) (hvs x hx)⟩⟩
theorem ep_catL2 {G : V → Hp → Prop} {n m : Nat} (mG : Mono G) (at_ : At p pq H) (ha : EvP ta σ H (LG p G n)) (hb : EvP tb σ H (LG p G m)) (hz : n + m ≤ 1000) : EvP (tOp rCat ta tb) σ H (LG p G (n + m)) := fun H1 e Q q => ha H1 e _ fun x H2 e2 ⟨l, vs, h1, h2, h3, h4, h5⟩ => hb H2 (e.trans e2) _ fun y H3 e3 ⟨r, ws, g1, g2, g3, g4, g5⟩ =>
  ⟨l, r, vs, ws, h1, g1, e3 _ _ h2, g2, sz_of (by omega), fun d hd => q _ _ ((e2.trans e3).trans (Ex.new hd)) ⟨d, _, rfl, upd_same, (at_ne (at_ex at_ ((e.trans e2).trans e3)) hd).1, by simp [h4, g4], fun x hx => by
    rcases List.mem_append.mp hx with hx | hx
    · exact mG _ _ _ (e3.trans (Ex.new hd)) (h5 x hx)
    · exact mG _ _ _ (Ex.new hd) (g5 x hx)⟩⟩
theorem m_ofV {G : V → Hp → Prop} {n i c : Nat} {E : XK} (at0 : At p pq H) (hσ : σ[i]? = some (some (V.ref p))) (hA : ∀ H1, Xb p H H1 → At p pq H1 → EvP te σ H1 (LG p G n)) (xG : ∀ v H H', Xb p H H' → G v H → G v H') (n0 : 0 < n) (n1 : n ≤ 1000) (hc : c < 2 ^ 60) :
    EvM (tCall (spOf K) [] E (tCons (tVar i) (tCons te tNil))) σ p c (c + 1) H G := fun H1 x po Q q => ⟨V.ref p, hσ, hA H1 x (at_go at0 x po) H1 (Ex.refl _) _ fun v H2 e2 ⟨l, vs, h1, h2, h3, h4, h5⟩ =>
  ⟨p, l, c, vs, by rw [h1]; rfl, pot_ex e2 po, h3, h2, by omega, by omega, hc, fun j v H3 hv x3 p3 => q v H3 ((xb_ex e2).trans x3) p3 (xG _ _ _ x3 (h5 v (List.mem_of_getElem? hv)))⟩⟩
/-- t * n -/
theorem ep_repDm {ds : List PyData} {n : Nat} (at_ : At p pq H) (h : EvP ta σ H (DH K p pq (.tuple ds))) (hm : Ev tb σ H (.int (n : Int))) (d0 : ds ≠ []) (dz : ds.length ≤ 1000) (n2 : 2 ≤ n) (hn : n ≤ 1000) : EvP (tOp (rRepU K) ta tb) σ H (DH K p pq (.tuple (List.replicate n ds).flatten)) := fun H1 e Q q =>
  h H1 e _ fun v H2 e2 hv => hm H2 (e.trans e2) _ fun H3 e3 => by
    have hv := dh_mono _ _ _ e3 hv
    unfold DH at hv
    generalize hG : hid2 p pq H3 = G at hv
    cases hv with
    | tup s a =>
      subst hG
      rename_i l xs
      refine ⟨_, (n : Int), xs, rfl, rfl, ex_t hid2_sub s, fun z => d0 ?_, by omega, by omega, by rw [a.len]; exact dz, fun z => absurd z (by omega), fun t ht => ?_⟩
      · subst z
        cases a
        rfl
      · have al : ∀ k, DqAll K (hid2 p pq (upd H3 t (.tup (List.replicate n xs).flatten))) (List.replicate k xs).flatten (List.replicate k ds).flatten := fun k => by
          induction k with
          | zero => exact .nil
          | succ k ih =>
            rw [List.replicate_succ, List.replicate_succ, List.flatten_cons, List.flatten_cons]
            exact (a.mono (hid2_mono (Ex.new ht))).app ih
        have en : ((n : Int)).toNat = n := by omega
        rw [en]
        exact q _ _ ((e2.trans e3).trans (Ex.new ht)) (.tup (st_of (hid2_new (at_ne (at_ex at_ ((e.trans e2).trans e3)) ht))) (al n))
end
/-! ### what a new code object leaves -/
section
variable {K : PySem.W.Frag} {H G : Hp} {p P a : Addr} {n m c : Nat} {xs : List V} {q : Str}
def IsTab (P : Addr) (H : Hp) : Prop := ∃ ps, H P = some (.tbl ps)
theorem tabS_is (t : TabS H P q) : IsTab P H := let ⟨ps, h, _⟩ := t; ⟨ps, h⟩
theorem sqT_tab (t : IsTab P H) (x : Xb P H G) (s : SqT K H a xs) : SqT K G a xs := by
  obtain ⟨ps, h⟩ := t
  rcases s with s | s
  · have ne : a ≠ P := fun z => by
      subst z
      rcases s with s | ⟨ob, s⟩ <;> (rw [h] at s; cases s)
    rcases s with s | ⟨ob, s⟩
    · exact .inl (.inl (x _ _ ne s))
    · exact .inl (.inr ⟨ob, x _ _ ne s⟩)
  · exact .inr s
theorem sqL_tab (t : IsTab P H) (x : Xb P H G) (s : SqL K H a xs) : SqL K G a xs := by
  obtain ⟨ps, h⟩ := t
  rcases s with s | s
  · have ne : a ≠ P := fun z => by
      subst z
      rcases s with s | ⟨ob, s⟩ <;> (rw [h] at s; cases s)
    rcases s with s | ⟨ob, s⟩
    · exact .inl (.inl (x _ _ ne s))
    · exact .inl (.inr ⟨ob, x _ _ ne s⟩)
  · exact .inr s
mutual
theorem dq_tab (t : IsTab P H) (x : Xb P H G) : ∀ {v : V} {d : PyData}, Dq K H v d → Dq K G v d
  | _, _, .non => .non
  | _, _, .bl b => .bl b
  | _, _, .int i => .int i
  | _, _, .str y => .str y
  | _, _, .lst s a => .lst (sqL_tab t x s) (dqs_tab t x a)
  | _, _, .tup s a => .tup (sqT_tab t x s) (dqs_tab t x a)
  | _, _, .dct h => .dct (x _ _ (fun z => by
      obtain ⟨ps, y⟩ := t
      rw [z, y] at h
      cases h) h)
theorem dqs_tab (t : IsTab P H) (x : Xb P H G) : ∀ {vs : List V} {ds : List PyData}, DqAll K H vs ds → DqAll K G vs ds
  | _, _, .nil => .nil
  | _, _, .cons a r => .cons (dq_tab t x a) (dqs_tab t x r)
end
theorem pot_tab (t : IsTab P H) (x : Xb P H G) (po : Pot p c H) : Pot p c G := by
  obtain ⟨ps, h⟩ := t
  obtain ⟨a, b, k, h1, h2⟩ := po
  exact ⟨a, b, k, x _ _ (fun z => by rw [z, h] at h1; cases h1) h1, h2⟩
theorem tab_pot (po : Pot p c H) (x : Xb p H G) (t : TabS H P q) : TabS G P q := by
  obtain ⟨a, b, k, h1, _⟩ := po
  obtain ⟨ps, h, h2, h3⟩ := t
  refine ⟨ps, x _ _ (fun z => by rw [z, h1] at h; cases h) h, h2, fun pos cv hc => ?_⟩
  obtain ⟨c', e1, e2⟩ := h3 pos cv hc
  refine ⟨c', e1, x _ _ (fun z => ?_) e2⟩
  rw [z, h1] at e2
  unfold CodeO at e2
  cases e2
end
/-! ### the looks -/
section
variable {K : PySem.W.Frag} {σ : L2.St} {H0 H : Hp} {l P : Addr} {q w : Str} {v : V} {F : Addr → LF} {tl te : TE} {D : Ends} {tz : TS}
/-- (the lambda, a word, a value) -/
def LkP (q : Str) (F : Addr → LF) (w : Str) (v : V) (x : V) (H : Hp) : Prop := ∃ t f c, x = .ref t ∧ H t = some (.tup [.ref f, .str w, v]) ∧ H f = some (LamO f (F c)) ∧ H c = some (CodeO c q)
theorem lk_mono : Mono (LkP q F w v) := fun _ _ _ e ⟨t, f, c, h1, h2, h3, h4⟩ => ⟨t, f, c, h1, e _ _ h2, e _ _ h3, e _ _ h4⟩
theorem lk_keep {x : V} {G : Hp} {xs : List V} (hl : H l = some (.lst xs)) (t : IsTab P H) (k : ∀ a o, a ≠ l → a ≠ P → H a = some o → G a = some o) (h : LkP q F w v x H) : LkP q F w v x G := by
  obtain ⟨ps, hp⟩ := t
  obtain ⟨t, f, c, h1, h2, h3, h4⟩ := h
  have n2 : t ≠ l ∧ t ≠ P := ⟨fun z => by (rw [z, hl] at h2; cases h2), fun z => by (rw [z, hp] at h2; cases h2)⟩
  have n3 : f ≠ l ∧ f ≠ P := ⟨fun z => by (subst z; rw [hl] at h3; unfold LamO at h3; cases h3), fun z => by (subst z; rw [hp] at h3; unfold LamO at h3; cases h3)⟩
  have n4 : c ≠ l ∧ c ≠ P := ⟨fun z => by (subst z; rw [hl] at h4; unfold CodeO at h4; cases h4), fun z => by (subst z; rw [hp] at h4; unfold CodeO at h4; cases h4)⟩
  exact ⟨t, f, c, h1, k _ _ n2.1 n2.2 h2, k _ _ n3.1 n3.2 h3, k _ _ n4.1 n4.2 h4⟩
abbrev LkD := (Addr → LF) × Str × V
def Lks (l : Addr) (q : Str) (Fs : List LkD) (H : Hp) : Prop := ∃ xs, H l = some (.lst xs) ∧ xs.length = Fs.length ∧ ∀ (i : Nat) (x : V) (F : LkD), xs[i]? = some x → Fs[i]? = some F → LkP q F.1 F.2.1 F.2.2 x H
/-- looks = [(the lambda, a word, a value)] -/
theorem q_look1 {i : Nat} (t : TabS H P q) (hv : ∀ G, Ev te σ G v) (k : ∀ l G, H l = none → l ≠ P → Xb P H G → Lks l q [(F, w, v)] G → TabS G P q → tz D (σ.set i (some (.ref l))) G) :
    tSeq (tAsg (tLst (tCons (tTup (tCons (tLamV P q F) (tCons (tC (.str w)) (tCons te tNil)))) tNil)) (gName i)) tz D σ H :=
  ⟨t, fun f c G x tG hf hc => hv G G (Ex.refl _) _ fun G2 e2 => ⟨by show 3 ≤ sizeLine; decide, fun t nt => ⟨by show 1 ≤ sizeLine; decide, fun l nl => by
    have e3 : Ex G (upd (upd G2 t (.tup [.ref f, .str w, v])) l (.lst [.ref t])) := (e2.trans (Ex.new nt)).trans (Ex.new nl)
    have tl' := tG.ext e3
    have lP : l ≠ P := fun z => by
      obtain ⟨ps, y⟩ := tabS_is (tG.ext (e2.trans (Ex.new nt)))
      rw [z, y] at nl
      cases nl
    refine k l _ ?_ lP (x.trans (xb_ex e3)) ⟨[.ref t], upd_same, rfl, fun j y F' hy hF => ?_⟩ tl'
    · cases e : H l with
      | none => rfl
      | some o =>
        have y := (e2.trans (Ex.new (o := .tup [.ref f, .str w, v]) nt)) _ _ (x l o lP e)
        rw [nl] at y
        cases y
    · match j, hy, hF with
      | 0, hy, hF =>
        cases hy
        cases hF
        exact ⟨t, f, c, rfl, Ex.new nl _ _ upd_same, e3 _ _ hf, e3 _ _ hc⟩
      | j + 1, hy, _ => simp at hy⟩⟩⟩
/-- looks.append((the lambda, a word, a value)) -/
theorem q_lookA {Fs : List LkD} (l0 : H0 l = none) (lP : l ≠ P) (x0 : Xb P H0 H) (hk : Lks l q Fs H) (t : TabS H P q) (n : Fs.length < 100) (hl : ∀ G, Ev tl σ G (.ref l)) (hv : ∀ G, Ev te σ G v)
    (k : ∀ G, Xb P H0 G → Lks l q (Fs ++ [(F, w, v)]) G → TabS G P q → tz D σ G) : tSeq (tDrop (tBM K "list" rAppend tl (tCons (tTup (tCons (tLamV P q F) (tCons (tC (.str w)) (tCons te tNil)))) tNil))) tz D σ H := by
  obtain ⟨xs, hx, ln, ok⟩ := hk
  refine hl H H (Ex.refl _) _ fun H1 e1 => ⟨Or.inl ⟨rfl, xs, sq_of (e1 _ _ hx)⟩, t.ext e1, fun f c G x tG hf hc => hv G G (Ex.refl _) _ fun G2 e2 => ⟨by show 3 ≤ sizeLine; decide, fun u nu => ?_⟩⟩
  have e3 : Ex G (upd G2 u (.tup [.ref f, .str w, v])) := e2.trans (Ex.new nu)
  have hl2 : (upd G2 u (.tup [.ref f, .str w, v])) l = some (.lst xs) := e3 _ _ (x _ _ lP (e1 _ _ hx))
  have hu : (upd G2 u (.tup [.ref f, .str w, v])) u = some (.tup [.ref f, .str w, v]) := upd_same
  have t3 := tG.ext e3
  have x3 : Xb P H (upd G2 u (.tup [.ref f, .str w, v])) := (xb_ex e1).trans (x.trans (xb_ex e3))
  have hf3 := e3 _ _ hf
  have hc3 := e3 _ _ hc
  generalize upd G2 u (.tup [.ref f, .str w, v]) = G3 at hl2 hu t3 x3 hf3 hc3 ⊢
  refine ⟨l, xs, .ref u, rfl, rfl, hl2, sz_lt (by omega), k _ (fun a o na h => ?_) ⟨xs ++ [.ref u], upd_same, by simp [ln], fun i y F' hy hF => ?_⟩ ?_⟩
  · rw [upd_ne (ne_of_none h l0)]
    exact x3 a o na (x0 a o na h)
  · have st : ∀ a o, a ≠ l → a ≠ P → G3 a = some o → (upd G3 l (.lst (xs ++ [.ref u]))) a = some o := fun a o n1 _ h => by rw [upd_ne n1]; exact h
    by_cases hi : i < xs.length
    · rw [List.getElem?_append_left hi] at hy
      rw [List.getElem?_append_left (by omega)] at hF
      exact lk_keep hl2 (tabS_is t3) st (lk_keep hx (tabS_is t) (fun a o _ n2 h => x3 a o n2 h) (ok i y F' hy hF))
    · rw [List.getElem?_append_right (by omega)] at hy hF
      have hi0 : i - xs.length = 0 := by
        have := (List.getElem?_eq_some_iff.mp hy).1
        simp at this
        omega
      have hi1 : i - Fs.length = 0 := by omega
      rw [hi0] at hy
      rw [hi1] at hF
      cases hy
      cases hF
      exact lk_keep hl2 (tabS_is t3) st ⟨u, f, c, rfl, hu, hf3, hc3⟩
  · obtain ⟨ps, h1, h2, h3⟩ := t3
    refine ⟨ps, by rw [upd_ne lP.symm]; exact h1, h2, fun pos cv hcv => ?_⟩
    obtain ⟨c', e1, e2⟩ := h3 pos cv hcv
    have ne : c' ≠ l := fun z => by
      rw [z, hl2] at e2
      unfold CodeO at e2
      cases e2
    exact ⟨c', e1, (upd_ne ne).trans e2⟩
end
end EW
set_option Elab.async false
set_option linter.all false
set_option maxRecDepth 100000
set_option maxHeartbeats 4000000
set_option exponentiation.threshold 30000
namespace EW
open PySem PySem.Spec PyProof.Rows L2 Evl
/-! ### what is handed in: plain data -/
def dRow (a : PyData) (xs : List PyData) : PyData := .tuple [a, .tuple xs]
def goodL (b : Nat) : List PyData := [dRow (.int (b : Int)) [.int 1, .int 0], dRow (.int 0) [.int 0, .int 1]]
def goodD (b : Nat) : PyData := .tuple (goodL b)
def rows7 (b : Nat) : List PyData := [.none, .list [dRow (.int (b : Int)) [.int 1, .int 0]], .tuple [dRow (.int (b : Int)) [.int 1]], .tuple [.tuple [.int (b : Int), .list [.int 1, .int 0]]], .tuple [dRow (.int (b : Int)) [.int 1, .none]], .tuple [dRow (.bool true) [.int 1, .int 0]], .str "a"]
def rows3 (b : Nat) : List PyData := [.tuple (List.replicate 31 (goodL b)).flatten, .tuple [.tuple [.int (b : Int), .tuple [.int 1, .int 0], .int 2]], dRow (.int (b : Int)) [.int 1, .int 0]]
def rowsA (b : Nat) : List PyData := rows7 b ++ rows3 b
def rowA (b : Nat) : List PyData := [.none, dRow (.int (b : Int)) [.int 1], .list [.int (b : Int), .tuple [.int 1, .int 0]], .tuple [.int (b : Int), .list [.int 1, .int 0]], dRow .none [.int 1, .int 0], dRow (.int (b : Int)) [.bool true, .int 0], .tuple [.int (b : Int)], .str "a", .int (b : Int)]
def manyA : List PyData := [.int (-1), .int 25, .none, .bool true, .str "2", .int 3]
def rowSzB : PyData → Bool
  | .tuple [_, .tuple ts] => decide (ts.length ≤ 1000)
  | _ => true
theorem rowSzB_ok {d : PyData} (h : rowSzB d = true) : RowSz d := fun a ts e => by
  subst e
  simpa [rowSzB] using h
def rsSzB : PyData → Bool
  | .tuple rs => decide (rs.length ≤ 1000) && rs.all rowSzB
  | _ => true
theorem rsSzB_ok {d : PyData} (h : rsSzB d = true) : RsSz d where
  len := fun rs e => by
    subst e
    simp only [rsSzB, Bool.and_eq_true, decide_eq_true_eq] at h
    exact h.1
  row := fun rs i x e hx => by
    subst e
    simp only [rsSzB, Bool.and_eq_true, List.all_eq_true] at h
    exact rowSzB_ok (h.2 x (List.mem_of_getElem? hx))
/-! how long data is shown, at most -/
mutual
def wt : PyData → Nat
  | .int _ => 701
  | .str x => sl (.str x)
  | .tuple ds => 3 + wts ds
  | .list ds => 3 + wts ds
  | .dict _ => 2
  | .none => 4
  | .bool _ => 5
def wts : List PyData → Nat
  | [] => 0
  | d :: ds => wt d + 2 + wts ds
end
mutual
theorem sl_wt : ∀ d : PyData, aI d = true → sl d ≤ wt d
  | .int i, h => int_len (aI_int h)
  | .str x, _ => Nat.le_refl _
  | .tuple ds, h => by
    have := sl_tup_le ds
    have := sls_wts ds (by simpa only [aI] using h)
    simp only [wt]
    omega
  | .list ds, h => by
    have := sl_lst_le ds
    have := sls_wts ds (by simpa only [aI] using h)
    simp only [wt]
    omega
  | .dict kvs, h => by
    simp only [aI, List.isEmpty_iff] at h
    subst h
    simp only [wt]
    decide
  | .none, _ => by simp only [wt]; decide
  | .bool b, _ => by simp only [wt]; cases b <;> decide
theorem sls_wts : ∀ ds : List PyData, aIs ds = true → sls ds ≤ wts ds
  | [], _ => Nat.le_refl _
  | d :: ds, h => by
    simp only [aIs, Bool.and_eq_true] at h
    have := sl_wt d h.1
    have := sls_wts ds h.2
    rw [sls_cons]
    simp only [wts]
    omega
end
/-- fit to be shown, no dict within -/
def fit (d : PyData) : Bool := aI d && (!d.hasDict && (decide (d.depth ≤ 20) && decide (wt d ≤ 1000000)))
theorem fit_rep {d : PyData} (h : fit d = true) : Rep d := by
  simp only [fit, Bool.and_eq_true, Bool.not_eq_true', decide_eq_true_eq] at h
  obtain ⟨h1, h2, h3, h4⟩ := h
  exact ⟨aI_show d h1, fun z => by (rw [h2] at z; cases z), by omega, Nat.le_trans (Nat.le_trans (sl_wt d h1) h4) (by decide)⟩
def wordsL : List Str := ["rows", "row"]
/-- ([word], value) is so, too -/
theorem rep_told {d : PyData} {w : Str} (h : fit d = true) (hw : w ∈ wordsL) : Rep (.tuple [.list [.str w], d]) := by
  simp only [fit, Bool.and_eq_true, Bool.not_eq_true', decide_eq_true_eq] at h
  obtain ⟨h1, h2, h3, h4⟩ := h
  have hd : (PyData.tuple [.list [.str w], d]).hasDict = false := by simp [PyData.hasDict, PyData.hasDictAll, h2]
  have ai : aI (.tuple [.list [.str w], d]) = true := by simp [aI, aIs, h1]
  have sw : sl (.str w) ≤ 20 := by
    rcases List.mem_cons.mp hw with rfl | hw
    · decide +kernel
    · rw [List.mem_singleton.mp hw]
      decide +kernel
  refine ⟨aI_show _ ai, fun z => by (rw [hd] at z; cases z), ?_, Nat.le_trans (Nat.le_trans (sl_wt _ ai) ?_) (show 2000000 ≤ sizeLine by decide)⟩
  · simp only [PyData.depth, PyData.depthAll]
    omega
  · simp only [wt, wts]
    omega
theorem rows_bad : ∀ b, b < 9 → ∀ d ∈ rowsA b, okRs (.int 2) d = false ∧ rsSzB d = true ∧ fit d = true := by
  have h : (List.range 9).all (fun b => (rowsA b).all fun d => !okRs (.int 2) d && (rsSzB d && fit d)) = true := by decide +kernel
  intro b hb d hd
  have := (List.all_eq_true.mp (List.all_eq_true.mp h b (List.mem_range.mpr hb))) d hd
  simpa using this
theorem row_bad : ∀ b, b < 9 → ∀ d ∈ rowA b, rowB 2 d = false ∧ rowSzB d = true ∧ fit d = true := by
  have h : (List.range 9).all (fun b => (rowA b).all fun d => !rowB 2 d && (rowSzB d && fit d)) = true := by decide +kernel
  intro b hb d hd
  have := (List.all_eq_true.mp (List.all_eq_true.mp h b (List.mem_range.mpr hb))) d hd
  simpa using this
theorem many_bad : ∀ b, b < 9 → (∀ d ∈ manyA, okRs d (goodD b) = false) ∧ rsSzB (goodD b) = true ∧ fit (goodD b) = true := by
  have h : (List.range 9).all (fun b => (manyA.all fun d => !okRs d (goodD b)) && (rsSzB (goodD b) && fit (goodD b))) = true := by decide +kernel
  intro b hb
  have := List.all_eq_true.mp h b (List.mem_range.mpr hb)
  simpa using this
/-- good's ROWS -/
def goodR (b : Nat) : Nat → Row := fun i => if i = 0 then ((b : Int), fun j => if j = 0 then 1 else 0) else (0, fun j => if j = 0 then 0 else 1)
def midR (b : Nat) : Row := ((b : Int), fun j => if j = 0 then 1 else 0)
section
variable {K : PySem.W.Frag} {H : Hp} {v : V}
theorem dq_row {m : Nat} {r : Row} (h : Dq K H v (.tuple [.int r.1, pdI m r.2])) : RwP K m r v H := by
  cases h with
  | tup s a =>
    cases a with
    | cons a1 a =>
      cases a with
      | cons a2 a =>
        cases a
        rw [dq_int a1] at s
        exact ⟨_, _, rfl, s, dq_ints a2⟩
theorem dq_good {b : Nat} (h : Dq K H v (goodD b)) : RwsP K 2 2 (goodR b) v H := by
  cases h with
  | tup s a =>
    cases a with
    | cons a1 a =>
      cases a with
      | cons a2 a =>
        cases a
        refine ⟨_, _, rfl, s, rfl, fun i x hx => ?_⟩
        match i, hx with
        | 0, hx =>
          cases hx
          exact dq_row (m := 2) (r := goodR b 0) a1
        | 1, hx =>
          cases hx
          exact dq_row (m := 2) (r := goodR b 1) a2
        | i + 2, hx => simp at hx
theorem good_sml {b : Nat} (hb : b < 9) : ∀ i, i < 2 → Sml 2 (goodR b i) := fun i _ => by
  refine sml_of (A := 1) (M := 300) ?_ (fun j _ => ?_) (by decide) (by decide)
  · unfold goodR
    split
    · show (b : Int).natAbs ≤ 300
      omega
    · show (0 : Int).natAbs ≤ 300
      decide
  · unfold goodR
    split
    · show (if j = 0 then (1 : Int) else 0).natAbs ≤ 1
      split <;> decide
    · show (if j = 0 then (0 : Int) else 1).natAbs ≤ 1
      split <;> decide
theorem mid_sml {b : Nat} (hb : b < 9) : Sml 2 (midR b) := sml_of (A := 1) (M := 300) (by show (b : Int).natAbs ≤ 300; omega) (fun j _ => by show (if j = 0 then (1 : Int) else 0).natAbs ≤ 1; split <;> decide) (by decide) (by decide)
end
end EW
set_option Elab.async false
set_option linter.all false
set_option maxRecDepth 100000
set_option maxHeartbeats 4000000
set_option exponentiation.threshold 30000
namespace EW
open PySem PySem.Spec PyProof.Rows L2 Evl LamX NdefX
/-! ### readings for _law_are_refused -/
section
variable {K : PySem.W.Frag} {σ : L2.St} {H H' : Hp} {ta tb tc te : TE} {t : TT} {p pq l : Addr} {n m k c d e : Nat} {D : Ends} {ts tu tz tw : TS} {P : V → Hp → Prop} {G : V → Hp → Prop}
theorem s_if {b : Bool} (h : EvT t σ H b) (h1 : b = true → ∀ H1, Ex H H1 → tu D σ H1) (h2 : b = false → ∀ H1, Ex H H1 → tw D σ H1) : tIfS t tu tw D σ H := h H (Ex.refl _) _ fun H1 e => by
  cases b with
  | true => exact h1 rfl H1 e
  | false => exact h2 rfl H1 e
theorem ep_ho {A M : Nat} {R : Nat → Row} {E : XK} (ha : Ev ta σ H (.int (m : Int))) (hb : EvP tb σ H (RwsP K n m R)) (mb : Mb m A M) (rb : Rb A M m n R) (hn : n ≤ 60) : EvP (tCall (spHolds K) [] E (tCons ta (tCons tb tNil))) σ H (HoP K n m R) := fun H1 e Q q =>
  ha H1 e _ fun H2 e2 => hb H2 (e.trans e2) _ fun v H3 e3 hv => ⟨n, m, A, M, R, v, rfl, hv, mb, rb, hn, fun w H4 e4 hw => q w H4 ((e2.trans e3).trans e4) hw⟩
theorem ep_folZ {R : Nat → Row} {r : Row} {E : XK} (ha : Ev ta σ H (.int (m : Int))) (hb : EvP tb σ H (RwsP K n m R)) (hc : EvP tc σ H (RwP K m r)) (fl : Flat m r) (hm : m ≤ 24) (hn : n ≤ 60) : EvP (tCall (spToldZ K) [] E (tCons ta (tCons tb (tCons tc tNil)))) σ H (FolZ K n) := fun H1 e Q q =>
  ha H1 e _ fun H2 e2 => hb H2 (e.trans e2) _ fun v H3 e3 hv => hc H3 ((e.trans e2).trans e3) _ fun u H4 e4 hu => ⟨n, m, R, r, v, u, rfl, rws_mono _ _ _ e4 hv, hu, fl, hm, hn, fun w H5 e5 hw => q w H5 (((e2.trans e3).trans e4).trans e5) hw⟩
theorem ev_repr {dd : PyData} (h : EvP te σ H (fun v H => Dq K H v dd)) (r : Rep dd) : Ev (tCB (rRepr K) (tCons te tNil)) σ H (.str dd.shown) := fun H1 e Q q => h H1 e _ fun v H2 e2 hv => ⟨v, dd, rfl, hv, r, q H2 e2⟩
theorem ev_neD {d d' : PyData} (ha : EvP ta σ H (fun v H => Dq K H v d)) (hb : EvP tb σ H (fun v H => Dq K H v d')) (n1 : d.hasDict = false) (n2 : d'.hasDict = false) (s1 : SeqAt.shaped d = true) (s2 : SeqAt.shaped d' = true) : Ev (tOp (rNeD K) ta tb) σ H (.bl (!PyData.eqv d d')) := fun H1 e Q q =>
  ha H1 e _ fun v H2 e2 hv => hb H2 (e.trans e2) _ fun w H3 e3 hw => ⟨d, d', dq_dp (hv.mono e3) n1, dq_dp hw n2, s1, s2, q H3 (e2.trans e3)⟩
theorem ev_eqD2 {d d' : PyData} (ha : EvP ta σ H (fun v H => Dq K H v d)) (hb : EvP tb σ H (fun v H => Dq K H v d')) (n1 : d.hasDict = false) (n2 : d'.hasDict = false) (s1 : SeqAt.shaped d = true) (s2 : SeqAt.shaped d' = true) : Ev (tOp (rEqD K) ta tb) σ H (.bl (PyData.eqv d d')) := fun H1 e Q q =>
  ha H1 e _ fun v H2 e2 hv => hb H2 (e.trans e2) _ fun w H3 e3 hw => ⟨d, d', dq_dp (hv.mono e3) n1, dq_dp hw n2, s1, s2, q H3 (e2.trans e3)⟩
/-- _law_heard(look), what comes of it as data -/
theorem ep_heard {X : Cx} {C1 C2 f : Addr} {σ0 : L2.St} {i : Nat} {F : LF} {fr : List Str} {js : List Nat} {t : XK → TE} {b : Bool} {y : V} {d : PyData} (hi : σ[i]? = some (some (.ref f))) (hf : H f = some (LamO f F)) (hc : H F.c = some (CodeO F.c F.q)) (good : LamGood X k F fr js t) (hy : Dq X.K H y d)
    (out : ∀ G', Ex H G' → ∀ E Q', Out (if b = true then C1 else C2) y G' E → t E (startF fr [] (js.map (NdefX.slotAt σ0))) G' Q') : EvP (tHeard X k C1 C2 σ0 (tVar i)) σ H (fun v H => Dq X.K H v (.tuple [.list [.str (if b = true then "rows" else "row")], d])) := fun H1 e Q q =>
  ⟨.ref f, hi, f, F, fr, js, t, b, y, rfl, e _ _ hf, e _ _ hc, good, fun G' e' => out G' (e.trans e'), fun L T G' e' hL hT => q _ G' e' (.tup (st_of hT) (.cons (.lst (sq_of hL) (.cons (.str _) .nil)) (.cons (hy.mono (e.trans e')) .nil)))⟩
/-! ### a list that grows, its values alone -/
def AltL (K : PySem.W.Frag) (p l : Addr) (ds : List PyData) (v : V) (H : Hp) : Prop := ∃ d, d ∈ ds ∧ DH K p l d v H
theorem altL_mono {ds : List PyData} : Mono (AltL K p l ds) := fun _ _ _ e ⟨d, h1, h2⟩ => ⟨d, h1, dh_mono _ _ _ e h2⟩
theorem altL_xb {ds : List PyData} {v : V} (x : Xb p H H') : AltL K p l ds v H → AltL K p l ds v H' := fun ⟨d, h1, h2⟩ => ⟨d, h1, dh_xb x h2⟩
theorem altL_of {ds : List PyData} {d : PyData} (h : EvP te σ H (DH K p l d)) (m : d ∈ ds) : EvP te σ H (AltL K p l ds) := ep_w h fun v H2 _ hv => ⟨d, m, hv⟩
theorem dh_lay {d : PyData} {v : V} {o : HO} (hl : H l = none) (h : DH K p p d v H) : DH K p l d v (upd H l o) := Dq.mono (fun a u ha => by
  have h1 : hid p H a = some u := hid_sub a u ha
  have nl : a ≠ l := fun z => by
    subst z
    have := hid_sub _ _ h1
    rw [hl] at this
    cases this
  show hid l (hid p (upd H l o)) a = some u
  unfold hid at h1 ⊢
  rw [if_neg nl]
  by_cases z : a = p
  · rw [if_pos z] at h1
    cases h1
  · rw [if_neg z] at h1 ⊢
    rw [upd_ne nl]
    exact h1) h
theorem dh_up {d : PyData} {v : V} {o : HO} (h : DH K p l d v H) : DH K p l d v (upd H l o) := Dq.mono (fun a u ha => by
  have nl : a ≠ l := fun z => by
    subst z
    have : hid a (hid p H) a = some u := ha
    unfold hid at this
    rw [if_pos rfl] at this
    cases this
  have h1 : hid p H a = some u := hid_sub a u ha
  show hid l (hid p (upd H l o)) a = some u
  unfold hid at h1 ⊢
  rw [if_neg nl]
  by_cases z : a = p
  · rw [if_pos z] at h1
    cases h1
  · rw [if_neg z] at h1 ⊢
    rw [upd_ne nl]
    exact h1) h
theorem altL_up {ds : List PyData} {v : V} {o : HO} : AltL K p l ds v H → AltL K p l ds v (upd H l o) := fun ⟨d, h1, h2⟩ => ⟨d, h1, dh_up h2⟩
theorem q_asgL2 {tA : TA} {i : Nat} {ds : List PyData} (at_ : At p p H) (h : AL tA σ H (Alt K p ds) n) (hn : n ≤ 1000) (k : ∀ l vs H1, H l = none → l ≠ p → Ex H H1 → H1 l = some (.lst vs) → vs.length = n → (∀ x ∈ vs, AltL K p l ds x H1) → tz D (σ.set i (some (.ref l))) H1) : tSeq (tAsg (tLst tA) (gName i)) tz D σ H := h H (Ex.refl _) _ fun vs H2 e2 hl hvs =>
  ⟨sz_of (by omega), fun l l0 => k l vs _ (fresh_back e2 l0) (at_ne (at_ex at_ e2) l0).1 (e2.trans (Ex.new l0)) upd_same hl fun x hx => let ⟨d, h1, h2⟩ := hvs x hx; ⟨d, h1, dh_lay l0 h2⟩⟩
theorem q_appM {xs : List V} (hl : H l = some (.lst xs)) (nl : l ≠ p) (ha : ∀ H1, Ex H H1 → Ev ta σ H1 (.ref l)) (h : EvM te σ p c d H P) (po : Pot p c H) (hz : xs.length < 100000) (k : ∀ v H1, Xb p H H1 → Pot p d H1 → H1 l = some (.lst xs) → P v H1 → tz D σ (upd H1 l (.lst (xs ++ [v])))) :
    tSeq (tDrop (tBM K "list" rAppend ta (tCons te tNil))) tz D σ H := s_appM (D := { D with nx := tz D }) hl nl ha h po hz k
theorem q_extM {xs : List V} (hl : H l = some (.lst xs)) (nl : l ≠ p) (ha : ∀ H1, Ex H H1 → Ev ta σ H1 (.ref l)) (h : EvM te σ p c d H (LG p G k)) (po : Pot p c H) (hz : xs.length + k ≤ 1000) (kk : ∀ vs H1, Xb p H H1 → Pot p d H1 → H1 l = some (.lst xs) → vs.length = k → (∀ v ∈ vs, G v H1) → tz D σ (upd H1 l (.lst (xs ++ vs)))) :
    tSeq (tDrop (tBM K "list" rExtend ta (tCons te tNil))) tz D σ H := ha H (Ex.refl _) H (Ex.refl H) _ fun H1 e1 =>
  ⟨Or.inl ⟨rfl, xs, sq_of (e1 l _ hl)⟩, h H1 (xb_ex e1) (pot_ex e1 po) _ fun v H2 x2 p2 ⟨b, vs, h1, h2, h3, h4, h5⟩ => by
    have hl2 : H2 l = some (.lst xs) := x2 l _ nl (e1 l _ hl)
    exact ⟨l, b, xs, vs, rfl, by rw [h1], hl2, h2, sz_of (by omega), kk vs H2 ((xb_ex e1).trans x2) p2 hl2 h4 h5⟩⟩
end
/-! ### defs whose code object is told -/
section
variable {P : Program} {w : World} {K : PySem.W.Frag} {mg : Str → Option Value} {base : Heap} {k : Nat}
structure FunC (K : PySem.W.Frag) (x qual : Str) (st : Stmt) (f : Addr) (fd : FuncData) (cd : Value) : Prop where
  ex : ∃ oc od kV doc pm an ct osl, fd = PySem.W.fnOf x qual (defArgs st) (defBody st) (defScope st) .none kV doc pm an cd ct ∧ K.lookup f = some ⟨oc, od, .func fd, osl⟩ ∧ PySem.W.codeIn K cd qual = true
theorem fun_okGc {x qual : Str} {st : Stmt} {f : Addr} {fd : FuncData} {N ps : List Str} {sp : Sp} {cd : Value} (F : FunC K x qual st f fd cd) (S : FnScope N ps (defScope st)) (len : ∀ xs G R E, sp xs G R E → xs.length = ps.length)
    (body : ∀ (B : Around) (up : List Env) (z : Shared) (G : Hp) (xs : List V) (R : VK) (E : XK), B.guards = some [] → Room k (B.deeper (envOfC qual (defScope st) z.heap.objs.size f cd)) → sp xs G R E →
      ∃ t, PSs (cxOf CX0 P w K mg base N qual (defScope st) f cd B up z G E).nox (defBody st) t ∧ t { nx := fun _ G' => R .non G', rt := R } (start N xs) G) : FnG P w K mg base (k + 1) f fd ps sp := by
  obtain ⟨oc, od, kV, doc, pm, an, ct, osl, rfl, lk, hcd⟩ := F.ex
  refine ⟨len, fun B hB hr up z G e0 ar ys xs rv hbd R E hsp => ?_⟩
  have kin : K.In z.heap := e0.mod.kin.keeps fun b o e => (e0.bs b o e).1
  refine codeAny_call_function hr.depth (kin _ _ lk) rfl S.co S.gen rfl (PySem.W.codeRec_of kin hcd) (hbd _ _ _ _ ?_)
  refine wpAny_newFunctionEnv_cells S.kind (fun y hy => ?_) fun env he z1 x => ?_
  · obtain ⟨n, v⟩ := y
    refine (S.par n (List.of_mem_zip hy).1).imp (fun q => q) fun q => ⟨q, ?_⟩
    exact PySem.W.cellsFrom_some _ _ _ (.inl q)
  · subst he
    obtain ⟨t, ht, hq⟩ := body B up z G xs R E hB (hr.deeper _) hsp
    have lim : z.heap.NoLimit := e0.mod.nolimit.keeps fun b o e => (e0.bs b o e).1
    have J := inv_start (CX := CX0) (E := E) S hr.hd e0 (len _ _ _ _ hsp) rv x
    exact ⟨lim.keeps x.toInCall.keep, codeAny_func (wpAny_mono (ht.nox.run [] z1 (start N xs) G _ J hq) (fun fl z' h => ends_call h) fun _ _ h => h)⟩
end
/-! ### what shows_follows tells False of -/
def odd10 : List PyData := [.none, .int 0, .str "a", .tuple [], .tuple [.str "times"], .list [.str "times", .int 1, .tuple [.int 1, .int 0]], .dict [], .tuple [.str "times", .int 1, .tuple [.int (-1), .int 0]], .tuple [.str "times", .int 1, .none], .tuple [.bool true, .int 1]]
def odd4 : List PyData := [.tuple [.str "spot", .tuple [.int 0, .int 0]], .tuple [.str "spot", .tuple [.tuple [.int 0, .int 2], .tuple [.int 0, .int 1]]], .tuple [.str "spot", .tuple [.tuple [.int 0, .int 1]]], .tuple [.str "never", .none]]
def oddA : List PyData := odd10 ++ (odd4 ++ [.tuple [.str "times", .bool true, .tuple [.int 1, .int 0]]])
theorem pdI2 {t : Nat → Int} : pdI 2 t = .tuple [.int (t 0), .int (t 1)] := rfl
theorem pdZ2 {z : Nat → Rat} : pdZ 2 z = .tuple [frD (z 0), frD (z 1)] := rfl
theorem odd_no {b : Nat} : ∀ d ∈ oddA, aI d = true ∧ ¬ Shown 2 2 (goodR b) (midR b) d := by
  intro d hd
  have half : ∀ q : Rat, ¬ (q.num = 0 ∧ (q.den : Int) = 2) := fun q ⟨h1, h2⟩ => by
    have z : q = 0 := by
      rw [← Rat.num_eq_zero]
      exact h1
    subst z
    exact absurd h2 (by decide)
  have key : ∀ d ∈ oddA, aI d = true := by
    have h : oddA.all aI = true := by decide +kernel
    exact fun d hd => List.all_eq_true.mp h d hd
  refine ⟨key d hd, ?_⟩
  simp only [oddA, odd10, odd4, List.cons_append, List.nil_append, List.mem_cons, List.not_mem_nil, or_false] at hd
  rintro (⟨c, t, h, _, nn, _⟩ | ⟨t, h, _, _⟩ | ⟨z, h, _, _⟩)
  · rw [pdI2] at h
    rcases hd with rfl | rfl | rfl | rfl | rfl | rfl | rfl | rfl | rfl | rfl | rfl | rfl | rfl | rfl | rfl <;> simp at h
    have := nn 0 (by decide)
    omega
  · rw [pdI2] at h
    rcases hd with rfl | rfl | rfl | rfl | rfl | rfl | rfl | rfl | rfl | rfl | rfl | rfl | rfl | rfl | rfl <;> simp at h
    exact absurd h.1 (by decide)
  · rw [pdZ2] at h
    rcases hd with rfl | rfl | rfl | rfl | rfl | rfl | rfl | rfl | rfl | rfl | rfl | rfl | rfl | rfl | rfl <;> simp [frD] at h
    exact half (z 0) ⟨h.1.1.symm, h.1.2.symm⟩
end EW
set_option Elab.async false
set_option linter.all false
set_option maxRecDepth 100000
set_option maxHeartbeats 4000000
set_option exponentiation.threshold 30000
namespace EW
open PySem PySem.Spec PyProof.Rows L2 Evl LamX NdefX
section
variable {K : PySem.W.Frag} {σ : L2.St} {H H' G : Hp} {ta tb tc te : TE} {p pq l T : Addr} {n m k c : Nat}
theorem lg_xb {A : V → Hp → Prop} {v : V} (xA : ∀ v H H', Xb p H H' → A v H → A v H') (x : Xb p H H') : LG p A n v H → LG p A n v H' := fun ⟨l, vs, h1, h2, h3, h4, h5⟩ => ⟨l, vs, h1, x _ _ h3 h2, h3, h4, fun y hy => xA _ _ _ x (h5 y hy)⟩
theorem dh_tab {d : PyData} {v : V} (t : IsTab T H) (po : Pot p c H) (x : Xb T H G) (h : DH K p p d v H) : DH K p p d v G := by
  have ne : T ≠ p := fun z => by
    obtain ⟨ps, h1⟩ := t
    obtain ⟨a, b, k, h2, _⟩ := po
    rw [z, h2] at h1
    cases h1
  have hd : ∀ F : Hp, hid2 p p F T = F T := fun F => by
    unfold hid2 hid
    rw [if_neg ne, if_neg ne]
  refine dq_tab (H := hid2 p p H) (G := hid2 p p G) (P := T) ?_ (fun a o na ha => ?_) h
  · obtain ⟨ps, h1⟩ := t
    exact ⟨ps, (hd H).trans h1⟩
  · unfold hid2 hid at ha ⊢
    by_cases z : a = p
    · rw [if_pos z] at ha
      cases ha
    · rw [if_neg z, if_neg z] at ha ⊢
      exact x a o na ha
theorem ep_lst2D {d d' : PyData} (at_ : At p pq H) (h : EvP ta σ H (DH K p pq d)) (h' : EvP tb σ H (DH K p pq d')) : EvP (tLst (tCons ta (tCons tb tNil))) σ H (DH K p pq (.list [d, d'])) := fun H1 e Q q => h H1 e _ fun v H2 e2 hv => h' H2 (e.trans e2) _ fun w H3 e3 hw =>
  ⟨by show 2 ≤ sizeLine; decide, fun n hn => q _ _ ((e2.trans e3).trans (Ex.new hn)) (.lst (sq_of (hid2_new (at_ne (at_ex at_ ((e.trans e2).trans e3)) hn))) (.cons (Dq.mono (hid2_mono (e3.trans (Ex.new hn))) hv) (.cons (Dq.mono (hid2_mono (Ex.new hn)) hw) .nil)))⟩
theorem ep_lst3D {d d' d'' : PyData} (at_ : At p pq H) (h : EvP ta σ H (DH K p pq d)) (h' : EvP tb σ H (DH K p pq d')) (h'' : EvP tc σ H (DH K p pq d'')) : EvP (tLst (tCons ta (tCons tb (tCons tc tNil)))) σ H (DH K p pq (.list [d, d', d''])) := fun H1 e Q q => h H1 e _ fun v H2 e2 hv => h' H2 (e.trans e2) _ fun w H3 e3 hw => h'' H3 ((e.trans e2).trans e3) _ fun u H4 e4 hu =>
  ⟨by show 3 ≤ sizeLine; decide, fun n hn => q _ _ (((e2.trans e3).trans e4).trans (Ex.new hn)) (.lst (sq_of (hid2_new (at_ne (at_ex at_ (((e.trans e2).trans e3).trans e4)) hn))) (.cons (Dq.mono (hid2_mono ((e3.trans e4).trans (Ex.new hn))) hv) (.cons (Dq.mono (hid2_mono (e4.trans (Ex.new hn))) hw) (.cons (Dq.mono (hid2_mono (Ex.new hn)) hu) .nil))))⟩
theorem en_lcS {wi : TI} {g : TG} {te : L2.St → TE} {vs : List Nat} {P : V → Hp → Prop} (h : EvN (tLc wi g tYes (te σ) vs) σ H P) : EvN (fun σ G Q => tLc wi g tYes (te σ) vs σ G Q) σ H P := h
/-- one look: what is heard, and what is due, are shown alike -/
theorem ev_look {X : Cx} {C1 C2 f : Addr} {σ0 : L2.St} {F : LF} {fr : List Str} {js : List Nat} {t : XK → TE} {b : Bool} {y : V} {d : PyData} {c : Nat} (h7 : σ[7]? = some (some (.ref f))) (h8 : σ[8]? = some (some (.str (if b = true then "rows" else "row")))) (h9 : σ[9]? = some (some y)) (hf : H f = some (LamO f F)) (hc : H F.c = some (CodeO F.c F.q)) (good : LamGood X k F fr js t) (po : Pot p c H)
    (hy : DH X.K p p d y H) (fd : fit d = true) (out : ∀ G', Ex H G' → ∀ E Q', Out (if b = true then C1 else C2) y G' E → t E (startF fr [] (js.map (NdefX.slotAt σ0))) G' Q') :
    EvP (tOp rEq (tCB (rRepr X.K) (tCons (tHeard X k C1 C2 σ0 (tVar 7)) tNil)) (tCB (rRepr X.K) (tCons (tTup (tCons (tLst (tCons (tVar 8) tNil)) (tCons (tVar 9) tNil))) tNil))) σ H (fun v _ => v = .bl true) := by
  have rp : Rep (.tuple [.list [.str (if b = true then "rows" else "row")], d]) := rep_told fd (by cases b <;> simp [wordsL])
  refine ev_p (ev_is (ev_op (ev_repr (ep_heard h7 hf hc good (dh_dq hy) out) rp) (ev_repr (ep_w (ep_tup2D (at_pot po) (ep_lst1D (at_pot po) (dh_v (ev_var h8) fun _ => .str _)) (ep_varM h9 hy dh_mono)) fun v H2 _ hv => dh_dq hv) rp) (rv_eq rfl)) (by simp))
theorem g_three {i j m : Nat} {u : Addr} {x y z : V} {Q : L2.St → Hp → Prop} (h : H u = some (.tup [x, y, z])) (q : Q (((σ.set i (some x)).set j (some y)).set m (some z)) H) : gTup K 3 (gCons (gName i) (gCons (gName j) (gCons (gName m) gNil))) (.ref u) σ H Q :=
  ⟨u, _, rfl, st_of h, rfl, _, _, rfl, _, _, rfl, _, _, rfl, rfl, q⟩
end
end EW
set_option Elab.async false
set_option linter.all false
set_option maxRecDepth 100000
set_option maxHeartbeats 4000000
set_option exponentiation.threshold 30000
namespace EW
open PySem PySem.Spec PyProof.Rows L2 Evl LamX NdefX
/-! ### the seven lambdas -/
abbrev sRef : Stmt := top 54
abbrev nRef : List Str := ["pot", "by", "good", "rows", "row", "many", "looks", "look", "word", "value", "odd"]
theorem scRef : FnScope nRef ["pot"] (defScope sRef) := ⟨rfl, rfl, rfl, by decide +kernel, rfl, by decide +kernel, by decide +kernel⟩
/-- the name of their code -/
abbrev qRef : Str := ("_law_are_refused" : Str) ++ ".<locals>." ++ "<lambda>"
def headOf : Expr → Expr
  | .Tuple (e :: _) _ _ => e
  | e => e
def lamOf : Stmt → Expr
  | .Assign _ (.List (e :: _) _) _ => headOf e
  | .Expr (.Call _ (e :: _) _ _) _ => headOf e
  | _ => .Constant .none 0 ⟨0, 0, 0, 0⟩
def lamAt (i : Nat) : Expr := match (defBody sRef)[6 + i]? with
  | some st => lamOf st
  | none => .Constant .none 0 ⟨0, 0, 0, 0⟩
def laA : Expr → Arguments
  | .Lambda a _ _ _ => a
  | _ => ⟨[], [], none, [], [], none, []⟩
def laE : Expr → Expr
  | .Lambda _ e _ _ => e
  | e => e
def laS : Expr → Scope
  | .Lambda _ _ s _ => s
  | _ => { kind := .function, names := [], isGenerator := false, isCoroutine := false }
abbrev lamI (X : Cx) (i : Nat) (c : Addr) : LF := lamF X (laA (lamAt i)) (laE (lamAt i)) (laS (lamAt i)) c
theorem good_of {X : Cx} {i : Nat} {c : Addr} {fr : List Str} {js : List Nat} {t : XK → TE} (hsc : X.env.scope = defScope sRef) (hN : X.N = nRef) (b1 : nscB fr [] fr (laS (lamAt i)) = true) (b2 : ndefB (defScope sRef) (laS (lamAt i)) fr = true) (b3 : js.map (fun j => nRef[j]?) = fr.map some) (b4 : laA (lamAt i) = ⟨[], [], none, [], [], none, []⟩)
    (body : ∀ f B up z G E, Room 5 (B.deeper (envF (lamI X i c).nf f z.heap.objs.size)) → PE (ncx (L2.CX X.prog X.w) X.prog X.w X.K X.mg X.base fr (lamI X i c).nf f B up z G E) (laE (lamAt i)) (t E)) : LamGood X 5 (lamI X i c) fr js t where
  sc := nscope_by b1
  bd := fun pm cv ct => by
    show bindArgs (PySem.W.kla_fn "<lambda>" _ (laA (lamAt i)) _ _ _ _ _ _) ⟨[], []⟩ = pure []
    rw [b4]
    rfl
  caps := fun ok => Caps.made ok (by rw [hsc]; exact ndef_free b2) (ndef_fr b2) (by rw [hN]; exact b3)
  body := body
section
variable {X : Cx} {c C1 C2 fX : Addr} {fdX : FuncData}
abbrev rA (K : PySem.W.Frag) (C1 C2 : Addr) : XK → TE := fun E => tCall (spFolX K C1 C2) [] E (tCons (tC (.int 2)) (tCons (tVar 0) (tCons (tVar 1) tNil)))
abbrev rB (K : PySem.W.Frag) (C1 C2 : Addr) : XK → TE := fun E => tCall (spShX K C1 C2) [] E (tCons (tC (.int 2)) (tCons (tVar 0) (tCons (tVar 1) (tCons (tC .non) tNil))))
abbrev rC (K : PySem.W.Frag) (C1 : Addr) : XK → TE := fun E => tCall (spCkX K C1) [] E (tCons (tC (.int 2)) (tCons (tVar 0) tNil))
abbrev rD (K : PySem.W.Frag) (C1 C2 : Addr) : XK → TE := fun E => tCall (spFolX K C1 C2) [] E (tCons (tVar 0) (tCons (tVar 1) (tCons (tVar 2) tNil)))
abbrev rE (K : PySem.W.Frag) (C1 : Addr) : XK → TE := fun E => tCall (spCkX K C1) [] E (tCons (tVar 0) (tCons (tVar 1) tNil))
abbrev rF (K : PySem.W.Frag) (C1 C2 : Addr) : XK → TE := fun E => tCall (spShX K C1 C2) [] E (tCons (tC (.int 2)) (tCons (tVar 0) (tCons (tVar 1) (tCons (tTup (tCons (tC (.str "times")) (tCons (tC (.int 1)) (tCons (tTup (tCons (tC (.int 0)) (tCons (tC (.int 0)) tNil))) tNil)))) tNil))))
theorem good0 (hsc : X.env.scope = defScope sRef) (hN : X.N = nRef) (S : HasX X.prog X.w X.K X.mg X.base "follows" 5 ["many", "rows", "row"] (spFolX X.K C1 C2) fX fdX) : LamGood X 5 (lamI X 0 c) ["rows", "row"] [3, 4] (rA X.K C1 C2) :=
  good_of hsc hN (by decide +kernel) (by decide +kernel) (by decide +kernel) (by rfl) fun f B up z G E hb => pe_clX (E := E) S (takes_of rfl rfl rfl rfl) (fun _ _ _ _ q => q) hb (pa_cons pe_int (pa_cons (pv 0) (pa_cons (pv 1) pa_nil)))
theorem good1 (hsc : X.env.scope = defScope sRef) (hN : X.N = nRef) (S : HasX X.prog X.w X.K X.mg X.base "shows_follows" 5 ["many", "rows", "row", "value"] (spShX X.K C1 C2) fX fdX) : LamGood X 5 (lamI X 1 c) ["rows", "row"] [3, 4] (rB X.K C1 C2) :=
  good_of hsc hN (by decide +kernel) (by decide +kernel) (by decide +kernel) (by rfl) fun f B up z G E hb => pe_clX (E := E) S (takes_of rfl rfl rfl rfl) (fun _ _ _ _ q => q) hb (pa_cons pe_int (pa_cons (pv 0) (pa_cons (pv 1) (pa_cons pe_non pa_nil))))
theorem good2 (hsc : X.env.scope = defScope sRef) (hN : X.N = nRef) (S : HasX X.prog X.w X.K X.mg X.base "holds_somewhere" 4 ["many", "rows"] (spCkX X.K C1) fX fdX) : LamGood X 5 (lamI X 2 c) ["rows"] [3] (rC X.K C1) :=
  good_of hsc hN (by decide +kernel) (by decide +kernel) (by decide +kernel) (by rfl) fun f B up z G E hb => pe_clX (E := E) S (takes_of rfl rfl rfl rfl) (fun _ _ _ _ q => q) (hb.mono (by decide)) (pa_cons pe_int (pa_cons (pv 0) pa_nil))
theorem good3 (hsc : X.env.scope = defScope sRef) (hN : X.N = nRef) (S : HasX X.prog X.w X.K X.mg X.base "follows" 5 ["many", "rows", "row"] (spFolX X.K C1 C2) fX fdX) : LamGood X 5 (lamI X 3 c) ["many", "good", "row"] [5, 2, 4] (rD X.K C1 C2) :=
  good_of hsc hN (by decide +kernel) (by decide +kernel) (by decide +kernel) (by rfl) fun f B up z G E hb => pe_clX (E := E) S (takes_of rfl rfl rfl rfl) (fun _ _ _ _ q => q) hb (pa_cons (pv 0) (pa_cons (pv 1) (pa_cons (pv 2) pa_nil)))
theorem good4 (hsc : X.env.scope = defScope sRef) (hN : X.N = nRef) (S : HasX X.prog X.w X.K X.mg X.base "holds_somewhere" 4 ["many", "rows"] (spCkX X.K C1) fX fdX) : LamGood X 5 (lamI X 4 c) ["many", "good"] [5, 2] (rE X.K C1) :=
  good_of hsc hN (by decide +kernel) (by decide +kernel) (by decide +kernel) (by rfl) fun f B up z G E hb => pe_clX (E := E) S (takes_of rfl rfl rfl rfl) (fun _ _ _ _ q => q) (hb.mono (by decide)) (pa_cons (pv 0) (pa_cons (pv 1) pa_nil))
theorem good5 (hsc : X.env.scope = defScope sRef) (hN : X.N = nRef) (S : HasX X.prog X.w X.K X.mg X.base "follows" 5 ["many", "rows", "row"] (spFolX X.K C1 C2) fX fdX) : LamGood X 5 (lamI X 5 c) ["good", "row"] [2, 4] (rA X.K C1 C2) :=
  good_of hsc hN (by decide +kernel) (by decide +kernel) (by decide +kernel) (by rfl) fun f B up z G E hb => pe_clX (E := E) S (takes_of rfl rfl rfl rfl) (fun _ _ _ _ q => q) hb (pa_cons pe_int (pa_cons (pv 0) (pa_cons (pv 1) pa_nil)))
theorem good6 (hsc : X.env.scope = defScope sRef) (hN : X.N = nRef) (S : HasX X.prog X.w X.K X.mg X.base "shows_follows" 5 ["many", "rows", "row", "value"] (spShX X.K C1 C2) fX fdX) : LamGood X 5 (lamI X 6 c) ["good", "row"] [2, 4] (rF X.K C1 C2) :=
  good_of hsc hN (by decide +kernel) (by decide +kernel) (by decide +kernel) (by rfl) fun f B up z G E hb => pe_clX (E := E) S (takes_of rfl rfl rfl rfl) (fun _ _ _ _ q => q) hb (pa_cons pe_int (pa_cons (pv 0) (pa_cons (pv 1) (pa_cons (pe_tup (pa_cons pe_str (pa_cons pe_int (pa_cons (pe_tup (pa_cons pe_int (pa_cons pe_int pa_nil))) pa_nil)))) pa_nil))))
/-- a look, in the state of the comprehension -/
theorem look_item {s0 s1 s2 s3 s4 s5 s6 s10 : Option V} {x y : V} {H : Hp} {b : Bool} {i : Nat} {fr : List Str} {js : List Nat} {t : XK → TE} {d : PyData} {p : Addr} {n : Nat} (hx : LkP (lamQ X) (lamI X i) (if b = true then "rows" else "row") y x H) (good : ∀ c, LamGood X 5 (lamI X i c) fr js t) (po : Pot p n H) (hy : DH X.K p p d y H) (fd : fit d = true)
    (out : ∀ G', Ex H G' → ∀ E Q', Out (if b = true then C1 else C2) y G' E → t E (startF fr [] (js.map (NdefX.slotAt [s0, s1, s2, s3, s4, s5, s6, none, none, none, s10]))) G' Q') :
    ∃ σ2, (∀ Q : L2.St → Hp → Prop, Q σ2 H → gTup X.K 3 (gCons (gName 7) (gCons (gName 8) (gCons (gName 9) gNil))) x (wipe [s0, s1, s2, s3, s4, s5, s6, none, none, none, s10] [7, 8, 9]) H Q) ∧ wipe σ2 [7, 8, 9] = wipe [s0, s1, s2, s3, s4, s5, s6, none, none, none, s10] [7, 8, 9] ∧
      EvD (tOp rEq (tCB (rRepr X.K) (tCons (tHeard X 5 C1 C2 [s0, s1, s2, s3, s4, s5, s6, none, none, none, s10] (tVar 7)) tNil)) (tCB (rRepr X.K) (tCons (tTup (tCons (tLst (tCons (tVar 8) tNil)) (tCons (tVar 9) tNil))) tNil))) σ2 H (fun v _ => v = .bl true) := by
  obtain ⟨u, f, c, rfl, hu, hf, hc⟩ := hx
  exact ⟨_, fun Q q => g_three hu q, rfl, EvP.d tst_eq (ev_look rfl rfl rfl hf hc (good c) po hy fd out)⟩
end
end EW
set_option Elab.async false
set_option linter.all false
set_option maxRecDepth 100000
set_option maxHeartbeats 4000000
set_option exponentiation.threshold 30000
namespace EW
open PySem PySem.Spec PyProof.Rows L2 Evl
/-! ### no columns -/
section
variable {K : PySem.W.Frag} {H : Hp} {v : V} {R : Nat → Row} {m : Nat}
theorem dq_rws0 (h : Dq K H v (.tuple [])) : RwsP K 0 m R v H := by
  cases h with
  | tup s a =>
    cases a
    exact ⟨_, _, rfl, s, rfl, fun i x hx => by simp at hx⟩
theorem dq_rws1 {r : Row} (h : Dq K H v (.tuple [.tuple [.int r.1, pdI m r.2]])) : RwsP K 1 m (fun _ => r) v H := by
  cases h with
  | tup s a =>
    cases a with
    | cons a1 a =>
      cases a
      refine ⟨_, _, rfl, s, rfl, fun i x hx => ?_⟩
      match i, hx with
      | 0, hx =>
        cases hx
        exact dq_row a1
      | i + 1, hx => simp at hx
theorem folZ_dq (h : FolZ K 0 v H) : Dq K H v (.tuple [.str "times", .int 1, .tuple []]) := by
  obtain ⟨T, q, rfl, s, i⟩ := h
  exact .tup s (.cons (.str _) (.cons (.int _) (.cons (ints_dq i) .nil)))
theorem fol_spot {r : Row} (neg : r.1 < 0) (h : FolP K 0 0 R r v H) : Dq K H v (.tuple [.str "spot", .tuple []]) := by
  have z0 : ∀ t, totF 0 0 R t 0 = 0 := fun t => rfl
  rcases h with ⟨T, b, u, t, rfl, hT, hu, hf⟩ | ⟨T, u, t, rfl, hT, hu, hf⟩ | ⟨T, u, z, rfl, hT, hu, _, _, _⟩
  · have c := hf.comes.2
    rw [z0] at c
    have b0 := hf.b0
    have : (b : Int) * r.1 < 0 := Int.mul_neg_of_pos_of_neg (by omega) neg
    omega
  · have c := hf.comes.2
    rw [z0] at c
    omega
  · exact .tup hT (.cons (.str _) (.cons (frs_dq hu) .nil))
theorem ho_nil (h : HoP K 0 0 R v H) : Dq K H v (.tuple []) := by
  rcases h with ⟨_, no⟩ | ⟨z, hz, _⟩
  · exact absurd (fun i hi => absurd hi (Nat.not_lt_zero _)) (no fun _ => 0)
  · exact frs_dq hz
/-- the last one that is shown -/
theorem never_shown {b : Nat} : Shown 1 0 (fun _ => (-1, fun _ => 0)) ((b : Int) - 99, fun _ => 0) (.tuple [.str "never", .tuple [.int ((b : Int) + 1)]]) := by
  refine .inr (.inl ⟨fun _ => (b : Int) + 1, rfl, fun i _ => by show (0 : Int) ≤ (b : Int) + 1; omega, fun j hj => absurd hj (Nat.not_lt_zero _), ?_⟩)
  have e : totF 1 0 (fun _ => ((-1 : Int), fun _ => (0 : Int))) (fun _ => (b : Int) + 1) 0 = ((b : Int) + 1) * (-1) := by
    simp [totF, SX.smI, colOf]
  rw [e]
  omega
theorem never_aI : ∀ b : Nat, b < 9 → aI (.tuple [.str "never", .tuple [.int ((b : Int) + 1)]]) = true := by
  have h : (List.range 9).all (fun b : Nat => aI (.tuple [.str "never", .tuple [.int ((b : Int) + 1)]])) = true := by decide +kernel
  exact fun b hb => List.all_eq_true.mp h b (List.mem_range.mpr hb)
theorem bo_false {S : Prop} (no : ¬ S) (h : BoP S v H) : Dq K H v (.bool false) := by
  obtain ⟨b, rfl, hb⟩ := h
  cases b with
  | false => exact .bl _
  | true => exact absurd (hb.mp rfl) no
end
end EW
set_option Elab.async false
set_option linter.all false
set_option maxRecDepth 100000
set_option maxHeartbeats 4000000
set_option exponentiation.threshold 30000
namespace EW
open PySem PySem.Spec PyProof.Rows L2 Evl LamX NdefX
section
variable {P : Program} {w : World} {K : PySem.W.Frag} {mg : Str → Option Value} {base : Heap}
def X2 (p T : Addr) (H G : Hp) : Prop := ∀ a o, a ≠ p → a ≠ T → H a = some o → G a = some o
def spRef (T : Addr) : Sp := fun vs H Q _ => ∃ (p : Addr) (c : Nat), vs = [.ref p] ∧ Pot p c H ∧ c < 2 ^ 50 ∧ TabS H T qRef ∧ ∀ H', X2 p T H H' → Pot p (c + 4) H' → TabS H' T qRef → Q (.bl true) H'
theorem ok_ref {f fT fO fH fF fS fW fG fX fY fZ D C1 C2 cR T : Addr} {fd fdT fdO fdH fdF fdS fdW fdG fdX fdY fdZ : FuncData} (F : FunC K "_law_are_refused" "_law_are_refused" sRef f fd (.ref cR)) (TB : TabB base mg cR T) (B : Bl2 mg) (hrep : mg "repr" = none) (Tk : Has P w K mg base "_law_take" 1 ["pot", "upto"] spTake fT fdT) (Of : Has P w K mg base "_law_of" 2 ["pot", "some"] (spOf K) fO fdO)
    (FH : Fun K "_law_heard" "_law_heard" sHeard fH fdH) (gH : mg "_law_heard" = some (.ref fH)) (kH : PySem.W.keepIn K (.ref fH) = true) (bH : Binds K fdH ["call"] []) (U : Hears K mg D C1 C2)
    (Fo : Has P w K mg base "follows" 12 ["many", "rows", "row"] (spTold K) fF fdF) (FoZ : Has P w K mg base "follows" 5 ["many", "rows", "row"] (spToldZ K) fW fdW) (Ho : Has P w K mg base "holds_somewhere" 11 ["many", "rows"] (spHolds K) fG fdG) (Sh : Has P w K mg base "shows_follows" 5 ["many", "rows", "row", "value"] (spShows K) fS fdS)
    (FoX : HasX P w K mg base "follows" 5 ["many", "rows", "row"] (spFolX K C1 C2) fX fdX) (ShX : HasX P w K mg base "shows_follows" 5 ["many", "rows", "row", "value"] (spShX K C1 C2) fY fdY) (HoX : HasX P w K mg base "holds_somewhere" 4 ["many", "rows"] (spCkX K C1) fZ fdZ) :
    FnG P w K mg base 13 f fd ["pot"] (spRef T) := by
  refine fun_okGc F scRef (fun vs H Q E h => ?_) (fun A outer s H vs Q E gd hr h => ?_)
  · obtain ⟨p, c, rfl, _⟩ := h
    rfl
  · obtain ⟨p, c, rfl, po, hc, tab, k⟩ := h
    refine ⟨_, pss_cons (ps_set (i := 1) scRef.nd rfl (.inl rfl) (pe_callTy call_int1 (by rfl) B.int (by decide +kernel) (pa_cons (pe_cl Tk (hr.mono (by decide)) (pa_cons (pv 0) (pa_cons pe_int pa_nil))) pa_nil)))
      (pss_cons (ps_set (i := 2) scRef.nd rfl (.inr rfl) (pe_tup (pa_cons (pe_tup (pa_cons (pv 1) (pa_cons (pe_tup (pa_cons pe_int (pa_cons pe_int pa_nil))) pa_nil))) (pa_cons (pe_tup (pa_cons pe_int (pa_cons (pe_tup (pa_cons pe_int (pa_cons pe_int pa_nil))) pa_nil))) pa_nil))))
      (pss_cons (ps_set (i := 3) scRef.nd rfl (.inr rfl) (pe_lst (pa_cons pe_non (pa_cons (pe_lst (pa_cons (pe_tup (pa_cons (pv 1) (pa_cons (pe_tup (pa_cons pe_int (pa_cons pe_int pa_nil))) pa_nil))) pa_nil))
          (pa_cons (pe_tup (pa_cons (pe_tup (pa_cons (pv 1) (pa_cons (pe_tup (pa_cons pe_int pa_nil)) pa_nil))) pa_nil)) (pa_cons (pe_tup (pa_cons (pe_tup (pa_cons (pv 1) (pa_cons (pe_lst (pa_cons pe_int (pa_cons pe_int pa_nil))) pa_nil))) pa_nil))
          (pa_cons (pe_tup (pa_cons (pe_tup (pa_cons (pv 1) (pa_cons (pe_tup (pa_cons pe_int (pa_cons pe_non pa_nil))) pa_nil))) pa_nil)) (pa_cons (pe_tup (pa_cons (pe_tup (pa_cons pe_bl (pa_cons (pe_tup (pa_cons pe_int (pa_cons pe_int pa_nil))) pa_nil))) pa_nil)) (pa_cons pe_str pa_nil)))))))))
      (pss_cons (ps_set (i := 3) scRef.nd rfl (.inr rfl) (pe_cl Of (hr.mono (by decide)) (pa_cons (pv 0) (pa_cons (pe_op op_cat (pv 3) (pe_lst (pa_cons (pe_op op_repU (pv 2) pe_int) (pa_cons (pe_tup (pa_cons (pe_tup (pa_cons (pv 1) (pa_cons (pe_tup (pa_cons pe_int (pa_cons pe_int pa_nil))) (pa_cons pe_int pa_nil)))) pa_nil))
          (pa_cons (pe_tup (pa_cons (pv 1) (pa_cons (pe_tup (pa_cons pe_int (pa_cons pe_int pa_nil))) pa_nil))) pa_nil))))) pa_nil))))
      (pss_cons (ps_set (i := 4) scRef.nd rfl (.inr rfl) (pe_cl Of (hr.mono (by decide)) (pa_cons (pv 0) (pa_cons (pe_lst (pa_cons pe_non (pa_cons (pe_tup (pa_cons (pv 1) (pa_cons (pe_tup (pa_cons pe_int pa_nil)) pa_nil))) (pa_cons (pe_lst (pa_cons (pv 1) (pa_cons (pe_tup (pa_cons pe_int (pa_cons pe_int pa_nil))) pa_nil)))
          (pa_cons (pe_tup (pa_cons (pv 1) (pa_cons (pe_lst (pa_cons pe_int (pa_cons pe_int pa_nil))) pa_nil))) (pa_cons (pe_tup (pa_cons pe_non (pa_cons (pe_tup (pa_cons pe_int (pa_cons pe_int pa_nil))) pa_nil))) (pa_cons (pe_tup (pa_cons (pv 1) (pa_cons (pe_tup (pa_cons pe_bl (pa_cons pe_int pa_nil))) pa_nil)))
          (pa_cons (pe_tup (pa_cons (pv 1) pa_nil)) (pa_cons pe_str (pa_cons (pv 1) pa_nil)))))))))) pa_nil))))
      (pss_cons (ps_set (i := 5) scRef.nd rfl (.inr rfl) (pe_cl Of (hr.mono (by decide)) (pa_cons (pv 0) (pa_cons (pe_lst (pa_cons (pe_un un_neg pe_int) (pa_cons pe_int (pa_cons pe_non (pa_cons pe_bl (pa_cons pe_str (pa_cons pe_int pa_nil))))))) pa_nil))))
      (pss_cons (ps_set (i := 6) scRef.nd rfl (.inl rfl) (pe_lst (pa_cons (pe_tup (pa_cons (pe_lam TB rfl rfl (ndef_free (sc := defScope sRef) (fr := []) (by decide +kernel))) (pa_cons pe_str (pa_cons (pv 3) pa_nil)))) pa_nil)))
      (pss_cons (ps_expr (pe_bm PySem.F.plainAttrs_list PySem.F.slot_list_append PySem.F.type_list_append mt_append (pv 6) (pa_cons (pe_tup (pa_cons (pe_lam TB rfl rfl (ndef_free (sc := defScope sRef) (fr := []) (by decide +kernel))) (pa_cons pe_str (pa_cons (pv 3) pa_nil)))) pa_nil)))
      (pss_cons (ps_expr (pe_bm PySem.F.plainAttrs_list PySem.F.slot_list_append PySem.F.type_list_append mt_append (pv 6) (pa_cons (pe_tup (pa_cons (pe_lam TB rfl rfl (ndef_free (sc := defScope sRef) (fr := []) (by decide +kernel))) (pa_cons pe_str (pa_cons (pv 3) pa_nil)))) pa_nil)))
      (pss_cons (ps_expr (pe_bm PySem.F.plainAttrs_list PySem.F.slot_list_append PySem.F.type_list_append mt_append (pv 6) (pa_cons (pe_tup (pa_cons (pe_lam TB rfl rfl (ndef_free (sc := defScope sRef) (fr := []) (by decide +kernel))) (pa_cons pe_str (pa_cons (pv 2) pa_nil)))) pa_nil)))
      (pss_cons (ps_expr (pe_bm PySem.F.plainAttrs_list PySem.F.slot_list_append PySem.F.type_list_append mt_append (pv 6) (pa_cons (pe_tup (pa_cons (pe_lam TB rfl rfl (ndef_free (sc := defScope sRef) (fr := []) (by decide +kernel))) (pa_cons pe_str (pa_cons (pv 2) pa_nil)))) pa_nil)))
      (pss_cons (ps_expr (pe_bm PySem.F.plainAttrs_list PySem.F.slot_list_append PySem.F.type_list_append mt_append (pv 6) (pa_cons (pe_tup (pa_cons (pe_lam TB rfl rfl (ndef_free (sc := defScope sRef) (fr := []) (by decide +kernel))) (pa_cons pe_str (pa_cons (pv 4) pa_nil)))) pa_nil)))
      (pss_cons (ps_expr (pe_bm PySem.F.plainAttrs_list PySem.F.slot_list_append PySem.F.type_list_append mt_append (pv 6) (pa_cons (pe_tup (pa_cons (pe_lam TB rfl rfl (ndef_free (sc := defScope sRef) (fr := []) (by decide +kernel))) (pa_cons pe_str (pa_cons (pv 4) pa_nil)))) pa_nil)))
      (pss_cons (ps_if (pt_not (pt_val (pe_callB (cr_all rfl) (by rfl) B.all (by decide +kernel) (pa_cons (pe_lcK (own := [("look", 7), ("word", 8), ("value", 9)]) (g := gTup K 3 (gCons (gName 7) (gCons (gName 8) (gCons (gName 9) gNil))))
          (te := fun σ0 => tOp rEq (tCB (rRepr K) (tCons (tHeard (cxOf CX0 P w K mg base nRef "_law_are_refused" (defScope sRef) f (.ref cR) A outer s H E).nox 5 C1 C2 σ0 (tVar 7)) tNil)) (tCB (rRepr K) (tCons (tTup (tCons (tLst (tCons (tVar 8) tNil)) (tCons (tVar 9) tNil))) tNil))) rfl scRef.nd (pi_list (pv 6)) (blkOk_by (N := nRef) (sc := defScope sRef) (by decide +kernel))
          (fun _ _ _ _ _ => pg_tup rfl (pgs_cons (pg_name (i := 7) scRef.nd rfl (.inl rfl)) (pgs_cons (pg_name (i := 8) scRef.nd rfl (.inl rfl)) (pgs_cons (pg_name (i := 9) scRef.nd rfl (.inl rfl)) pgs_nil))))
          (fun pins σ z G C cl fp J hfp => pe_cmpR op_eq (pe_callB (call_repr hr.units gd) (by rfl) hrep (by decide +kernel) (pa_cons (pe_heard J hfp (fun _ => rfl) FH gH kH bH U (hr.mono (by decide)) (pv 7)) pa_nil)) (pe_callB (call_repr hr.units gd) (by rfl) hrep (by decide +kernel) (pa_cons (pe_tup (pa_cons (pe_lst (pa_cons (pv 8) pa_nil)) (pa_cons (pv 9) pa_nil))) pa_nil)) (nomark _))) pa_nil)))) (pss_one (ps_ret pe_bl)) pss_nil)
      (pss_cons (ps_set (i := 10) scRef.nd rfl (.inl rfl) (pe_lst (pa_cons pe_non (pa_cons pe_int (pa_cons pe_str (pa_cons (pe_tup pa_nil) (pa_cons (pe_tup (pa_cons pe_str pa_nil)) (pa_cons (pe_lst (pa_cons pe_str (pa_cons pe_int (pa_cons (pe_tup (pa_cons pe_int (pa_cons pe_int pa_nil))) pa_nil)))) (pa_cons pe_dnewK
          (pa_cons (pe_tup (pa_cons pe_str (pa_cons pe_int (pa_cons (pe_tup (pa_cons (pe_un un_neg pe_int) (pa_cons pe_int pa_nil))) pa_nil)))) (pa_cons (pe_tup (pa_cons pe_str (pa_cons pe_int (pa_cons pe_non pa_nil)))) (pa_cons (pe_tup (pa_cons pe_bl (pa_cons pe_int pa_nil))) pa_nil))))))))))))
      (pss_cons (ps_expr (pe_bm PySem.F.plainAttrs_list PySem.F.slot_list_extend PySem.F.type_list_extend mt_extend (pv 10) (pa_cons (pe_lst (pa_cons (pe_tup (pa_cons pe_str (pa_cons (pe_tup (pa_cons pe_int (pa_cons pe_int pa_nil))) pa_nil)))
          (pa_cons (pe_tup (pa_cons pe_str (pa_cons (pe_tup (pa_cons (pe_tup (pa_cons pe_int (pa_cons pe_int pa_nil))) (pa_cons (pe_tup (pa_cons pe_int (pa_cons pe_int pa_nil))) pa_nil))) pa_nil))) (pa_cons (pe_tup (pa_cons pe_str (pa_cons (pe_tup (pa_cons (pe_tup (pa_cons pe_int (pa_cons pe_int pa_nil))) pa_nil)) pa_nil)))
          (pa_cons (pe_tup (pa_cons pe_str (pa_cons pe_non pa_nil))) pa_nil))))) pa_nil)))
      (pss_cons (ps_expr (pe_bm PySem.F.plainAttrs_list PySem.F.slot_list_append PySem.F.type_list_append mt_append (pv 10) (pa_cons (pe_tup (pa_cons pe_str (pa_cons pe_bl (pa_cons (pe_tup (pa_cons pe_int (pa_cons pe_int pa_nil))) pa_nil)))) pa_nil)))
      (pss_cons (ps_for PassesOwn.never rfl (pi_list (pv 10)) (pg_name (i := 9) scRef.nd rfl (.inl rfl))
        (pss_one (ps_if (pt_cmpR op_ne (pe_callB (call_repr hr.units gd) (by rfl) hrep (by decide +kernel) (pa_cons (pe_cl Sh (hr.mono (by decide)) (pa_cons pe_int (pa_cons (pv 2) (pa_cons (pe_tup (pa_cons (pv 1) (pa_cons (pe_tup (pa_cons pe_int (pa_cons pe_int pa_nil))) pa_nil))) (pa_cons (pv 9) pa_nil))))) pa_nil))
          (pe_callB (call_repr hr.units gd) (by rfl) hrep (by decide +kernel) (pa_cons pe_bl pa_nil)) (nomark _)) (pss_one (ps_ret pe_bl)) pss_nil)))
      (pss_cons (ps_if (pw_or (pt_cmpR (op_neD hr.units) (pe_cl FoZ (hr.mono (by decide)) (pa_cons pe_int (pa_cons (pe_tup pa_nil) (pa_cons (pe_tup (pa_cons (pv 1) (pa_cons (pe_tup pa_nil) pa_nil))) pa_nil)))) (pe_tup (pa_cons pe_str (pa_cons pe_int (pa_cons (pe_tup pa_nil) pa_nil)))) (nomark _))
          (pw_or1 (pt_cmpR (op_neD hr.units) (pe_cl Fo hr (pa_cons pe_int (pa_cons (pe_tup pa_nil) (pa_cons (pe_tup (pa_cons (pe_op op_sub (pe_un un_neg pe_int) (pv 1)) (pa_cons (pe_tup pa_nil) pa_nil))) pa_nil)))) (pe_tup (pa_cons pe_str (pa_cons (pe_tup pa_nil) pa_nil))) (nomark _)))).pt (pss_one (ps_ret pe_bl)) pss_nil)
      (pss_one (ps_ret (pe_and (pe_cmpR (op_eqD hr.units) (pe_cl Ho (hr.mono (by decide)) (pa_cons pe_int (pa_cons (pe_tup pa_nil) pa_nil))) (pe_tup pa_nil) (nomark _))
        (pe_one (pe_cmpR op_isBl (pe_cl Sh (hr.mono (by decide)) (pa_cons pe_int (pa_cons (pe_tup (pa_cons (pe_tup (pa_cons (pe_un un_neg pe_int) (pa_cons (pe_tup pa_nil) pa_nil))) pa_nil)) (pa_cons (pe_tup (pa_cons (pe_op op_sub (pv 1) pe_int) (pa_cons (pe_tup pa_nil) pa_nil))) (pa_cons (pe_tup (pa_cons pe_str (pa_cons (pe_tup (pa_cons (pe_op op_add (pv 1) pe_int) pa_nil)) pa_nil))) pa_nil))))) pe_bl (nomark _)))))))))))))))))))))))), ?_⟩
    have T2 : ∀ {σ : L2.St} {G : Hp} {q : Addr} (i j : Int), At p q G → EvP (tTup (tCons (tC (.int i)) (tCons (tC (.int j)) tNil))) σ G (DH K p q (.tuple [.int i, .int j])) := fun i j a => ep_tup2D a (dh_c fun _ => .int _) (dh_c fun _ => .int _)
    refine qm_asg (c := c) (d := c + 1) (m_intN (m_take (u := 9) rfl (by omega) (by decide) (by decide))) po fun bv H1 x1 p1 ⟨b, hb, b9⟩ => ?_
    subst hb
    have Bv : ∀ {σ : L2.St} {G : Hp}, σ[1]? = some (some (.int (b : Int))) → EvP (tVar 1) σ G (DH K p p (.int (b : Int))) := fun h => dh_v (ev_var h) fun _ => .int _
    have at1 : At p p H1 := at_pot p1
    refine qp_asg (P := DH K p p (goodD b)) (ep_tup2D at1 (ep_tup2D at1 (Bv rfl) (T2 1 0 at1)) (ep_tup2D at1 (dh_c fun _ => .int _) (T2 0 1 at1))) fun gv H2 e2 hg2 => ?_
    have p2 := pot_ex e2 p1
    have at2 : At p p H2 := at_pot p2
    refine qp_asg (P := LG p (Alt K p (rowsA b)) 7) (ep_lstL alt_mono at2 (al_cons alt_mono (alt_of (dh_c fun _ => .non) (by simp [rowsA, rows7, rows3, dRow])) (al_cons alt_mono (alt_of (ep_lst1D at2 (ep_tup2D at2 (Bv rfl) (T2 1 0 at2))) (by simp [rowsA, rows7, rows3, dRow]))
      (al_cons alt_mono (alt_of (ep_tup1D at2 (ep_tup2D at2 (Bv rfl) (ep_tup1D at2 (dh_c fun _ => .int _)))) (by simp [rowsA, rows7, rows3, dRow])) (al_cons alt_mono (alt_of (ep_tup1D at2 (ep_tup2D at2 (Bv rfl) (ep_lst2D at2 (dh_c fun _ => .int _) (dh_c fun _ => .int _)))) (by simp [rowsA, rows7, rows3, dRow]))
      (al_cons alt_mono (alt_of (ep_tup1D at2 (ep_tup2D at2 (Bv rfl) (ep_tup2D at2 (dh_c fun _ => .int _) (dh_c fun _ => .non)))) (by simp [rowsA, rows7, rows3, dRow])) (al_cons alt_mono (alt_of (ep_tup1D at2 (ep_tup2D at2 (dh_c fun _ => .bl _) (T2 1 0 at2))) (by simp [rowsA, rows7, rows3, dRow]))
      (al_cons alt_mono (alt_of (dh_c fun _ => .str _) (by simp [rowsA, rows7, rows3, dRow])) al_nil))))))) (by decide)) fun l0 H3 e3 hl0 => ?_
    have p3 := pot_ex e3 p2
    have hg3 := dh_mono _ _ _ e3 hg2
    refine qm_asg (c := c + 1) (d := c + 1 + 1) (P := Alt K p (rowsA b)) (m_ofV (n := 7 + 3) (at_pot p3) rfl (fun G x a => ep_catL2 alt_mono a (ep_varM rfl (lg_xb (fun _ _ _ x h => alt_xb x h) x hl0) (lg_mono alt_mono)) (ep_lstL alt_mono a
      (al_cons alt_mono (alt_of (ep_repDm (n := 31) a (ep_varM rfl (dh_xb x hg3) dh_mono) ev_c (by simp [goodL]) (by simp [goodL]) (by decide) (by decide)) (by simp [rowsA, rows7, rows3, dRow])) (al_cons alt_mono (alt_of (ep_tup1D a (ep_tup3D a (Bv rfl) (T2 1 0 a) (dh_c fun _ => .int _))) (by simp [rowsA, rows7, rows3, dRow]))
      (al_cons alt_mono (alt_of (ep_tup2D a (Bv rfl) (T2 1 0 a)) (by simp [rowsA, rows7, rows3, dRow])) al_nil))) (by decide)) (by decide)) (fun _ _ _ x h => alt_xb x h) (by decide) (by decide) (by omega)) p3 fun rv H4 x4 p4 ⟨dr, hdr, hr4⟩ => ?_
    refine qm_asg (c := c + 1 + 1) (d := c + 1 + 1 + 1) (P := Alt K p (rowA b)) (m_ofV (n := 9) (at_pot p4) rfl (fun G x a => ep_lstL alt_mono a
      (al_cons alt_mono (alt_of (dh_c fun _ => .non) (by simp [rowA, dRow])) (al_cons alt_mono (alt_of (ep_tup2D a (Bv rfl) (ep_tup1D a (dh_c fun _ => .int _))) (by simp [rowA, dRow])) (al_cons alt_mono (alt_of (ep_lst2D a (Bv rfl) (T2 1 0 a)) (by simp [rowA, dRow]))
      (al_cons alt_mono (alt_of (ep_tup2D a (Bv rfl) (ep_lst2D a (dh_c fun _ => .int _) (dh_c fun _ => .int _))) (by simp [rowA, dRow])) (al_cons alt_mono (alt_of (ep_tup2D a (dh_c fun _ => .non) (T2 1 0 a)) (by simp [rowA, dRow])) (al_cons alt_mono (alt_of (ep_tup2D a (Bv rfl) (ep_tup2D a (dh_c fun _ => .bl _) (dh_c fun _ => .int _))) (by simp [rowA, dRow]))
      (al_cons alt_mono (alt_of (ep_tup1D a (Bv rfl)) (by simp [rowA, dRow])) (al_cons alt_mono (alt_of (dh_c fun _ => .str _) (by simp [rowA, dRow])) (al_cons alt_mono (alt_of (Bv rfl) (by simp [rowA, dRow])) al_nil))))))))) (by decide)) (fun _ _ _ x h => alt_xb x h) (by decide) (by decide) (by omega)) p4 fun wv H5 x5 p5 ⟨dw, hdw, hw5⟩ => ?_
    refine qm_asg (c := c + 1 + 1 + 1) (d := c + 1 + 1 + 1 + 1) (P := Alt K p manyA) (m_ofV (n := 6) (at_pot p5) rfl (fun G x a => ep_lstL alt_mono a
      (al_cons alt_mono (alt_of (dh_v (ev_un ev_c ru_neg) fun _ => .int _) (by simp [manyA])) (al_cons alt_mono (alt_of (dh_c fun _ => .int _) (by simp [manyA])) (al_cons alt_mono (alt_of (dh_c fun _ => .non) (by simp [manyA]))
      (al_cons alt_mono (alt_of (dh_c fun _ => .bl _) (by simp [manyA])) (al_cons alt_mono (alt_of (dh_c fun _ => .str _) (by simp [manyA])) (al_cons alt_mono (alt_of (dh_c fun _ => .int _) (by simp [manyA])) al_nil)))))) (by decide)) (fun _ _ _ x h => alt_xb x h) (by decide) (by decide) (by omega)) p5 fun mv H6 x6 p6 ⟨dm, hdm, hm6⟩ => ?_
    have x36 : Xb p H3 H6 := (x4.trans x5).trans x6
    have x06 : Xb p H H6 := ((x1.trans (xb_ex e2)).trans (xb_ex e3)).trans x36
    have hg6 := dh_xb x36 hg3
    have hr6 := dh_xb (x5.trans x6) hr4
    have hw6 := dh_xb x6 hw5
    have tab6 : TabS H6 T qRef := tab_pot po x06 tab
    obtain ⟨br1, br2, br3⟩ := rows_bad b b9 dr hdr
    obtain ⟨bw1, bw2, bw3⟩ := row_bad b b9 dw hdw
    obtain ⟨bm1, bm2, bm3⟩ := many_bad b b9
    have bm1 := bm1 dm hdm
    -- the looks
    refine q_look1 (F := lamI _ 0) (v := rv) tab6 (fun G => ev_var rfl) fun l G7 l7 lT x7 lk7 t7 => ?_
    refine q_lookA (F := lamI _ 1) (v := rv) l7 lT x7 lk7 t7 (show 1 < 100 by decide) (fun G => ev_var rfl) (fun G => ev_var rfl) fun G8 x8 lk8 t8 => ?_
    refine q_lookA (F := lamI _ 2) (v := rv) l7 lT x8 lk8 t8 (show 2 < 100 by decide) (fun G => ev_var rfl) (fun G => ev_var rfl) fun G9 x9 lk9 t9 => ?_
    refine q_lookA (F := lamI _ 3) (v := gv) l7 lT x9 lk9 t9 (show 3 < 100 by decide) (fun G => ev_var rfl) (fun G => ev_var rfl) fun G10 x10 lk10 t10 => ?_
    refine q_lookA (F := lamI _ 4) (v := gv) l7 lT x10 lk10 t10 (show 4 < 100 by decide) (fun G => ev_var rfl) (fun G => ev_var rfl) fun G11 x11 lk11 t11 => ?_
    refine q_lookA (F := lamI _ 5) (v := wv) l7 lT x11 lk11 t11 (show 5 < 100 by decide) (fun G => ev_var rfl) (fun G => ev_var rfl) fun G12 x12 lk12 t12 => ?_
    refine q_lookA (F := lamI _ 6) (v := wv) l7 lT x12 lk12 t12 (show 6 < 100 by decide) (fun G => ev_var rfl) (fun G => ev_var rfl) fun G x lk t => ?_
    have pG := pot_tab (tabS_is tab6) x p6
    have hgG := dh_tab (tabS_is tab6) p6 x hg6
    have hrG := dh_tab (tabS_is tab6) p6 x hr6
    have hwG := dh_tab (tabS_is tab6) p6 x hw6
    have hmG := dh_tab (tabS_is tab6) p6 x hm6
    clear lk7 lk8 lk9 lk10 lk11 lk12
    obtain ⟨xs, hl, ln, lks⟩ := lk
    have ln : xs.length = 7 := ln
    have gr : ∀ {G' : Hp}, Ex G G' → Dq K G' rv dr := fun e => dh_dq (dh_mono _ _ _ e hrG)
    have gg : ∀ {G' : Hp}, Ex G G' → Dq K G' gv (goodD b) := fun e => dh_dq (dh_mono _ _ _ e hgG)
    have gw : ∀ {G' : Hp}, Ex G G' → Dq K G' wv dw := fun e => dh_dq (dh_mono _ _ _ e hwG)
    have gm : ∀ {G' : Hp}, Ex G G' → Dq K G' mv dm := fun e => dh_dq (dh_mono _ _ _ e hmG)
    have lk0 := fun x h => lks 0 x _ h rfl
    have lk1 := fun x h => lks 1 x _ h rfl
    have lk2 := fun x h => lks 2 x _ h rfl
    have lk3 := fun x h => lks 3 x _ h rfl
    have lk4 := fun x h => lks 4 x _ h rfl
    have lk5 := fun x h => lks 5 x _ h rfl
    have lk6 := fun x h => lks 6 x _ h rfl
    clear lks
    refine q_when (b := false) (et_is (et_not (et_B (ev_allN (n := 7) (f := fun _ => true) (en_lcS (en_lc (sr_list (Pi := fun i x _ => xs[i]? = some x) (ev_var rfl) (sq_of hl) ln (fun _ _ _ _ _ h => h) (fun _ _ h => h)) (by decide) (fun _ => mono_eq) ?_))))) (by simp)) (fun z => by cases z) fun _ H14 e14 => ?_
    · intro i x H' hi e hx
      have bad : ∀ {G' : Hp} {E : XK}, Ex H' G' → Out C2 wv G' E → BadIn K C1 C2 (.int 2) gv wv G' E := fun e' o => .inr ⟨2, 2, goodR b, dw, rfl, dq_good (gg (e.trans e')), by decide, by decide, gw (e.trans e'), rowSzB_ok bw2, bw1, o⟩
      match i, hi, hx with
      | 0, _, hx => exact look_item (C1 := C1) (C2 := C2) (b := true) (lk_mono _ _ _ e (lk0 x hx)) (fun c => good0 rfl rfl FoX) (pot_ex e pG) (dh_mono _ _ _ e hrG) br3 fun G' e' E Q' o => ⟨rv, rfl, wv, rfl, .int 2, rv, wv, rfl, .inl ⟨.int 2, dr, .int 2, gr (e.trans e'), br1, rsSzB_ok br2, o⟩⟩
      | 1, _, hx => exact look_item (C1 := C1) (C2 := C2) (b := true) (lk_mono _ _ _ e (lk1 x hx)) (fun c => good1 rfl rfl ShX) (pot_ex e pG) (dh_mono _ _ _ e hrG) br3 fun G' e' E Q' o => ⟨rv, rfl, wv, rfl, .int 2, rv, wv, .non, rfl, .inl ⟨.int 2, dr, .int 2, gr (e.trans e'), br1, rsSzB_ok br2, o⟩⟩
      | 2, _, hx => exact look_item (C1 := C1) (C2 := C2) (b := true) (lk_mono _ _ _ e (lk2 x hx)) (fun c => good2 rfl rfl HoX) (pot_ex e pG) (dh_mono _ _ _ e hrG) br3 fun G' e' E Q' o => ⟨rv, rfl, .int 2, rv, .int 2, dr, rfl, .int 2, gr (e.trans e'), br1, rsSzB_ok br2, o⟩
      | 3, _, hx => exact look_item (C1 := C1) (C2 := C2) (b := true) (lk_mono _ _ _ e (lk3 x hx)) (fun c => good3 rfl rfl FoX) (pot_ex e pG) (dh_mono _ _ _ e hgG) bm3 fun G' e' E Q' o => ⟨mv, rfl, gv, rfl, wv, rfl, mv, gv, wv, rfl, .inl ⟨dm, goodD b, gm (e.trans e'), gg (e.trans e'), bm1, rsSzB_ok bm2, o⟩⟩
      | 4, _, hx => exact look_item (C1 := C1) (C2 := C2) (b := true) (lk_mono _ _ _ e (lk4 x hx)) (fun c => good4 rfl rfl HoX) (pot_ex e pG) (dh_mono _ _ _ e hgG) bm3 fun G' e' E Q' o => ⟨mv, rfl, gv, rfl, mv, gv, dm, goodD b, rfl, gm (e.trans e'), gg (e.trans e'), bm1, rsSzB_ok bm2, o⟩
      | 5, _, hx => exact look_item (C1 := C1) (C2 := C2) (b := false) (lk_mono _ _ _ e (lk5 x hx)) (fun c => good5 rfl rfl FoX) (pot_ex e pG) (dh_mono _ _ _ e hwG) bw3 fun G' e' E Q' o => ⟨gv, rfl, wv, rfl, .int 2, gv, wv, rfl, bad e' o⟩
      | 6, _, hx => exact look_item (C1 := C1) (C2 := C2) (b := false) (lk_mono _ _ _ e (lk6 x hx)) (fun c => good6 rfl rfl ShX) (pot_ex e pG) (dh_mono _ _ _ e hwG) bw3 fun G' e' E Q' o => ⟨gv, rfl, wv, rfl, by show 2 ≤ sizeLine; decide, fun q1 n1 => ⟨by show 3 ≤ sizeLine; decide, fun q2 n2 => ⟨.int 2, gv, wv, .ref q2, rfl, BadIn.go (bad e' o) ((Ex.new n1).trans (Ex.new n2))⟩⟩⟩
      | i + 7, hi, _ => exact absurd hi (by omega)
    have p14 := pot_ex e14 pG
    have t14 := t.ext e14
    have hg14 := dh_mono _ _ _ e14 hgG
    have at14 : At p p H14 := at_pot p14
    refine q_asgL2 (n := 10) (ds := oddA) at14 (al_cons alt_mono (alt_of (dh_c fun _ => .non) (by simp [oddA, odd10, odd4])) (al_cons alt_mono (alt_of (dh_c fun _ => .int _) (by simp [oddA, odd10, odd4])) (al_cons alt_mono (alt_of (dh_c fun _ => .str _) (by simp [oddA, odd10, odd4])) (al_cons alt_mono (alt_of (ep_tup0D at14) (by simp [oddA, odd10, odd4]))
      (al_cons alt_mono (alt_of (ep_tup1D at14 (dh_c fun _ => .str _)) (by simp [oddA, odd10, odd4])) (al_cons alt_mono (alt_of (ep_lst3D at14 (dh_c fun _ => .str _) (dh_c fun _ => .int _) (T2 1 0 at14)) (by simp [oddA, odd10, odd4])) (al_cons alt_mono (alt_of (ep_dictD at14) (by simp [oddA, odd10, odd4]))
      (al_cons alt_mono (alt_of (ep_tup3D at14 (dh_c fun _ => .str _) (dh_c fun _ => .int _) (ep_tup2D at14 (dh_v (ev_un ev_c ru_neg) fun _ => .int _) (dh_c fun _ => .int _))) (by simp [oddA, odd10, odd4])) (al_cons alt_mono (alt_of (ep_tup3D at14 (dh_c fun _ => .str _) (dh_c fun _ => .int _) (dh_c fun _ => .non)) (by simp [oddA, odd10, odd4]))
      (al_cons alt_mono (alt_of (ep_tup2D at14 (dh_c fun _ => .bl _) (dh_c fun _ => .int _)) (by simp [oddA, odd10, odd4])) al_nil)))))))))) (by decide) fun lo vs H15 lo0 nlo e15 hlo lnv hvs => ?_
    have p15 := pot_ex e15 p14
    have at15 : At p lo H15 := ⟨pot_mt p15, _, hlo, mt_l⟩
    refine q_extM (p := p) (c := c + 1 + 1 + 1 + 1) (d := c + 1 + 1 + 1 + 1) (G := AltL K p lo oddA) (k := 4) hlo nlo (fun _ _ => ev_var rfl) (m_of fun G' x' p' => ep_w (ep_lstL (p := p) (pq := lo) altL_mono (at_go at15 x' p') (al_cons altL_mono (altL_of (ep_tup2D (at_go at15 x' p') (dh_c fun _ => .str _) (T2 0 0 (at_go at15 x' p'))) (by simp [oddA, odd10, odd4]))
      (al_cons altL_mono (altL_of (ep_tup2D (at_go at15 x' p') (dh_c fun _ => .str _) (ep_tup2D (at_go at15 x' p') (T2 0 2 (at_go at15 x' p')) (T2 0 1 (at_go at15 x' p')))) (by simp [oddA, odd10, odd4])) (al_cons altL_mono (altL_of (ep_tup2D (at_go at15 x' p') (dh_c fun _ => .str _) (ep_tup1D (at_go at15 x' p') (T2 0 1 (at_go at15 x' p')))) (by simp [oddA, odd10, odd4]))
      (al_cons altL_mono (altL_of (ep_tup2D (at_go at15 x' p') (dh_c fun _ => .str _) (dh_c fun _ => .non)) (by simp [oddA, odd10, odd4])) al_nil)))) (by decide)) fun v H2 _ q => q) p15 (by omega) fun ws H16 x16 p16 hl16 lnw hws => ?_
    have xa : Xb p H14 (upd H16 lo (.lst (vs ++ ws))) := xb_new lo0 ((xb_ex e15).trans x16)
    have pa : Pot p (c + 1 + 1 + 1 + 1) (upd H16 lo (.lst (vs ++ ws))) := pot_up nlo p16
    have ha : (upd H16 lo (.lst (vs ++ ws))) lo = some (.lst (vs ++ ws)) := upd_same
    have ga : ∀ x ∈ vs ++ ws, AltL K p lo oddA x (upd H16 lo (.lst (vs ++ ws))) := fun x hx => (List.mem_append.mp hx).elim (fun hx => altL_up (altL_xb x16 (hvs x hx))) fun hx => altL_up (hws x hx)
    have la : (vs ++ ws).length = 14 := by simp [lnv, lnw]
    generalize vs ++ ws = xa' at xa pa ha ga la ⊢
    generalize upd H16 lo (.lst xa') = Ha at xa pa ha ga ⊢
    have atA : At p lo Ha := ⟨pot_mt pa, _, ha, mt_l⟩
    refine q_appM (p := p) (c := c + 1 + 1 + 1 + 1) (d := c + 1 + 1 + 1 + 1) (P := AltL K p lo oddA) ha nlo (fun _ _ => ev_var rfl) (m_of fun G' x' p' => altL_of (ep_tup3D (at_go atA x' p') (dh_c fun _ => .str _) (dh_c fun _ => .bl _) (T2 1 0 (at_go atA x' p'))) (by simp [oddA, odd10, odd4])) pa (by omega) fun v17 H17 x17 p17 hl17 hv17 => ?_
    have xb : Xb p H14 (upd H17 lo (.lst (xa' ++ [v17]))) := xb_new lo0 (xa.trans x17)
    have pb : Pot p (c + 1 + 1 + 1 + 1) (upd H17 lo (.lst (xa' ++ [v17]))) := pot_up nlo p17
    have hb : (upd H17 lo (.lst (xa' ++ [v17]))) lo = some (.lst (xa' ++ [v17])) := upd_same
    have gb : ∀ x ∈ xa' ++ [v17], AltL K p lo oddA x (upd H17 lo (.lst (xa' ++ [v17]))) := fun x hx => (List.mem_append.mp hx).elim (fun hx => altL_up (altL_xb x17 (ga x hx))) fun hx => by
      rw [List.mem_singleton.mp hx]
      exact altL_up hv17
    have lb : (xa' ++ [v17]).length = 15 := by simp [la]
    generalize xa' ++ [v17] = xb' at xb pb hb gb lb ⊢
    generalize upd H17 lo (.lst xb') = Hb at xb pb hb gb ⊢
    have tb : TabS Hb T qRef := tab_pot p14 xb t14
    have hgb := dh_xb xb hg14
    refine q_forP (sr_list (Pi := fun _ x H => ∃ d, d ∈ oddA ∧ Dq K H x d) (ev_var rfl) (sq_of hb) lb (fun _ _ _ _ e h => let ⟨d, h1, h2⟩ := h; ⟨d, h1, h2.mono e⟩) (fun i x hx => let ⟨d, h1, h2⟩ := gb x (List.mem_of_getElem? hx); ⟨d, h1, dh_dq h2⟩)) (fun B i σ H' => Ex B H' ∧ ∃ y, σ = [some (.ref p), some (.int (b : Int)), some gv, some rv, some wv, some mv, some (.ref l), none, none, y, some (.ref lo)]) (fun H2 e2 => ⟨Ex.refl _, _, rfl⟩) (fun _ _ _ _ _ p => p.1) ?_ ?_
    · rintro B' i x σ H18 H19 hi eB ⟨e18, y, rfl⟩ e19 ⟨d, hd, hq⟩
      have e := (eB.trans e18).trans e19
      have at19 : At p p H19 := at_pot (pot_ex e pb)
      obtain ⟨no1, no2⟩ := odd_no (b := b) d hd
      refine s_when (b := false) (et_is (et_test (ev_op (ev_repr (ep_w (ep_shows (n := 2) (m := 2) (Z := 700) (R := goodR b) (r := midR b) ev_c (ep_w (ep_varM rfl (dh_mono _ _ _ e hgb) dh_mono) fun v H2 _ hv => dq_good (dh_dq hv)) (ep_w (ep_tup2D at19 (Bv rfl) (T2 1 0 at19)) fun v H2 _ hv => dq_row (r := midR b) (m := 2) (dh_dq hv)) (ep_varM rfl hq dq_mono) (good_sml b9) (mid_sml b9) (by decide) (by decide) (by decide) (by decide) (szd_of no1 (by decide))) fun v H2 _ hv => bo_false no2 hv) (fit_rep (by decide +kernel))) (ev_repr (ep_of ev_c fun _ _ => .bl false) (fit_rep (by decide +kernel))) (rv_ne rfl))) (by simp)) (fun z => by cases z) fun _ H20 e20 => ⟨(e18.trans e19).trans e20, _, rfl⟩
    · rintro B' σ H18 eB ⟨e18, y, rfl⟩
      have e := eB.trans e18
      have p18 := pot_ex e pb
      have at18 : At p p H18 := at_pot p18
      have nil_ : ∀ {σ : L2.St} {G : Hp}, At p p G → EvP (tTup tNil) σ G (DH K p p (.tuple [])) := fun a => ep_tup0D a
      refine q_when (b := false) (et_orF (et_is (et_test (ev_neD (d := .tuple [.str "times", .int 1, .tuple []]) (d' := .tuple [.str "times", .int 1, .tuple []]) (ep_w (ep_folZ (n := 0) (m := 0) (R := fun _ => (0, fun _ => 0)) (r := ((b : Int), fun _ => 0)) ev_c (ep_w (nil_ at18) fun v H2 _ hv => dq_rws0 (dh_dq hv)) (ep_w (ep_tup2D at18 (Bv rfl) (nil_ at18)) fun v H2 _ hv => dq_row (r := ((b : Int), fun _ => 0)) (m := 0) (dh_dq hv)) ⟨fun j hj => absurd hj (Nat.not_lt_zero _), by show (0 : Int) ≤ (b : Int); omega⟩ (by decide) (by decide)) fun v H2 _ hv => folZ_dq hv)
          (ep_w (ep_tup3D at18 (dh_c fun _ => .str _) (dh_c fun _ => .int _) (nil_ at18)) fun v H2 _ hv => dh_dq hv) (by decide +kernel) (by decide +kernel) (by decide +kernel) (by decide +kernel))) (by decide +kernel))
        (et_is (et_test (ev_neD (d := .tuple [.str "spot", .tuple []]) (d' := .tuple [.str "spot", .tuple []]) (ep_w (ep_fol (n := 0) (m := 0) (A := 1) (M := 300) (R := fun _ => (0, fun _ => 0)) (r := (-1 - (b : Int), fun _ => 0)) ev_c (ep_w (nil_ at18) fun v H2 _ hv => dq_rws0 (dh_dq hv)) (ep_w (ep_tup2D at18 (dh_v (ev_op (ev_un ev_c ru_neg) (ev_var rfl) rv_I0) fun _ => .int _) (nil_ at18)) fun v H2 _ hv => dq_row (r := (-1 - (b : Int), fun _ => 0)) (m := 0) (dh_dq hv)) (mb_chain (by decide)) ⟨fun i hi => absurd hi (Nat.not_lt_zero _), fun i hi => absurd hi (Nat.not_lt_zero _)⟩ (by show (-1 - (b : Int)).natAbs ≤ 300; omega) (fun j hj => absurd hj (Nat.not_lt_zero _)) (by decide)) fun v H2 _ hv => fol_spot (by show -1 - (b : Int) < 0; omega) hv)
          (ep_w (ep_tup2D at18 (dh_c fun _ => .str _) (nil_ at18)) fun v H2 _ hv => dh_dq hv) (by decide +kernel) (by decide +kernel) (by decide +kernel) (by decide +kernel))) (by decide +kernel))) (fun z => by cases z) fun _ H19 e19 => ?_
      have p19 := pot_ex e19 p18
      have at19 : At p p H19 := at_pot p19
      refine s_ret (v := .bl true) (ev_is (ev_andV (ev_eqD2 (d := .tuple []) (d' := .tuple []) (ep_w (ep_ho (n := 0) (m := 0) (A := 1) (M := 300) (R := fun _ => (0, fun _ => 0)) ev_c (ep_w (nil_ at19) fun v H2 _ hv => dq_rws0 (dh_dq hv)) (mb_chain (by decide)) ⟨fun i hi => absurd hi (Nat.not_lt_zero _), fun i hi => absurd hi (Nat.not_lt_zero _)⟩ (by decide)) fun v H2 _ hv => ho_nil hv) (ep_w (nil_ at19) fun v H2 _ hv => dh_dq hv) (by decide +kernel) (by decide +kernel) (by decide +kernel) (by decide +kernel)) fun _ =>
          ev_op (ev_bo (ep_shows (n := 1) (m := 0) (Z := 700) (R := fun _ => (-1, fun _ => 0)) (r := ((b : Int) - 99, fun _ => 0)) ev_c (ep_w (ep_tup1D at19 (ep_tup2D at19 (dh_v (ev_un ev_c ru_neg) fun _ => .int _) (nil_ at19))) fun v H2 _ hv => dq_rws1 (r := (-1, fun _ => 0)) (m := 0) (dh_dq hv)) (ep_w (ep_tup2D at19 (dh_v (ev_op (ev_var rfl) ev_c rv_I0) fun _ => .int _) (nil_ at19)) fun v H2 _ hv => dq_row (r := ((b : Int) - 99, fun _ => 0)) (m := 0) (dh_dq hv)) (ep_w (ep_tup2D at19 (dh_c fun _ => .str _) (ep_tup1D at19 (dh_v (ev_op (ev_var rfl) ev_c rv_I0) fun _ => .int _))) fun v H2 _ hv => dh_dq hv)
            (fun i _ => sml_of (A := 1) (M := 300) (by decide) (fun j hj => absurd hj (Nat.not_lt_zero _)) (by decide) (by decide)) (sml_of (A := 1) (M := 300) (by show ((b : Int) - 99).natAbs ≤ 300; omega) (fun j hj => absurd hj (Nat.not_lt_zero _)) (by decide) (by decide)) (by decide) (by decide) (by decide) (by decide) (szd_of (never_aI b b9) (by decide))) never_shown) (ev_c (v := .bl true)) (fun H1 _ Q q => ⟨true, true, rfl, rfl, q H1 (Ex.refl _)⟩)) (by decide +kernel)) fun H20 e20 => ?_
      have all_ : Ex Hb H20 := (e.trans e19).trans e20
      refine k H20 (fun a o n1 n2 h => all_ _ _ (xb _ _ n1 (e14 _ _ (x _ _ n2 (x06 _ _ n1 h))))) (pot_le (by omega) (pot_ex all_ pb)) (tb.ext all_)
end
end EW
set_option Elab.async false
set_option linter.all false
set_option maxRecDepth 100000
set_option maxHeartbeats 4000000
set_option exponentiation.threshold 30000
namespace EW
open PySem PySem.Spec PyProof.Rows L2 Evl LamX
/-! ### law -/
section
variable {K : PySem.W.Frag} {σ : L2.St} {H : Hp} {tl te : TE} {p T : Addr} {c : Nat} {D : Ends} {tz ts : TS} {E : XK}
theorem X2.trans {p T : Addr} {H G F : Hp} (a : X2 p T H G) (b : X2 p T G F) : X2 p T H F := fun x o n1 n2 h => b x o n1 n2 (a x o n1 n2 h)
theorem x2_ex {H G : Hp} (e : Ex H G) : X2 p T H G := fun x o _ _ h => e x o h
theorem t_allX {R : Hp → Prop} (h : ∀ Q : VK, (∀ L G, R G → G L = some (.lst (List.replicate 3 (.bl true))) → Q (.ref L) G) → te σ H Q) (k : ∀ G, R G → D.nx σ G) : tIfS (tNot (tB (tCB (rAll K) (tCons te tNil)))) ts tNext D σ H := h _ fun L G r hl => ⟨L, [true, true, true], rfl, sq_of hl, _, rfl, k G r⟩
/-- three laps -/
theorem t_laps (hσ : σ[2]? = some (some (.ref p))) (h3 : 3 < σ.length) (po : Pot p c H) (hc : c < 2 ^ 40) (t : TabS H T qRef) (k : ∀ G, X2 p T H G → TabS G T qRef → D.nx σ G) :
    tIfS (tNot (tB (tCB (rAll K) (tCons (tLc (iRng1 (tCons (tC (.int 3)) tNil)) (gName 3) tYes (tCall (spRef T) [] E (tCons (tVar 2) tNil)) [3]) tNil)))) ts tNext D σ H := by
  refine t_allX (R := fun G => X2 p T H G ∧ TabS G T qRef) (fun Q kk => ?_) fun G r => k G r.1 r.2
  refine ⟨3, rfl, by decide, by decide, fun L hL => ?_⟩
  have Lp : L ≠ p := fun z => by
    obtain ⟨a, b, k, h1, _⟩ := po
    rw [z, h1] at hL
    cases hL
  have LT : L ≠ T := fun z => by
    obtain ⟨ps, h1⟩ := tabS_is t
    rw [z, h1] at hL
    cases hL
  have s2 : ∀ x : V, ((wipe σ [3]).set 3 (some x))[2]? = some (some (.ref p)) := fun x => by
    simp only [wipe]
    rw [List.getElem?_set_ne (by decide), List.getElem?_set_ne (by decide)]
    exact hσ
  have s3 : ∀ x : V, wipe ((wipe σ [3]).set 3 (some x)) [3] = wipe σ [3] := fun x => by
    simp [wipe, List.set_set]
  refine lc_range (lo := 0) (n := 3) (fun i G => X2 p T H G ∧ Pot p (c + 4 * i) G ∧ TabS G T qRef ∧ G L = some (.lst (List.replicate i (.bl true)))) ⟨x2_ex (Ex.new hL), pot_ex (Ex.new hL) po, t.ext (Ex.new hL), upd_same⟩ ?_ ?_
  · rintro i G hi ⟨x, pg, tg, hl⟩
    refine ⟨s3 _, .ref p, s2 _, p, c + 4 * i, rfl, pg, by omega, tg, fun G2 x2 p2 t2 => ⟨_, x2 _ _ Lp LT hl, sz_lt (by rw [List.length_replicate]; omega), ?_⟩⟩
    have hl2 := x2 _ _ Lp LT hl
    refine ⟨fun a o n1 n2 h => ?_, pot_up Lp (pot_le (by omega) p2), ?_, ?_⟩
    · rw [upd_ne (ne_of_none h hL)]
      exact x2 _ _ n1 n2 (x _ _ n1 n2 h)
    · obtain ⟨ps, h1, h2, h3⟩ := t2
      refine ⟨ps, (upd_ne LT.symm).trans h1, h2, fun pos cv hcv => ?_⟩
      obtain ⟨c', e1, e2⟩ := h3 pos cv hcv
      have ne : c' ≠ L := fun z => by
        rw [z, hl2] at e2
        unfold CodeO at e2
        cases e2
      exact ⟨c', e1, (upd_ne ne).trans e2⟩
    · rw [upd_same]
      congr 2
      rw [List.replicate_succ']
  · rintro G ⟨x, pg, tg, hl⟩
    exact kk L G ⟨x, tg⟩ hl
/-- for i in a list of ints, the table changed within -/
theorem q_forT {g : TG} {tb : TS} (hT : IsTab T H) (h : EvP tl σ H (fun v H => ∃ n, n ≤ 100 ∧ IntsP n (fun i => (i : Int)) v H)) (Pv : Hp → L2.St → Hp → Prop) (h0 : ∀ H1, Ex H H1 → Pv H1 σ H1) (hF : ∀ B σ H', Pv B σ H' → Xb T B H')
    (hb : ∀ B (i : Nat) σ H1, i < 100 → Ex H B → Pv B σ H1 → g (.int (i : Int)) σ H1 fun σ2 H2 => tb { D with nx := Pv B, ct := Pv B, bk := tz D } σ2 H2) (hd : ∀ B σ H1, Ex H B → Pv B σ H1 → tz D σ H1) : tSeq (tFor (iList K tl) g tb) tz D σ H :=
  h H (Ex.refl _) _ fun v H1 e1 ⟨n, hn, a, xs, ev, ha, hl, hx⟩ => ⟨a, ev, ⟨xs, sq_of ha⟩, by
    have aT : a ≠ T := fun z => by
      obtain ⟨ps, y⟩ := hT
      have y := e1 _ _ y
      rw [← z, ha] at y
      cases y
    refine for_it (D := { D with nx := tz D }) (walk_list (K := K) (a := a) (xs := xs)) (fun _ => Pv H1) (h0 H1 e1) (fun i σ H' hi pv => sq_of (hF _ _ _ pv _ _ aT ha)) (fun i x σ H2 H' hi pv y => ?_) (fun σ H' pv => hd H1 σ H' e1 pv)
    obtain ⟨rfl, y⟩ := y
    obtain rfl := hx i x y
    exact hb H1 i σ H' (by omega) e1 pv⟩
end
section
variable {P : Program} {w : World} {K : PySem.W.Frag} {mg : Str → Option Value} {base : Heap}
abbrev sLaw : Stmt := top 55
abbrev nLaw : List Str := ["script", "place", "pot", "lap"]
def spLaw (K : PySem.W.Frag) (T : Addr) : Sp := fun vs H Q _ => ∃ (a : Addr) (ns : List Int), vs = [.ref a] ∧ SqL K H a (ns.map V.int) ∧ ns.length ≤ 63 ∧ TabS H T qRef ∧ ∀ H', Q (.bl true) H'
theorem scLaw : FnScope nLaw ["script"] (defScope sLaw) := ⟨rfl, rfl, rfl, by decide +kernel, rfl, by decide +kernel, by decide +kernel⟩
theorem ok_law {f fC fP fR T : Addr} {fd fdC fdP fdR : FuncData} (F : Fun K "law" "law" sLaw f fd) (B : Bl2 mg) (Ce : Has P w K mg base "_law_cells" 1 ["script", "most"] (spCells K) fC fdC) (Po : Has P w K mg base "_law_pot" 1 ["script", "place"] (spPot K) fP fdP) (Ri : HasG P w K mg base "_law_are_refused" 13 ["pot"] (spRef T) fR fdR) :
    FnG P w K mg base 14 f fd ["script"] (spLaw K T) := by
  refine fun_okG F scLaw (fun vs H Q E h => ?_) (fun cdv A outer s H vs Q E gd hr h => ?_)
  · obtain ⟨a, ns, rfl, _⟩ := h
    rfl
  · obtain ⟨a, ns, rfl, hs, hl, t, k⟩ := h
    refine ⟨_, pss_cons (ps_for PassesOwn.never rfl (pi_list (pe_cl Ce (hr.mono (by decide)) (pa_cons (pv 0) (pa_cons pe_int pa_nil)))) (pg_name (i := 1) scLaw.nd rfl (.inl rfl))
        (pss_cons (ps_set (i := 2) scLaw.nd rfl (.inr rfl) (pe_cl Po (hr.mono (by decide)) (pa_cons (pv 0) (pa_cons (pv 1) pa_nil))))
        (pss_one (ps_if (pt_not (pt_val (pe_callB (cr_all rfl) (by rfl) B.all (by decide +kernel) (pa_cons (pe_lc (own := [("lap", 3)]) (g := gName 3) (tt := tYes) rfl scLaw.nd (pi_range1 rfl B.range (pa_cons pe_int pa_nil)) (blkOk_by (N := nLaw) (sc := defScope sLaw) (by decide +kernel))
          (fun _ _ _ _ _ => pg_name (i := 3) scLaw.nd rfl (.inl rfl)) (fun _ _ _ _ _ => pts_nil) (fun _ _ _ _ _ => pe_clG Ri gd hr (pa_cons (pv 2) pa_nil))) pa_nil)))) (pss_one (ps_ret pe_bl)) pss_nil))))
      (pss_one (ps_ret pe_bl)), ?_⟩
    refine q_forT (T := T) (tabS_is t) (ep_callV (ea_cons (ev_var rfl) (ea_cons ev_c ea_nil)) fun H1 e1 Q q => ⟨a, ns, 2, rfl, ex_l e1 hs, by decide, fun l H2 _ e2 ⟨n, hn, h⟩ => q _ H2 e2 ⟨n, hn, h⟩⟩) (fun B σ H' => Xb T B H' ∧ TabS H' T qRef ∧ ∃ y z w, σ = [some (.ref a), y, z, w]) (fun H1 e1 => ⟨Xb.refl _ _, t.ext e1, _, _, _, rfl⟩) (fun _ _ _ p => p.1) ?_ fun B' σ H1 eB ⟨e1, _, y, z, w', hσ⟩ => s_ret ev_c fun H2 _ => k H2
    rintro B' i σ H1 hi eB ⟨x1, t1, y, z, w', rfl⟩
    have tB := t.ext eB
    have hs1 : SqL K H1 a (ns.map V.int) := sqL_tab (tabS_is tB) x1 (ex_l eB hs)
    refine qn_asg (P := fun v H => ∃ p, v = .ref p ∧ Pot p 0 H) (en_callV (ea_cons (ev_var rfl) (ea_cons (ev_var rfl) ea_nil)) fun H3 e3 Q q => ⟨a, ns, i, rfl, ex_l e3 hs1, by omega, fun p H4 hp e4 po => q p H4 hp e4 ⟨p, rfl, po⟩⟩) fun p H3 hp e3 ⟨p', ep, po⟩ => ?_
    cases ep
    have bp : ∀ a o, a ≠ T → B' a = some o → a ≠ p := fun a o na hb z => by
      have y := x1 a o na hb
      rw [z, hp] at y
      cases y
    exact t_laps rfl (by show 3 < 4; decide) po (by decide) (t1.ext e3) fun G x2 tG => ⟨fun b o nb hb => x2 b o (bp b o nb hb) nb (e3 _ _ (x1 _ _ nb hb)), tG, _, _, _, rfl⟩
end
/-! ### its call, a table of code objects behind it -/
section
variable {K : PySem.W.Frag} {a T : Addr} {vs : List Value} {ns : List Int} {h : Heap}
def scrT (K : PySem.W.Frag) (a T : Addr) (vs : List Value) (ns : List Int) : Hp := fun b => if b = T then some (.tbl #[]) else scrH K a vs ns b
theorem scrT_cases (b : Addr) : scrT K a T vs ns b = none ∨ (b = T ∧ scrT K a T vs ns b = some (.tbl #[])) ∨ (b = a ∧ K.lookup a = none ∧ scrT K a T vs ns b = some (.frz (scrO vs) (.lst (ns.map V.int)))) := by
  by_cases z : b = T
  · exact .inr (.inl ⟨z, if_pos z⟩)
  · have e : scrT K a T vs ns b = scrH K a vs ns b := if_neg z
    rw [e]
    rcases scr_cases (K := K) (a := a) (vs := vs) (ns := ns) b with y | y
    · exact .inl y
    · exact .inr (.inr y)
theorem tab_ne (ha : h.get? a = some (scrO vs)) (hT : h.get? T = some (PySem.W.tabObj #[])) : a ≠ T := fun z => by
  rw [z, hT] at ha
  cases ha
theorem scrT_base {b : Addr} {o : Obj} (e : h.get? b = some o) (n : b = a → K.lookup a ≠ none) (nT : b ≠ T) : (hidT h (scrT K a T vs ns)).get? b = some o := hidT_get e (by
  rcases scrT_cases (K := K) (a := a) (T := T) (vs := vs) (ns := ns) b with z | ⟨c, _⟩ | ⟨c, d, _⟩
  · exact z
  · exact absurd c nT
  · exact absurd d (n c))
theorem scrT_ns (ha : h.get? a = some (scrO vs)) (hT : h.get? T = some (PySem.W.tabObj #[])) {b : Addr} {m : Str → Option Value} (q : h.Ns b m) : (hidT h (scrT K a T vs ns)).Ns b m := by
  obtain ⟨o, es, ep, e, d, r⟩ := q
  refine ⟨o, es, ep, scrT_base e (fun c => ?_) (fun c => ?_), d, r⟩
  · subst c
    rw [ha] at e
    cases e
    cases d
  · subst c
    rw [hT] at e
    cases e
    cases d
theorem scrT_ok {P : Program} {w : World} (ha : h.get? a = some (scrO vs)) (hT : h.get? T = some (PySem.W.tabObj #[])) (hi : IntsAre vs ns) (hl : ns.length ≤ sizeLine) : HOk P w (scrT K a T vs ns) h := fun b u q => by
  rcases scrT_cases (K := K) (a := a) (T := T) (vs := vs) (ns := ns) b with z | ⟨rfl, z⟩ | ⟨rfl, _, z⟩
  · rw [z] at q
    cases q
  · rw [z] at q
    cases q
    exact hT
  · rw [z] at q
    cases q
    exact ⟨ha, by rw [List.length_map]; exact hl, vs, _, vals_ints hi, ha⟩
end
theorem law_callGT {P : Program} {w : World} {K : PySem.W.Frag} {mg mb : Str → Option Value} {k : Nat} {fa a cR T : Addr} {fd : FuncData} {x : Str} {sp : Sp} {z : Shared} {vs : List Value} {ns : List Int}
    (kx : K.In z.heap) (hm : z.heap.Ns mainGlobals mg) (hb : z.heap.Ns builtinsNs mb) (hbb : ∀ x : Str, x ≠ "__name__" → mb x = bootBuiltins x) (hlim : z.heap.NoLimit) (hg : z.gens = #[]) (hT : z.heap.get? T = some (PySem.W.tabObj #[])) (nT : K.lookup T = none) (hd : PySem.W.CodeHd z.heap cR T)
    (hbm : ∃ (bm : Addr) (ob : Obj), mg "__builtins__" = some (.ref bm) ∧ bm ≠ builtinsNs ∧ z.heap.get? bm = some ob ∧ ob.cls = .type "module" ∧ ob.dict = some builtinsNs ∧ ob.data = .plain)
    (ha : z.heap.get? a = some (scrO vs)) (hi : IntsAre vs ns) (hl : ns.length ≤ sizeLine) (hr : Room k callerA)
    (F : ∀ base : Heap, K.In base → base.Ns mainGlobals mg → TabB base mg cR T → FnG P w K mg base k fa fd [x] sp) (hbd : ∀ (s : Shared) (u : Value), BindsTo s fd ⟨[u], []⟩ [(x, u)]) (hsp : ∀ H : Hp, H T = some (.tbl #[]) → SqL K H a (ns.map V.int) → sp [.ref a] H (fun v _ => v = .bl true) fun _ _ _ => False) :
    codeAny (model P w) callerA (.call (.ref fa) ⟨[.ref a], []⟩) (fun r s' => r = .ok (.ret (.bool true)) ∧ OldK z.heap s'.heap ∧ s'.os = z.os ∧ AllBare s'.gens) z := by
  have aT := tab_ne ha hT
  have tH : scrT K a T vs ns T = some (.tbl #[]) := if_pos rfl
  have kb : K.In (hidT z.heap (scrT K a T vs ns)) := fun b o e => scrT_base (kx b o e) (fun c d => by
    subst c
    rw [d] at e
    cases e) fun c => by
    subst c
    rw [nT] at e
    cases e
  have lim : (hidT z.heap (scrT K a T vs ns)).NoLimit := hlim.imp fun mc q => ⟨scrT_ns ha hT q.1, q.2⟩
  have md : Mod K mg (hidT z.heap (scrT K a T vs ns)) := ⟨kb, scrT_ns ha hT hm, ⟨mb, scrT_ns ha hT hb, hbb⟩, lim⟩
  -- an object that is neither a list nor a table stands in the base
  have apart : ∀ {b : Addr} {o : Obj}, z.heap.get? b = some o → (∀ us n, o.data ≠ .seq us n) → o.data ≠ .fields #[] → (hidT z.heap (scrT K a T vs ns)).get? b = some o := fun {b o} e h1 h2 => scrT_base e (fun c _ => by
    subst c
    rw [ha] at e
    cases e
    exact h1 _ _ rfl) fun c => by
    subst c
    rw [hT] at e
    cases e
    exact h2 rfl
  have TB : TabB (hidT z.heap (scrT K a T vs ns)) mg cR T := by
    refine ⟨?_, ?_, fun y => ?_⟩
    · obtain ⟨o, us, file, tf, flags, tg, inF, text, tt, e1, r1, r2, r3, rest⟩ := hd
      refine ⟨o, us, file, tf, flags, tg, inF, text, tt, apart e1 (fun _ _ y => ?_) (fun y => ?_), r1, r2, r3, rest⟩
      · rw [r2] at y
        cases y
      · rw [r2] at y
        cases y
        simp at r3
    · obtain ⟨bm, ob, b1, b2, b3, b4, b5, b6⟩ := hbm
      refine ⟨bm, ob, b1, b2, fun y => ?_, fun y => ?_, apart b3 (fun _ _ y => ?_) (fun y => ?_), b4, b5, b6⟩
      · obtain ⟨o, es, ep, e, d, _⟩ := hm
        rw [← y, b3] at e
        cases e
        rw [b6] at d
        cases d
      · rw [y, hT] at b3
        cases b3
        cases b6
      · rw [b6] at y
        cases y
      · rw [b6] at y
        cases y
    · obtain ⟨o, es, ep, e, d, _⟩ := hm
      rw [y, hT] at e
      cases e
      cases d
  have sq : SqL K (scrT K a T vs ns) a (ns.map V.int) := by
    rcases scr_sq (K := K) ha kx hi hl with s | s
    · refine .inl ?_
      have e : scrT K a T vs ns a = scrH K a vs ns a := if_neg aT
      rcases s with s | ⟨ob, s⟩
      · exact .inl (e.trans s)
      · exact .inr ⟨ob, e.trans s⟩
    · obtain ⟨o, us, n, e1, r⟩ := s
      exact .inr ⟨o, us, n, e1, r⟩
  have e0 : Env0 P w K mg (hidT z.heap (scrT K a T vs ns)) callerA [] z (scrT K a T vs ns) := by
    refine ⟨rfl, md, fun b o e => of_hidT e, Nat.le_of_eq (hidT_size _ _), trivial, fun b q => ?_, scrT_ok ha hT hi hl, .of_eq hg⟩
    cases (show b ∈ ([] : List Addr) from q)
  refine codeAny_mono ((F _ kb (scrT_ns ha hT hm) TB).go callerA rfl hr [] z _ e0 ⟨[.ref a], []⟩ [.ref a] [.ref a] (.cons rfl .nil) (hbd z _) _ _ (hsp _ tH sq)) fun r s' q => ?_
  match r, q with
  | .ok (.ret u), ⟨v, H', os, bare, un, hok', rv, q⟩ =>
    have q' : v = .bl true := q
    subst q'
    obtain rfl : u = Value.bool true := rv
    have stays : ∀ b o, b ≠ T → z.heap.get? b = some o → s'.heap.get? b = some o := fun b o nb e => by
      rcases scrT_cases (K := K) (a := a) (T := T) (vs := vs) (ns := ns) b with c | ⟨c, _⟩ | ⟨_, _, c⟩
      · refine un.keep b o e c (fun y => ?_) (by simp)
        cases (show b ∈ ([] : List Addr) from y)
      · exact absurd c nb
      · obtain ⟨e1, _⟩ := scrT_ok (P := P) (w := w) ha hT hi hl b _ c
        obtain ⟨e2, _⟩ := hok' b _ (un.frzs b _ _ c)
        rw [e] at e1
        cases e1
        exact e2
    obtain ⟨more, hmore⟩ := un.tbls T #[] tH
    have grown : s'.heap.get? T = some { cls := .none, data := .fields (#[] ++ more) } := hok' T _ hmore
    refine ⟨rfl, ⟨fun b o e => ?_, fun b o e => ?_⟩, os, bare⟩
    · by_cases y : b = T
      · subst y
        rw [hT] at e
        cases e
        exact .inr (.inl ⟨(hd.tab hT).isCodeTable, rfl, #[], more, rfl, grown⟩)
      · exact .inl (stays b o y e)
    · by_cases y : b = T
      · subst y
        exact ⟨_, grown⟩
      · exact ⟨o, stays b o y e⟩
/-- the goal that is left of the head: a law's promise that wants no guards, but a table -/
theorem walkGT {l : PySem.W.OpenLaw} {n k : Nat} {q : Program} {loose : List Str} {XP : (Str → Option Value) → Heap → Prop} {YP : World → Heap → Prop} {d : DefRec} {K : Params → PySem.W.Frag} {x : Str} {T : Addr} (hn : l.most = some n) (hn2 : n ≤ sizeLine) (hdf : d.params.defaults = []) (hr : Room k callerA)
    (hY : ∀ (w : World) (h : Heap), YP w h → (K w.params).In h) (hT : ∀ (w : World) (h : Heap), YP w h → h.get? T = some (PySem.W.tabObj #[])) (F : ∀ (w : World) (mg : Str → Option Value) (fa : Addr) (h : Heap), (K w.params).In h → h.Ns mainGlobals mg → mg d.name = some (.ref fa) →
      ∃ (fd : FuncData) (cR : Addr), (K w.params).lookup T = none ∧ PySem.W.codeHdIn (K w.params) cR T = true ∧ (∀ (s : Shared) (u : Value), BindsTo s fd ⟨[u], []⟩ [(x, u)]) ∧ ∀ base : Heap, (K w.params).In base → base.Ns mainGlobals mg → TabB base mg cR T → FnG l.prog w (K w.params) mg base k fa fd [x] (spLaw (K w.params) T)) (hn63 : n ≤ 63) : PySem.W.WalkO q loose XP YP l.row.toRowW d [] (fun f vs => PySem.call f vs) := by
  refine Att.attach_call hn hdf fun w z0 z mg mb fa o pm cd doc a vs ns Gr Y ho hd hcd hmg hobj hints hlen hg => ?_
  obtain ⟨fd, cR, nT, hh, hb, hF⟩ := F w mg fa _ (hY w _ Y) Gr.T.g hmg
  exact law_callGT (hY w _ Y) Gr.T.g Gr.T.b Gr.T.builtins Gr.T.nolimit hg (hT w _ Y) nT (PySem.W.codeHd_of_K (hY w _ Y) hh) Gr.T.bmain hobj hints (Nat.le_trans hlen hn2) hr hF hb fun H hH hS => ⟨a, ns, rfl, hS, Nat.le_trans hlen hn63, TabS.nil hH, fun _ => rfl⟩
end EW
set_option Elab.async false
set_option linter.all false
set_option maxRecDepth 100000
set_option maxHeartbeats 4000000
set_option exponentiation.threshold 30000
namespace EW
open PySem PySem.Spec PyProof.Rows L2 Evl LamX
/-- where a def stands -/
structure DefAt (K : PySem.W.Frag) (x : Str) (s : Stmt) (f : Addr) (od an : Option Addr) (oc kV dc pm cd ct : Value) (sl : Array (Option Value)) : Prop where
  a : PySem.W.nsIn K mainGlobals x = some (some (.ref f))
  l : K.lookup f = some ⟨oc, od, .func (PySem.W.fnOf x x (defArgs s) (defBody s) (defScope s) .none kV dc pm an cd ct), sl⟩
  c : PySem.W.codeIn K cd x = true
  k : PySem.W.keepIn K (.ref f) = true
/-- where a method stands -/
structure MethAt (K : PySem.W.Frag) (C : Addr) (x y : Str) (s : Stmt) (f : Addr) (od an : Option Addr) (oc kV dc pm cd ct : Value) (sl : Array (Option Value)) : Prop where
  a : PySem.W.findIn K (.ref C) x = some (some (.ref f))
  i : PySem.W.isFn K (.ref f) = true
  l : K.lookup f = some ⟨oc, od, .func (PySem.W.fnOf x y (defArgs s) (defBody s) (defScope s) .none kV dc pm an cd ct), sl⟩
  c : PySem.W.codeIn K cd y = true
  k : PySem.W.keepIn K (.ref f) = true
theorem frC_of {K : PySem.W.Frag} {mg : Str → Option Value} {x : Str} {a : Addr} {i j : Int} {t u : Tok} {d : Option Addr} {n : Nat} {sl : Array (Option Value)} {q : Rat} (gl : mg x = some (.ref a)) (l : K.lookup a = some ⟨.type "tuple", d, .seq #[.int i t, .int j u] n, sl⟩) (hi : q.num = i) (hj : (q.den : Int) = j) : FrC K mg x q a where
  gl := gl
  fr := fun H => ⟨a, rfl, .inr ⟨_, _, _, l, rfl, rfl, (by decide : 2 ≤ sizeLine), .cons ⟨t, by rw [hi]⟩ (.cons ⟨u, by rw [hj]⟩ .nil)⟩⟩

theorem all_mk {l : PySem.W.OpenLaw} {w : World} {K : PySem.W.Frag} {h : Heap} {mg : Str → Option Value} {fa C : Addr} (X : K.In h) (G : h.Ns mainGlobals mg) (hfa : mg "law" = some (.ref fa))
    {f5 : Addr} {od5 an5 : Option Addr} {oc5 kV5 dc5 pm5 cd5 ct5 : Value} {sl5 : Array (Option Value)}
    {f6 : Addr} {od6 an6 : Option Addr} {oc6 kV6 dc6 pm6 cd6 ct6 : Value} {sl6 : Array (Option Value)}
    {f7 : Addr} {od7 an7 : Option Addr} {oc7 kV7 dc7 pm7 cd7 ct7 : Value} {sl7 : Array (Option Value)}
    {f8 : Addr} {od8 an8 : Option Addr} {oc8 kV8 dc8 pm8 cd8 ct8 : Value} {sl8 : Array (Option Value)}
    {f9 : Addr} {od9 an9 : Option Addr} {oc9 kV9 dc9 pm9 cd9 ct9 : Value} {sl9 : Array (Option Value)}
    {f10 : Addr} {od10 an10 : Option Addr} {oc10 kV10 dc10 pm10 cd10 ct10 : Value} {sl10 : Array (Option Value)}
    {f11 : Addr} {od11 an11 : Option Addr} {oc11 kV11 dc11 pm11 cd11 ct11 : Value} {sl11 : Array (Option Value)}
    {f12 : Addr} {od12 an12 : Option Addr} {oc12 kV12 dc12 pm12 cd12 ct12 : Value} {sl12 : Array (Option Value)}
    {f13 : Addr} {od13 an13 : Option Addr} {oc13 kV13 dc13 pm13 cd13 ct13 : Value} {sl13 : Array (Option Value)}
    {f14 : Addr} {od14 an14 : Option Addr} {oc14 kV14 dc14 pm14 cd14 ct14 : Value} {sl14 : Array (Option Value)}
    {f19 : Addr} {od19 an19 : Option Addr} {oc19 kV19 dc19 pm19 cd19 ct19 : Value} {sl19 : Array (Option Value)}
    {f20 : Addr} {od20 an20 : Option Addr} {oc20 kV20 dc20 pm20 cd20 ct20 : Value} {sl20 : Array (Option Value)}
    {f22 : Addr} {od22 an22 : Option Addr} {oc22 kV22 dc22 pm22 cd22 ct22 : Value} {sl22 : Array (Option Value)}
    {f29 : Addr} {od29 an29 : Option Addr} {oc29 kV29 dc29 pm29 cd29 ct29 : Value} {sl29 : Array (Option Value)}
    {f30 : Addr} {od30 an30 : Option Addr} {oc30 kV30 dc30 pm30 cd30 ct30 : Value} {sl30 : Array (Option Value)}
    {f31 : Addr} {od31 an31 : Option Addr} {oc31 kV31 dc31 pm31 cd31 ct31 : Value} {sl31 : Array (Option Value)}
    {f32 : Addr} {od32 an32 : Option Addr} {oc32 kV32 dc32 pm32 cd32 ct32 : Value} {sl32 : Array (Option Value)}
    {f33 : Addr} {od33 an33 : Option Addr} {oc33 kV33 dc33 pm33 cd33 ct33 : Value} {sl33 : Array (Option Value)}
    {f34 : Addr} {od34 an34 : Option Addr} {oc34 kV34 dc34 pm34 cd34 ct34 : Value} {sl34 : Array (Option Value)}
    {f35 : Addr} {od35 an35 : Option Addr} {oc35 kV35 dc35 pm35 cd35 ct35 : Value} {sl35 : Array (Option Value)}
    {f36 : Addr} {od36 an36 : Option Addr} {oc36 kV36 dc36 pm36 cd36 ct36 : Value} {sl36 : Array (Option Value)}
    {f37 : Addr} {od37 an37 : Option Addr} {oc37 kV37 dc37 pm37 cd37 ct37 : Value} {sl37 : Array (Option Value)}
    {f38 : Addr} {od38 an38 : Option Addr} {oc38 kV38 dc38 pm38 cd38 ct38 : Value} {sl38 : Array (Option Value)}
    {f39 : Addr} {od39 an39 : Option Addr} {oc39 kV39 dc39 pm39 cd39 ct39 : Value} {sl39 : Array (Option Value)}
    {f40 : Addr} {od40 an40 : Option Addr} {oc40 kV40 dc40 pm40 cd40 ct40 : Value} {sl40 : Array (Option Value)}
    {f41 : Addr} {od41 an41 : Option Addr} {oc41 kV41 dc41 pm41 cd41 ct41 : Value} {sl41 : Array (Option Value)}
    {f42 : Addr} {od42 an42 : Option Addr} {oc42 kV42 dc42 pm42 cd42 ct42 : Value} {sl42 : Array (Option Value)}
    {f43 : Addr} {od43 an43 : Option Addr} {oc43 kV43 dc43 pm43 cd43 ct43 : Value} {sl43 : Array (Option Value)}
    {f44 : Addr} {od44 an44 : Option Addr} {oc44 kV44 dc44 pm44 cd44 ct44 : Value} {sl44 : Array (Option Value)}
    {f45 : Addr} {od45 an45 : Option Addr} {oc45 kV45 dc45 pm45 cd45 ct45 : Value} {sl45 : Array (Option Value)}
    {f46 : Addr} {od46 an46 : Option Addr} {oc46 kV46 dc46 pm46 cd46 ct46 : Value} {sl46 : Array (Option Value)}
    {f47 : Addr} {od47 an47 : Option Addr} {oc47 kV47 dc47 pm47 cd47 ct47 : Value} {sl47 : Array (Option Value)}
    {f49 : Addr} {od49 an49 : Option Addr} {oc49 kV49 dc49 pm49 cd49 ct49 : Value} {sl49 : Array (Option Value)}
    {f50 : Addr} {od50 an50 : Option Addr} {oc50 kV50 dc50 pm50 cd50 ct50 : Value} {sl50 : Array (Option Value)}
    {f51 : Addr} {od51 an51 : Option Addr} {oc51 kV51 dc51 pm51 cd51 ct51 : Value} {sl51 : Array (Option Value)}
    {f52 : Addr} {od52 an52 : Option Addr} {oc52 kV52 dc52 pm52 cd52 ct52 : Value} {sl52 : Array (Option Value)}
    {f53 : Addr} {od53 an53 : Option Addr} {oc53 kV53 dc53 pm53 cd53 ct53 : Value} {sl53 : Array (Option Value)}
    {f54 : Addr} {od54 an54 : Option Addr} {oc54 kV54 dc54 pm54 ct54 : Value} {sl54 : Array (Option Value)}
    {f55 : Addr} {od55 an55 : Option Addr} {oc55 kV55 dc55 pm55 cd55 ct55 : Value} {sl55 : Array (Option Value)}
    {f100 : Addr} {od100 an100 : Option Addr} {oc100 kV100 dc100 pm100 cd100 ct100 : Value} {sl100 : Array (Option Value)}
    {f101 : Addr} {od101 an101 : Option Addr} {oc101 kV101 dc101 pm101 cd101 ct101 : Value} {sl101 : Array (Option Value)}
    {f102 : Addr} {od102 an102 : Option Addr} {oc102 kV102 dc102 pm102 cd102 ct102 : Value} {sl102 : Array (Option Value)}
    {f103 : Addr} {od103 an103 : Option Addr} {oc103 kV103 dc103 pm103 cd103 ct103 : Value} {sl103 : Array (Option Value)}
    {f104 : Addr} {od104 an104 : Option Addr} {oc104 kV104 dc104 pm104 cd104 ct104 : Value} {sl104 : Array (Option Value)}
    {f105 : Addr} {od105 an105 : Option Addr} {oc105 kV105 dc105 pm105 cd105 ct105 : Value} {sl105 : Array (Option Value)}
    {f106 : Addr} {od106 an106 : Option Addr} {oc106 kV106 dc106 pm106 cd106 ct106 : Value} {sl106 : Array (Option Value)}
    {f107 : Addr} {od107 an107 : Option Addr} {oc107 kV107 dc107 pm107 cd107 ct107 : Value} {sl107 : Array (Option Value)}
    {f108 : Addr} {od108 an108 : Option Addr} {oc108 kV108 dc108 pm108 cd108 ct108 : Value} {sl108 : Array (Option Value)}
    {f109 : Addr} {od109 an109 : Option Addr} {oc109 kV109 dc109 pm109 cd109 ct109 : Value} {sl109 : Array (Option Value)}
    {cR TT CD C1 C2 fI cda ccI N1 N2 : Addr} {ocI dcI pmI ctI oc1 oc2 : Value} {odI anI od1 od2 : Option Addr} {slI sl1 sl2 : Array (Option Value)} {vsI : Array Value} {fileI : Str} {tfI : Tok} {cdD : ClassData}
    {nm1 q1 nm2 q2 : Str} {bs1 bm1 sub1 bs2 bm2 sub2 : List Value} {sn1 sn2 : List Str} {ab1 ab2 : Bool} {col1 col2 : Option Bool} {dd1 dd2 : Option Addr} {ka1 kb1 kc1 kd1 ke1 ka2 kb2 kc2 kd2 ke2 : Option Value}
    (hfile : ((l.prog.main.file : Str) == fileI) = true) (topS : (l.prog.main.scope.names.lookup ("super" : Str)).isSome = false)
    {cN cO : Addr} {dN dO : Option Addr} {tN uN tO uO w1 w2 w3 w4 w5 : Tok} {nN nO : Nat} {sN sO : Array (Option Value)}
    (a5 : PySem.W.nsIn K mainGlobals "is_integer" = some (some (.ref f5)))
    (l5 : K.lookup f5 = some ⟨oc5, od5, .func (PySem.W.fnOf "is_integer" "is_integer" (defArgs (top 5)) (defBody (top 5)) (defScope (top 5)) .none kV5 dc5 pm5 an5 cd5 ct5), sl5⟩)
    (c5 : PySem.W.codeIn K cd5 "is_integer" = true)
    (k5 : PySem.W.keepIn K (.ref f5) = true)
    (a6 : PySem.W.nsIn K mainGlobals "is_between" = some (some (.ref f6)))
    (l6 : K.lookup f6 = some ⟨oc6, od6, .func (PySem.W.fnOf "is_between" "is_between" (defArgs (top 6)) (defBody (top 6)) (defScope (top 6)) .none kV6 dc6 pm6 an6 cd6 ct6), sl6⟩)
    (c6 : PySem.W.codeIn K cd6 "is_between" = true)
    (k6 : PySem.W.keepIn K (.ref f6) = true)
    (a7 : PySem.W.nsIn K mainGlobals "common" = some (some (.ref f7)))
    (l7 : K.lookup f7 = some ⟨oc7, od7, .func (PySem.W.fnOf "common" "common" (defArgs (top 7)) (defBody (top 7)) (defScope (top 7)) .none kV7 dc7 pm7 an7 cd7 ct7), sl7⟩)
    (c7 : PySem.W.codeIn K cd7 "common" = true)
    (k7 : PySem.W.keepIn K (.ref f7) = true)
    (a8 : PySem.W.nsIn K mainGlobals "reduced" = some (some (.ref f8)))
    (l8 : K.lookup f8 = some ⟨oc8, od8, .func (PySem.W.fnOf "reduced" "reduced" (defArgs (top 8)) (defBody (top 8)) (defScope (top 8)) .none kV8 dc8 pm8 an8 cd8 ct8), sl8⟩)
    (c8 : PySem.W.codeIn K cd8 "reduced" = true)
    (k8 : PySem.W.keepIn K (.ref f8) = true)
    (a9 : PySem.W.nsIn K mainGlobals "added" = some (some (.ref f9)))
    (l9 : K.lookup f9 = some ⟨oc9, od9, .func (PySem.W.fnOf "added" "added" (defArgs (top 9)) (defBody (top 9)) (defScope (top 9)) .none kV9 dc9 pm9 an9 cd9 ct9), sl9⟩)
    (c9 : PySem.W.codeIn K cd9 "added" = true)
    (k9 : PySem.W.keepIn K (.ref f9) = true)
    (a10 : PySem.W.nsIn K mainGlobals "difference" = some (some (.ref f10)))
    (l10 : K.lookup f10 = some ⟨oc10, od10, .func (PySem.W.fnOf "difference" "difference" (defArgs (top 10)) (defBody (top 10)) (defScope (top 10)) .none kV10 dc10 pm10 an10 cd10 ct10), sl10⟩)
    (c10 : PySem.W.codeIn K cd10 "difference" = true)
    (k10 : PySem.W.keepIn K (.ref f10) = true)
    (a11 : PySem.W.nsIn K mainGlobals "product" = some (some (.ref f11)))
    (l11 : K.lookup f11 = some ⟨oc11, od11, .func (PySem.W.fnOf "product" "product" (defArgs (top 11)) (defBody (top 11)) (defScope (top 11)) .none kV11 dc11 pm11 an11 cd11 ct11), sl11⟩)
    (c11 : PySem.W.codeIn K cd11 "product" = true)
    (k11 : PySem.W.keepIn K (.ref f11) = true)
    (a12 : PySem.W.nsIn K mainGlobals "quotient" = some (some (.ref f12)))
    (l12 : K.lookup f12 = some ⟨oc12, od12, .func (PySem.W.fnOf "quotient" "quotient" (defArgs (top 12)) (defBody (top 12)) (defScope (top 12)) .none kV12 dc12 pm12 an12 cd12 ct12), sl12⟩)
    (c12 : PySem.W.codeIn K cd12 "quotient" = true)
    (k12 : PySem.W.keepIn K (.ref f12) = true)
    (a13 : PySem.W.nsIn K mainGlobals "less" = some (some (.ref f13)))
    (l13 : K.lookup f13 = some ⟨oc13, od13, .func (PySem.W.fnOf "less" "less" (defArgs (top 13)) (defBody (top 13)) (defScope (top 13)) .none kV13 dc13 pm13 an13 cd13 ct13), sl13⟩)
    (c13 : PySem.W.codeIn K cd13 "less" = true)
    (k13 : PySem.W.keepIn K (.ref f13) = true)
    (a14 : PySem.W.nsIn K mainGlobals "is_fraction" = some (some (.ref f14)))
    (l14 : K.lookup f14 = some ⟨oc14, od14, .func (PySem.W.fnOf "is_fraction" "is_fraction" (defArgs (top 14)) (defBody (top 14)) (defScope (top 14)) .none kV14 dc14 pm14 an14 cd14 ct14), sl14⟩)
    (c14 : PySem.W.codeIn K cd14 "is_fraction" = true)
    (k14 : PySem.W.keepIn K (.ref f14) = true)
    (a19 : PySem.W.nsIn K mainGlobals "less_by" = some (some (.ref f19)))
    (l19 : K.lookup f19 = some ⟨oc19, od19, .func (PySem.W.fnOf "less_by" "less_by" (defArgs (top 19)) (defBody (top 19)) (defScope (top 19)) .none kV19 dc19 pm19 an19 cd19 ct19), sl19⟩)
    (c19 : PySem.W.codeIn K cd19 "less_by" = true)
    (k19 : PySem.W.keepIn K (.ref f19) = true)
    (a20 : PySem.W.nsIn K mainGlobals "parts_for" = some (some (.ref f20)))
    (l20 : K.lookup f20 = some ⟨oc20, od20, .func (PySem.W.fnOf "parts_for" "parts_for" (defArgs (top 20)) (defBody (top 20)) (defScope (top 20)) .none kV20 dc20 pm20 an20 cd20 ct20), sl20⟩)
    (c20 : PySem.W.codeIn K cd20 "parts_for" = true)
    (k20 : PySem.W.keepIn K (.ref f20) = true)
    (a22 : PySem.W.nsIn K mainGlobals "is_row" = some (some (.ref f22)))
    (l22 : K.lookup f22 = some ⟨oc22, od22, .func (PySem.W.fnOf "is_row" "is_row" (defArgs (top 22)) (defBody (top 22)) (defScope (top 22)) .none kV22 dc22 pm22 an22 cd22 ct22), sl22⟩)
    (c22 : PySem.W.codeIn K cd22 "is_row" = true)
    (k22 : PySem.W.keepIn K (.ref f22) = true)
    (a29 : PySem.W.nsIn K mainGlobals "check_rows" = some (some (.ref f29)))
    (l29 : K.lookup f29 = some ⟨oc29, od29, .func (PySem.W.fnOf "check_rows" "check_rows" (defArgs (top 29)) (defBody (top 29)) (defScope (top 29)) .none kV29 dc29 pm29 an29 cd29 ct29), sl29⟩)
    (c29 : PySem.W.codeIn K cd29 "check_rows" = true)
    (k29 : PySem.W.keepIn K (.ref f29) = true)
    (a30 : PySem.W.nsIn K mainGlobals "check_following" = some (some (.ref f30)))
    (l30 : K.lookup f30 = some ⟨oc30, od30, .func (PySem.W.fnOf "check_following" "check_following" (defArgs (top 30)) (defBody (top 30)) (defScope (top 30)) .none kV30 dc30 pm30 an30 cd30 ct30), sl30⟩)
    (c30 : PySem.W.codeIn K cd30 "check_following" = true)
    (k30 : PySem.W.keepIn K (.ref f30) = true)
    (a31 : PySem.W.nsIn K mainGlobals "whole" = some (some (.ref f31)))
    (l31 : K.lookup f31 = some ⟨oc31, od31, .func (PySem.W.fnOf "whole" "whole" (defArgs (top 31)) (defBody (top 31)) (defScope (top 31)) .none kV31 dc31 pm31 an31 cd31 ct31), sl31⟩)
    (c31 : PySem.W.codeIn K cd31 "whole" = true)
    (k31 : PySem.W.keepIn K (.ref f31) = true)
    (a32 : PySem.W.nsIn K mainGlobals "column_of" = some (some (.ref f32)))
    (l32 : K.lookup f32 = some ⟨oc32, od32, .func (PySem.W.fnOf "column_of" "column_of" (defArgs (top 32)) (defBody (top 32)) (defScope (top 32)) .none kV32 dc32 pm32 an32 cd32 ct32), sl32⟩)
    (c32 : PySem.W.codeIn K cd32 "column_of" = true)
    (k32 : PySem.W.keepIn K (.ref f32) = true)
    (a33 : PySem.W.nsIn K mainGlobals "rest_column" = some (some (.ref f33)))
    (l33 : K.lookup f33 = some ⟨oc33, od33, .func (PySem.W.fnOf "rest_column" "rest_column" (defArgs (top 33)) (defBody (top 33)) (defScope (top 33)) .none kV33 dc33 pm33 an33 cd33 ct33), sl33⟩)
    (c33 : PySem.W.codeIn K cd33 "rest_column" = true)
    (k33 : PySem.W.keepIn K (.ref f33) = true)
    (a34 : PySem.W.nsIn K mainGlobals "value_at" = some (some (.ref f34)))
    (l34 : K.lookup f34 = some ⟨oc34, od34, .func (PySem.W.fnOf "value_at" "value_at" (defArgs (top 34)) (defBody (top 34)) (defScope (top 34)) .none kV34 dc34 pm34 an34 cd34 ct34), sl34⟩)
    (c34 : PySem.W.codeIn K cd34 "value_at" = true)
    (k34 : PySem.W.keepIn K (.ref f34) = true)
    (a35 : PySem.W.nsIn K mainGlobals "turned_prices" = some (some (.ref f35)))
    (l35 : K.lookup f35 = some ⟨oc35, od35, .func (PySem.W.fnOf "turned_prices" "turned_prices" (defArgs (top 35)) (defBody (top 35)) (defScope (top 35)) .none kV35 dc35 pm35 an35 cd35 ct35), sl35⟩)
    (c35 : PySem.W.codeIn K cd35 "turned_prices" = true)
    (k35 : PySem.W.keepIn K (.ref f35) = true)
    (a36 : PySem.W.nsIn K mainGlobals "spot_of" = some (some (.ref f36)))
    (l36 : K.lookup f36 = some ⟨oc36, od36, .func (PySem.W.fnOf "spot_of" "spot_of" (defArgs (top 36)) (defBody (top 36)) (defScope (top 36)) .none kV36 dc36 pm36 an36 cd36 ct36), sl36⟩)
    (c36 : PySem.W.codeIn K cd36 "spot_of" = true)
    (k36 : PySem.W.keepIn K (.ref f36) = true)
    (a37 : PySem.W.nsIn K mainGlobals "some_spot" = some (some (.ref f37)))
    (l37 : K.lookup f37 = some ⟨oc37, od37, .func (PySem.W.fnOf "some_spot" "some_spot" (defArgs (top 37)) (defBody (top 37)) (defScope (top 37)) .none kV37 dc37 pm37 an37 cd37 ct37), sl37⟩)
    (c37 : PySem.W.codeIn K cd37 "some_spot" = true)
    (k37 : PySem.W.keepIn K (.ref f37) = true)
    (a38 : PySem.W.nsIn K mainGlobals "spot_along" = some (some (.ref f38)))
    (l38 : K.lookup f38 = some ⟨oc38, od38, .func (PySem.W.fnOf "spot_along" "spot_along" (defArgs (top 38)) (defBody (top 38)) (defScope (top 38)) .none kV38 dc38 pm38 an38 cd38 ct38), sl38⟩)
    (c38 : PySem.W.codeIn K cd38 "spot_along" = true)
    (k38 : PySem.W.keepIn K (.ref f38) = true)
    (a39 : PySem.W.nsIn K mainGlobals "quick_times" = some (some (.ref f39)))
    (l39 : K.lookup f39 = some ⟨oc39, od39, .func (PySem.W.fnOf "quick_times" "quick_times" (defArgs (top 39)) (defBody (top 39)) (defScope (top 39)) .none kV39 dc39 pm39 an39 cd39 ct39), sl39⟩)
    (c39 : PySem.W.codeIn K cd39 "quick_times" = true)
    (k39 : PySem.W.keepIn K (.ref f39) = true)
    (a40 : PySem.W.nsIn K mainGlobals "told_following" = some (some (.ref f40)))
    (l40 : K.lookup f40 = some ⟨oc40, od40, .func (PySem.W.fnOf "told_following" "told_following" (defArgs (top 40)) (defBody (top 40)) (defScope (top 40)) .none kV40 dc40 pm40 an40 cd40 ct40), sl40⟩)
    (c40 : PySem.W.codeIn K cd40 "told_following" = true)
    (k40 : PySem.W.keepIn K (.ref f40) = true)
    (a41 : PySem.W.nsIn K mainGlobals "follows" = some (some (.ref f41)))
    (l41 : K.lookup f41 = some ⟨oc41, od41, .func (PySem.W.fnOf "follows" "follows" (defArgs (top 41)) (defBody (top 41)) (defScope (top 41)) .none kV41 dc41 pm41 an41 cd41 ct41), sl41⟩)
    (c41 : PySem.W.codeIn K cd41 "follows" = true)
    (k41 : PySem.W.keepIn K (.ref f41) = true)
    (a42 : PySem.W.nsIn K mainGlobals "are_times" = some (some (.ref f42)))
    (l42 : K.lookup f42 = some ⟨oc42, od42, .func (PySem.W.fnOf "are_times" "are_times" (defArgs (top 42)) (defBody (top 42)) (defScope (top 42)) .none kV42 dc42 pm42 an42 cd42 ct42), sl42⟩)
    (c42 : PySem.W.codeIn K cd42 "are_times" = true)
    (k42 : PySem.W.keepIn K (.ref f42) = true)
    (a43 : PySem.W.nsIn K mainGlobals "total_of" = some (some (.ref f43)))
    (l43 : K.lookup f43 = some ⟨oc43, od43, .func (PySem.W.fnOf "total_of" "total_of" (defArgs (top 43)) (defBody (top 43)) (defScope (top 43)) .none kV43 dc43 pm43 an43 cd43 ct43), sl43⟩)
    (c43 : PySem.W.codeIn K cd43 "total_of" = true)
    (k43 : PySem.W.keepIn K (.ref f43) = true)
    (a44 : PySem.W.nsIn K mainGlobals "come_to" = some (some (.ref f44)))
    (l44 : K.lookup f44 = some ⟨oc44, od44, .func (PySem.W.fnOf "come_to" "come_to" (defArgs (top 44)) (defBody (top 44)) (defScope (top 44)) .none kV44 dc44 pm44 an44 cd44 ct44), sl44⟩)
    (c44 : PySem.W.codeIn K cd44 "come_to" = true)
    (k44 : PySem.W.keepIn K (.ref f44) = true)
    (a45 : PySem.W.nsIn K mainGlobals "come_to_never" = some (some (.ref f45)))
    (l45 : K.lookup f45 = some ⟨oc45, od45, .func (PySem.W.fnOf "come_to_never" "come_to_never" (defArgs (top 45)) (defBody (top 45)) (defScope (top 45)) .none kV45 dc45 pm45 an45 cd45 ct45), sl45⟩)
    (c45 : PySem.W.codeIn K cd45 "come_to_never" = true)
    (k45 : PySem.W.keepIn K (.ref f45) = true)
    (a46 : PySem.W.nsIn K mainGlobals "shows_follows" = some (some (.ref f46)))
    (l46 : K.lookup f46 = some ⟨oc46, od46, .func (PySem.W.fnOf "shows_follows" "shows_follows" (defArgs (top 46)) (defBody (top 46)) (defScope (top 46)) .none kV46 dc46 pm46 an46 cd46 ct46), sl46⟩)
    (c46 : PySem.W.codeIn K cd46 "shows_follows" = true)
    (k46 : PySem.W.keepIn K (.ref f46) = true)
    (a47 : PySem.W.nsIn K mainGlobals "holds_somewhere" = some (some (.ref f47)))
    (l47 : K.lookup f47 = some ⟨oc47, od47, .func (PySem.W.fnOf "holds_somewhere" "holds_somewhere" (defArgs (top 47)) (defBody (top 47)) (defScope (top 47)) .none kV47 dc47 pm47 an47 cd47 ct47), sl47⟩)
    (c47 : PySem.W.codeIn K cd47 "holds_somewhere" = true)
    (k47 : PySem.W.keepIn K (.ref f47) = true)
    (a49 : PySem.W.nsIn K mainGlobals "_law_pot" = some (some (.ref f49)))
    (l49 : K.lookup f49 = some ⟨oc49, od49, .func (PySem.W.fnOf "_law_pot" "_law_pot" (defArgs (top 49)) (defBody (top 49)) (defScope (top 49)) .none kV49 dc49 pm49 an49 cd49 ct49), sl49⟩)
    (c49 : PySem.W.codeIn K cd49 "_law_pot" = true)
    (k49 : PySem.W.keepIn K (.ref f49) = true)
    (a50 : PySem.W.nsIn K mainGlobals "_law_take" = some (some (.ref f50)))
    (l50 : K.lookup f50 = some ⟨oc50, od50, .func (PySem.W.fnOf "_law_take" "_law_take" (defArgs (top 50)) (defBody (top 50)) (defScope (top 50)) .none kV50 dc50 pm50 an50 cd50 ct50), sl50⟩)
    (c50 : PySem.W.codeIn K cd50 "_law_take" = true)
    (k50 : PySem.W.keepIn K (.ref f50) = true)
    (a51 : PySem.W.nsIn K mainGlobals "_law_of" = some (some (.ref f51)))
    (l51 : K.lookup f51 = some ⟨oc51, od51, .func (PySem.W.fnOf "_law_of" "_law_of" (defArgs (top 51)) (defBody (top 51)) (defScope (top 51)) .none kV51 dc51 pm51 an51 cd51 ct51), sl51⟩)
    (c51 : PySem.W.codeIn K cd51 "_law_of" = true)
    (k51 : PySem.W.keepIn K (.ref f51) = true)
    (a52 : PySem.W.nsIn K mainGlobals "_law_cells" = some (some (.ref f52)))
    (l52 : K.lookup f52 = some ⟨oc52, od52, .func (PySem.W.fnOf "_law_cells" "_law_cells" (defArgs (top 52)) (defBody (top 52)) (defScope (top 52)) .none kV52 dc52 pm52 an52 cd52 ct52), sl52⟩)
    (c52 : PySem.W.codeIn K cd52 "_law_cells" = true)
    (k52 : PySem.W.keepIn K (.ref f52) = true)
    (a53 : PySem.W.nsIn K mainGlobals "_law_heard" = some (some (.ref f53)))
    (l53 : K.lookup f53 = some ⟨oc53, od53, .func (PySem.W.fnOf "_law_heard" "_law_heard" (defArgs (top 53)) (defBody (top 53)) (defScope (top 53)) .none kV53 dc53 pm53 an53 cd53 ct53), sl53⟩)
    (c53 : PySem.W.codeIn K cd53 "_law_heard" = true)
    (k53 : PySem.W.keepIn K (.ref f53) = true)
    (a54 : PySem.W.nsIn K mainGlobals "_law_are_refused" = some (some (.ref f54)))
    (l54 : K.lookup f54 = some ⟨oc54, od54, .func (PySem.W.fnOf "_law_are_refused" "_law_are_refused" (defArgs (top 54)) (defBody (top 54)) (defScope (top 54)) .none kV54 dc54 pm54 an54 (.ref cR) ct54), sl54⟩)
    (c54 : PySem.W.codeIn K (.ref cR) "_law_are_refused" = true)
    (k54 : PySem.W.keepIn K (.ref f54) = true)
    (hd54 : PySem.W.codeHdIn K cR TT = true)
    (nT : K.lookup TT = none)
    (a55 : PySem.W.nsIn K mainGlobals "law" = some (some (.ref f55)))
    (l55 : K.lookup f55 = some ⟨oc55, od55, .func (PySem.W.fnOf "law" "law" (defArgs (top 55)) (defBody (top 55)) (defScope (top 55)) .none kV55 dc55 pm55 an55 cd55 ct55), sl55⟩)
    (c55 : PySem.W.codeIn K cd55 "law" = true)
    (k55 : PySem.W.keepIn K (.ref f55) = true)
    (aC : PySem.W.nsIn K mainGlobals "Tableau" = some (some (.ref C)))
    (a100 : PySem.W.findIn K (.ref C) "__init__" = some (some (.ref f100)))
    (i100 : PySem.W.isFn K (.ref f100) = true)
    (l100 : K.lookup f100 = some ⟨oc100, od100, .func (PySem.W.fnOf "__init__" "Tableau.__init__" (defArgs (inClass (top 18) 0)) (defBody (inClass (top 18) 0)) (defScope (inClass (top 18) 0)) .none kV100 dc100 pm100 an100 cd100 ct100), sl100⟩)
    (c100 : PySem.W.codeIn K cd100 "Tableau.__init__" = true)
    (k100 : PySem.W.keepIn K (.ref f100) = true)
    (a101 : PySem.W.findIn K (.ref C) "first_row" = some (some (.ref f101)))
    (i101 : PySem.W.isFn K (.ref f101) = true)
    (l101 : K.lookup f101 = some ⟨oc101, od101, .func (PySem.W.fnOf "first_row" "Tableau.first_row" (defArgs (inClass (top 18) 1)) (defBody (inClass (top 18) 1)) (defScope (inClass (top 18) 1)) .none kV101 dc101 pm101 an101 cd101 ct101), sl101⟩)
    (c101 : PySem.W.codeIn K cd101 "Tableau.first_row" = true)
    (k101 : PySem.W.keepIn K (.ref f101) = true)
    (a102 : PySem.W.findIn K (.ref C) "first_cost" = some (some (.ref f102)))
    (i102 : PySem.W.isFn K (.ref f102) = true)
    (l102 : K.lookup f102 = some ⟨oc102, od102, .func (PySem.W.fnOf "first_cost" "Tableau.first_cost" (defArgs (inClass (top 18) 2)) (defBody (inClass (top 18) 2)) (defScope (inClass (top 18) 2)) .none kV102 dc102 pm102 an102 cd102 ct102), sl102⟩)
    (c102 : PySem.W.codeIn K cd102 "Tableau.first_cost" = true)
    (k102 : PySem.W.keepIn K (.ref f102) = true)
    (a103 : PySem.W.findIn K (.ref C) "solve" = some (some (.ref f103)))
    (i103 : PySem.W.isFn K (.ref f103) = true)
    (l103 : K.lookup f103 = some ⟨oc103, od103, .func (PySem.W.fnOf "solve" "Tableau.solve" (defArgs (inClass (top 18) 3)) (defBody (inClass (top 18) 3)) (defScope (inClass (top 18) 3)) .none kV103 dc103 pm103 an103 cd103 ct103), sl103⟩)
    (c103 : PySem.W.codeIn K cd103 "Tableau.solve" = true)
    (k103 : PySem.W.keepIn K (.ref f103) = true)
    (a104 : PySem.W.findIn K (.ref C) "entering" = some (some (.ref f104)))
    (i104 : PySem.W.isFn K (.ref f104) = true)
    (l104 : K.lookup f104 = some ⟨oc104, od104, .func (PySem.W.fnOf "entering" "Tableau.entering" (defArgs (inClass (top 18) 4)) (defBody (inClass (top 18) 4)) (defScope (inClass (top 18) 4)) .none kV104 dc104 pm104 an104 cd104 ct104), sl104⟩)
    (c104 : PySem.W.codeIn K cd104 "Tableau.entering" = true)
    (k104 : PySem.W.keepIn K (.ref f104) = true)
    (a105 : PySem.W.findIn K (.ref C) "leaving" = some (some (.ref f105)))
    (i105 : PySem.W.isFn K (.ref f105) = true)
    (l105 : K.lookup f105 = some ⟨oc105, od105, .func (PySem.W.fnOf "leaving" "Tableau.leaving" (defArgs (inClass (top 18) 5)) (defBody (inClass (top 18) 5)) (defScope (inClass (top 18) 5)) .none kV105 dc105 pm105 an105 cd105 ct105), sl105⟩)
    (c105 : PySem.W.codeIn K cd105 "Tableau.leaving" = true)
    (k105 : PySem.W.keepIn K (.ref f105) = true)
    (a106 : PySem.W.findIn K (.ref C) "turn" = some (some (.ref f106)))
    (i106 : PySem.W.isFn K (.ref f106) = true)
    (l106 : K.lookup f106 = some ⟨oc106, od106, .func (PySem.W.fnOf "turn" "Tableau.turn" (defArgs (inClass (top 18) 6)) (defBody (inClass (top 18) 6)) (defScope (inClass (top 18) 6)) .none kV106 dc106 pm106 an106 cd106 ct106), sl106⟩)
    (c106 : PySem.W.codeIn K cd106 "Tableau.turn" = true)
    (k106 : PySem.W.keepIn K (.ref f106) = true)
    (a107 : PySem.W.findIn K (.ref C) "is_solved" = some (some (.ref f107)))
    (i107 : PySem.W.isFn K (.ref f107) = true)
    (l107 : K.lookup f107 = some ⟨oc107, od107, .func (PySem.W.fnOf "is_solved" "Tableau.is_solved" (defArgs (inClass (top 18) 7)) (defBody (inClass (top 18) 7)) (defScope (inClass (top 18) 7)) .none kV107 dc107 pm107 an107 cd107 ct107), sl107⟩)
    (c107 : PySem.W.codeIn K cd107 "Tableau.is_solved" = true)
    (k107 : PySem.W.keepIn K (.ref f107) = true)
    (a108 : PySem.W.findIn K (.ref C) "parts" = some (some (.ref f108)))
    (i108 : PySem.W.isFn K (.ref f108) = true)
    (l108 : K.lookup f108 = some ⟨oc108, od108, .func (PySem.W.fnOf "parts" "Tableau.parts" (defArgs (inClass (top 18) 8)) (defBody (inClass (top 18) 8)) (defScope (inClass (top 18) 8)) .none kV108 dc108 pm108 an108 cd108 ct108), sl108⟩)
    (c108 : PySem.W.codeIn K cd108 "Tableau.parts" = true)
    (k108 : PySem.W.keepIn K (.ref f108) = true)
    (a109 : PySem.W.findIn K (.ref C) "prices" = some (some (.ref f109)))
    (i109 : PySem.W.isFn K (.ref f109) = true)
    (l109 : K.lookup f109 = some ⟨oc109, od109, .func (PySem.W.fnOf "prices" "Tableau.prices" (defArgs (inClass (top 18) 9)) (defBody (inClass (top 18) 9)) (defScope (inClass (top 18) 9)) .none kV109 dc109 pm109 an109 cd109 ct109), sl109⟩)
    (c109 : PySem.W.codeIn K cd109 "Tableau.prices" = true)
    (k109 : PySem.W.keepIn K (.ref f109) = true)
    (pg : PySem.W.plainGet K C Str.empty = true)
    (hd : PySem.W.hasDictIn K C = true)
    (po : PySem.W.plainOver K C = true)
    (sa : PySem.W.findIn K (.ref C) "__setattr__" = some (some (.builtin "object.__setattr__")))
    (mk : PySem.W.makesIn K C = true)
    (kc : PySem.W.keepIn K (.ref C) = true)
    (n0 : PySem.W.findIn K (.ref C) "own_many" = some none)
    (n1 : PySem.W.findIn K (.ref C) "own_high" = some none)
    (n2 : PySem.W.findIn K (.ref C) "own_signs" = some none)
    (n3 : PySem.W.findIn K (.ref C) "own_rows" = some none)
    (n4 : PySem.W.findIn K (.ref C) "own_basis" = some none)
    (n5 : PySem.W.findIn K (.ref C) "own_cost" = some none)
    (aN : PySem.W.nsIn K mainGlobals "NOTHING" = some (some (.ref cN)))
    (lN : K.lookup cN = some ⟨.type "tuple", dN, .seq #[.int 0 tN, .int 1 uN] nN, sN⟩)
    (aO : PySem.W.nsIn K mainGlobals "ONE" = some (some (.ref cO)))
    (lO : K.lookup cO = some ⟨.type "tuple", dO, .seq #[.int 1 tO, .int 1 uO] nO, sO⟩)
    (gT : PySem.W.nsIn K mainGlobals "TIMES" = some (some (.str "times" w1)))
    (gV : PySem.W.nsIn K mainGlobals "NEVER" = some (some (.str "never" w2)))
    (gS : PySem.W.nsIn K mainGlobals "SPOT" = some (some (.str "spot" w3)))
    (gC : PySem.W.nsIn K mainGlobals "MOST_COLUMNS" = some (some (.int 24 w4)))
    (gR : PySem.W.nsIn K mainGlobals "MOST_ROWS" = some (some (.int 60 w5)))
    (eD : PySem.W.nsIn K mainGlobals "EndsError" = some (some (.ref CD)))
    (e1 : PySem.W.nsIn K mainGlobals "BadRows" = some (some (.ref C1)))
    (e2 : PySem.W.nsIn K mainGlobals "BadRow" = some (some (.ref C2)))
    (i1 : PySem.W.findIn K (.ref C1) "__init__" = some (some (.ref fI)))
    (lI : K.lookup fI = some ⟨ocI, odI, .func (PySem.W.ksFn "__init__" "EndsError.__init__" (defArgs sErrInit) (defBody sErrInit) (defScope sErrInit) .none .none dcI pmI anI (.ref cda) ctI ccI), slI⟩)
    (cI : PySem.W.codeIn K (.ref cda) "EndsError.__init__" = true)
    (lcd : K.lookup cda = some ⟨oc1, od1, .fields vsI, sl1⟩)
    (v2 : vsI[2]? = some (.str fileI tfI))
    (lcell : K.lookup ccI = some ⟨oc2, od2, .cell (some (.ref CD)), sl2⟩)
    (cD : PySem.W.clsIn K CD = some cdD)
    (z_super : PySem.W.nsIn K mainGlobals "super" = some none)
    (opq : PySem.W.nsIn K cStatics "thirdparty.any" = some none)
    (tI : PySem.W.typeIn K (.ref fI) = some (.type "function"))
    (hn : PySem.W.specialIn K (.builtin "object.__class__") "__get__" = some (some (.builtin "getset_descriptor.__get__")))
    (ht : PySem.W.takesIn K (.builtin "object.__class__") = some true)
    (lC1 : K.lookup C1 = some (excClassObj nm1 q1 C1 N1 bs1 bm1 true sn1 sub1 ab1 col1 dd1 ka1 kb1 kc1 kd1 ke1 "ValueError.__new__"))
    (rv1 : PySem.HandSPX.refsVE bm1 = true)
    (sa1 : PySem.W.findIn K (.ref C1) "__setattr__" = some (some (.builtin "object.__setattr__")))
    (nv1 : PySem.W.findIn K (.ref C1) "value" = some none)
    (kC1 : PySem.W.keepIn K (.ref C1) = true)
    (ex1 : PySem.W.subIn K (.ref C1) (.type "BaseException") = some true)
    (ty1 : PySem.W.typeIn K (.ref C1) = some (.type "type"))
    (sD1 : PySem.W.mroIn K C1 (.ref CD) = some true)
    (sI1 : PySem.W.ks_superIn K C1 CD "__init__" = some (some (.builtin "ValueError.__init__")))
    (sV1 : PySem.W.subIn K (.ref C1) (.type "ValueError") = some true)
    (hg1 : PySem.W.findIn K (.ref C1) "__getattribute__" = some (some (.builtin "BaseException.__getattribute__")))
    (hk1 : PySem.W.findIn K (.ref C1) "__getattr__" = some none)
    (hdc1 : PySem.W.hasDictIn K C1 = true)
    (ha1 : PySem.W.findIn K (.ref C1) "__class__" = some (some (.builtin "object.__class__")))
    (hm1 : PySem.W.mroIn K C1 (.type "object") = some true)
    (xm1 : PySem.W.exmOne K (.ref C1) (.ref CD) = some true)
    (lC2 : K.lookup C2 = some (excClassObj nm2 q2 C2 N2 bs2 bm2 true sn2 sub2 ab2 col2 dd2 ka2 kb2 kc2 kd2 ke2 "ValueError.__new__"))
    (rv2 : PySem.HandSPX.refsVE bm2 = true)
    (sa2 : PySem.W.findIn K (.ref C2) "__setattr__" = some (some (.builtin "object.__setattr__")))
    (nv2 : PySem.W.findIn K (.ref C2) "value" = some none)
    (i2 : PySem.W.findIn K (.ref C2) "__init__" = some (some (.ref fI)))
    (kC2 : PySem.W.keepIn K (.ref C2) = true)
    (ex2 : PySem.W.subIn K (.ref C2) (.type "BaseException") = some true)
    (ty2 : PySem.W.typeIn K (.ref C2) = some (.type "type"))
    (sD2 : PySem.W.mroIn K C2 (.ref CD) = some true)
    (sI2 : PySem.W.ks_superIn K C2 CD "__init__" = some (some (.builtin "ValueError.__init__")))
    (sV2 : PySem.W.subIn K (.ref C2) (.type "ValueError") = some true)
    (hg2 : PySem.W.findIn K (.ref C2) "__getattribute__" = some (some (.builtin "BaseException.__getattribute__")))
    (hk2 : PySem.W.findIn K (.ref C2) "__getattr__" = some none)
    (hdc2 : PySem.W.hasDictIn K C2 = true)
    (ha2 : PySem.W.findIn K (.ref C2) "__class__" = some (some (.builtin "object.__class__")))
    (hm2 : PySem.W.mroIn K C2 (.type "object") = some true)
    (xm2 : PySem.W.exmOne K (.ref C2) (.ref CD) = some true)
    (kt11 : PySem.W.kitOne K (.ref C1) (.ref C1) = some true)
    (kt12 : PySem.W.kitOne K (.ref C1) (.ref C2) = some false)
    (kt21 : PySem.W.kitOne K (.ref C2) (.ref C1) = some false)
    (kt22 : PySem.W.kitOne K (.ref C2) (.ref C2) = some true)
    (z_isinstance : PySem.W.nsIn K mainGlobals "isinstance" = some none)
    (z_int : PySem.W.nsIn K mainGlobals "int" = some none)
    (z_bool : PySem.W.nsIn K mainGlobals "bool" = some none)
    (z_abs : PySem.W.nsIn K mainGlobals "abs" = some none)
    (z_len : PySem.W.nsIn K mainGlobals "len" = some none)
    (z_range : PySem.W.nsIn K mainGlobals "range" = some none)
    (z_zip : PySem.W.nsIn K mainGlobals "zip" = some none)
    (z_enumerate : PySem.W.nsIn K mainGlobals "enumerate" = some none)
    (z_all : PySem.W.nsIn K mainGlobals "all" = some none)
    (z_tuple : PySem.W.nsIn K mainGlobals "tuple" = some none)
    (z_list : PySem.W.nsIn K mainGlobals "list" = some none)
    (z_max : PySem.W.nsIn K mainGlobals "max" = some none)
    (z_min : PySem.W.nsIn K mainGlobals "min" = some none)
    (z_sum : PySem.W.nsIn K mainGlobals "sum" = some none)
    (z_any : PySem.W.nsIn K mainGlobals "any" = some none)
    (z_str : PySem.W.nsIn K mainGlobals "str" = some none)
    (z_repr : PySem.W.nsIn K mainGlobals "repr" = some none)
    : ∃ (fd : FuncData) (cR : Addr), K.lookup TT = none ∧ PySem.W.codeHdIn K cR TT = true ∧ (∀ (s : Shared) (v : Value), BindsTo s fd ⟨[v], []⟩ [("script", v)]) ∧ ∀ base : Heap, K.In base → base.Ns mainGlobals mg → TabB base mg cR TT → FnG l.prog w K mg base 14 fa fd ["script"] (spLaw K TT) := by
  have e := hfa.symm.trans (PySem.W.mg_of X G a55)
  cases e
  have F5 := fun_mk (st := top 5) l5 c5 k5
  have b5 := F5.binds (ps := ["value"]) fun _ _ _ _ _ _ us hl => match us, hl with | [_], _ => rfl
  have g5 := PySem.W.mg_of X G a5
  have F6 := fun_mk (st := top 6) l6 c6 k6
  have b6 := F6.binds (ps := ["value", "least", "most"]) fun _ _ _ _ _ _ us hl => match us, hl with | [_, _, _], _ => rfl
  have g6 := PySem.W.mg_of X G a6
  have F7 := fun_mk (st := top 7) l7 c7 k7
  have b7 := F7.binds (ps := ["one", "other"]) fun _ _ _ _ _ _ us hl => match us, hl with | [_, _], _ => rfl
  have g7 := PySem.W.mg_of X G a7
  have F8 := fun_mk (st := top 8) l8 c8 k8
  have b8 := F8.binds (ps := ["top", "low"]) fun _ _ _ _ _ _ us hl => match us, hl with | [_, _], _ => rfl
  have g8 := PySem.W.mg_of X G a8
  have F9 := fun_mk (st := top 9) l9 c9 k9
  have b9 := F9.binds (ps := ["one", "other"]) fun _ _ _ _ _ _ us hl => match us, hl with | [_, _], _ => rfl
  have g9 := PySem.W.mg_of X G a9
  have F10 := fun_mk (st := top 10) l10 c10 k10
  have b10 := F10.binds (ps := ["one", "other"]) fun _ _ _ _ _ _ us hl => match us, hl with | [_, _], _ => rfl
  have g10 := PySem.W.mg_of X G a10
  have F11 := fun_mk (st := top 11) l11 c11 k11
  have b11 := F11.binds (ps := ["one", "other"]) fun _ _ _ _ _ _ us hl => match us, hl with | [_, _], _ => rfl
  have g11 := PySem.W.mg_of X G a11
  have F12 := fun_mk (st := top 12) l12 c12 k12
  have b12 := F12.binds (ps := ["one", "other"]) fun _ _ _ _ _ _ us hl => match us, hl with | [_, _], _ => rfl
  have g12 := PySem.W.mg_of X G a12
  have F13 := fun_mk (st := top 13) l13 c13 k13
  have b13 := F13.binds (ps := ["one", "other"]) fun _ _ _ _ _ _ us hl => match us, hl with | [_, _], _ => rfl
  have g13 := PySem.W.mg_of X G a13
  have F14 := fun_mk (st := top 14) l14 c14 k14
  have b14 := F14.binds (ps := ["value"]) fun _ _ _ _ _ _ us hl => match us, hl with | [_], _ => rfl
  have g14 := PySem.W.mg_of X G a14
  have F19 := fun_mk (st := top 19) l19 c19 k19
  have b19 := F19.binds (ps := ["row", "other", "place"]) fun _ _ _ _ _ _ us hl => match us, hl with | [_, _, _], _ => rfl
  have g19 := PySem.W.mg_of X G a19
  have F20 := fun_mk (st := top 20) l20 c20 k20
  have b20 := F20.binds (ps := ["columns", "goal"]) fun _ _ _ _ _ _ us hl => match us, hl with | [_, _], _ => rfl
  have g20 := PySem.W.mg_of X G a20
  have F22 := fun_mk (st := top 22) l22 c22 k22
  have b22 := F22.binds (ps := ["many", "value"]) fun _ _ _ _ _ _ us hl => match us, hl with | [_, _], _ => rfl
  have g22 := PySem.W.mg_of X G a22
  have F29 := fun_mk (st := top 29) l29 c29 k29
  have b29 := F29.binds (ps := ["many", "rows"]) fun _ _ _ _ _ _ us hl => match us, hl with | [_, _], _ => rfl
  have g29 := PySem.W.mg_of X G a29
  have F30 := fun_mk (st := top 30) l30 c30 k30
  have b30 := F30.binds (ps := ["many", "rows", "row"]) fun _ _ _ _ _ _ us hl => match us, hl with | [_, _, _], _ => rfl
  have g30 := PySem.W.mg_of X G a30
  have F31 := fun_mk (st := top 31) l31 c31 k31
  have b31 := F31.binds (ps := ["fractions"]) fun _ _ _ _ _ _ us hl => match us, hl with | [_], _ => rfl
  have g31 := PySem.W.mg_of X G a31
  have F32 := fun_mk (st := top 32) l32 c32 k32
  have b32 := F32.binds (ps := ["row"]) fun _ _ _ _ _ _ us hl => match us, hl with | [_], _ => rfl
  have g32 := PySem.W.mg_of X G a32
  have F33 := fun_mk (st := top 33) l33 c33 k33
  have b33 := F33.binds (ps := ["many"]) fun _ _ _ _ _ _ us hl => match us, hl with | [_], _ => rfl
  have g33 := PySem.W.mg_of X G a33
  have F34 := fun_mk (st := top 34) l34 c34 k34
  have b34 := F34.binds (ps := ["row", "spot"]) fun _ _ _ _ _ _ us hl => match us, hl with | [_, _], _ => rfl
  have g34 := PySem.W.mg_of X G a34
  have F35 := fun_mk (st := top 35) l35 c35 k35
  have b35 := F35.binds (ps := ["prices"]) fun _ _ _ _ _ _ us hl => match us, hl with | [_], _ => rfl
  have g35 := PySem.W.mg_of X G a35
  have F36 := fun_mk (st := top 36) l36 c36 k36
  have b36 := F36.binds (ps := ["prices"]) fun _ _ _ _ _ _ us hl => match us, hl with | [_], _ => rfl
  have g36 := PySem.W.mg_of X G a36
  have F37 := fun_mk (st := top 37) l37 c37 k37
  have b37 := F37.binds (ps := ["many", "rows"]) fun _ _ _ _ _ _ us hl => match us, hl with | [_, _], _ => rfl
  have g37 := PySem.W.mg_of X G a37
  have F38 := fun_mk (st := top 38) l38 c38 k38
  have b38 := F38.binds (ps := ["spot", "way", "row"]) fun _ _ _ _ _ _ us hl => match us, hl with | [_, _, _], _ => rfl
  have g38 := PySem.W.mg_of X G a38
  have F39 := fun_mk (st := top 39) l39 c39 k39
  have b39 := F39.binds (ps := ["rows", "row"]) fun _ _ _ _ _ _ us hl => match us, hl with | [_, _], _ => rfl
  have g39 := PySem.W.mg_of X G a39
  have F40 := fun_mk (st := top 40) l40 c40 k40
  have b40 := F40.binds (ps := ["many", "rows", "row"]) fun _ _ _ _ _ _ us hl => match us, hl with | [_, _, _], _ => rfl
  have g40 := PySem.W.mg_of X G a40
  have F41 := fun_mk (st := top 41) l41 c41 k41
  have b41 := F41.binds (ps := ["many", "rows", "row"]) fun _ _ _ _ _ _ us hl => match us, hl with | [_, _, _], _ => rfl
  have g41 := PySem.W.mg_of X G a41
  have F42 := fun_mk (st := top 42) l42 c42 k42
  have b42 := F42.binds (ps := ["rows", "value"]) fun _ _ _ _ _ _ us hl => match us, hl with | [_, _], _ => rfl
  have g42 := PySem.W.mg_of X G a42
  have F43 := fun_mk (st := top 43) l43 c43 k43
  have b43 := F43.binds (ps := ["many", "rows", "times"]) fun _ _ _ _ _ _ us hl => match us, hl with | [_, _, _], _ => rfl
  have g43 := PySem.W.mg_of X G a43
  have F44 := fun_mk (st := top 44) l44 c44 k44
  have b44 := F44.binds (ps := ["many", "rows", "by", "times", "row"]) fun _ _ _ _ _ _ us hl => match us, hl with | [_, _, _, _, _], _ => rfl
  have g44 := PySem.W.mg_of X G a44
  have F45 := fun_mk (st := top 45) l45 c45 k45
  have b45 := F45.binds (ps := ["many", "rows", "times"]) fun _ _ _ _ _ _ us hl => match us, hl with | [_, _, _], _ => rfl
  have g45 := PySem.W.mg_of X G a45
  have F46 := fun_mk (st := top 46) l46 c46 k46
  have b46 := F46.binds (ps := ["many", "rows", "row", "value"]) fun _ _ _ _ _ _ us hl => match us, hl with | [_, _, _, _], _ => rfl
  have g46 := PySem.W.mg_of X G a46
  have F47 := fun_mk (st := top 47) l47 c47 k47
  have b47 := F47.binds (ps := ["many", "rows"]) fun _ _ _ _ _ _ us hl => match us, hl with | [_, _], _ => rfl
  have g47 := PySem.W.mg_of X G a47
  have F49 := fun_mk (st := top 49) l49 c49 k49
  have b49 := F49.binds (ps := ["script", "place"]) fun _ _ _ _ _ _ us hl => match us, hl with | [_, _], _ => rfl
  have g49 := PySem.W.mg_of X G a49
  have F50 := fun_mk (st := top 50) l50 c50 k50
  have b50 := F50.binds (ps := ["pot", "upto"]) fun _ _ _ _ _ _ us hl => match us, hl with | [_, _], _ => rfl
  have g50 := PySem.W.mg_of X G a50
  have F51 := fun_mk (st := top 51) l51 c51 k51
  have b51 := F51.binds (ps := ["pot", "some"]) fun _ _ _ _ _ _ us hl => match us, hl with | [_, _], _ => rfl
  have g51 := PySem.W.mg_of X G a51
  have F52 := fun_mk (st := top 52) l52 c52 k52
  have b52 := F52.binds (ps := ["script", "most"]) fun _ _ _ _ _ _ us hl => match us, hl with | [_, _], _ => rfl
  have g52 := PySem.W.mg_of X G a52
  have F53 := fun_mk (st := top 53) l53 c53 k53
  have b53 := F53.binds (ps := ["call"]) fun _ _ _ _ _ _ us hl => match us, hl with | [_], _ => rfl
  have g53 := PySem.W.mg_of X G a53
  have F54 := fun_mk (st := top 54) l54 c54 k54
  have b54 := F54.binds (ps := ["pot"]) fun _ _ _ _ _ _ us hl => match us, hl with | [_], _ => rfl
  have g54 := PySem.W.mg_of X G a54
  have F55 := fun_mk (st := top 55) l55 c55 k55
  have F100 := fun_mk (st := inClass (top 18) 0) l100 c100 k100
  have b100 := F100.binds (ps := ["self", "columns", "goal"]) fun _ _ _ _ _ _ us hl => match us, hl with | [_, _, _], _ => rfl
  have F101 := fun_mk (st := inClass (top 18) 1) l101 c101 k101
  have b101 := F101.binds (ps := ["self", "columns", "goal", "at"]) fun _ _ _ _ _ _ us hl => match us, hl with | [_, _, _, _], _ => rfl
  have F102 := fun_mk (st := inClass (top 18) 2) l102 c102 k102
  have b102 := F102.binds (ps := ["self", "place"]) fun _ _ _ _ _ _ us hl => match us, hl with | [_, _], _ => rfl
  have F103 := fun_mk (st := inClass (top 18) 3) l103 c103 k103
  have b103 := F103.binds (ps := ["self"]) fun _ _ _ _ _ _ us hl => match us, hl with | [_], _ => rfl
  have F104 := fun_mk (st := inClass (top 18) 4) l104 c104 k104
  have b104 := F104.binds (ps := ["self"]) fun _ _ _ _ _ _ us hl => match us, hl with | [_], _ => rfl
  have F105 := fun_mk (st := inClass (top 18) 5) l105 c105 k105
  have b105 := F105.binds (ps := ["self", "place"]) fun _ _ _ _ _ _ us hl => match us, hl with | [_, _], _ => rfl
  have F106 := fun_mk (st := inClass (top 18) 6) l106 c106 k106
  have b106 := F106.binds (ps := ["self", "at", "place"]) fun _ _ _ _ _ _ us hl => match us, hl with | [_, _, _], _ => rfl
  have F107 := fun_mk (st := inClass (top 18) 7) l107 c107 k107
  have b107 := F107.binds (ps := ["self"]) fun _ _ _ _ _ _ us hl => match us, hl with | [_], _ => rfl
  have F108 := fun_mk (st := inClass (top 18) 8) l108 c108 k108
  have b108 := F108.binds (ps := ["self"]) fun _ _ _ _ _ _ us hl => match us, hl with | [_], _ => rfl
  have F109 := fun_mk (st := inClass (top 18) 9) l109 c109 k109
  have b109 := F109.binds (ps := ["self"]) fun _ _ _ _ _ _ us hl => match us, hl with | [_], _ => rfl
  have T : TbC K C := ⟨⟨pg, hd, po, sa⟩, fun g hg => by
    simp at hg
    rcases hg with rfl | rfl | rfl | rfl | rfl | rfl
    · exact n0
    · exact n1
    · exact n2
    · exact n3
    · exact n4
    · exact n5
    ⟩
  have B1 : Blt mg := ⟨PySem.W.mg_none_of X G z_isinstance, PySem.W.mg_none_of X G z_int, PySem.W.mg_none_of X G z_bool, PySem.W.mg_none_of X G z_abs, PySem.W.mg_none_of X G z_len⟩
  have B2 : Bl2 mg := ⟨PySem.W.mg_none_of X G z_len, PySem.W.mg_none_of X G z_range, PySem.W.mg_none_of X G z_int, PySem.W.mg_none_of X G z_zip, PySem.W.mg_none_of X G z_enumerate, PySem.W.mg_none_of X G z_all, PySem.W.mg_none_of X G z_tuple⟩
  have B3 : Bl3 mg := ⟨PySem.W.mg_none_of X G z_list, PySem.W.mg_none_of X G z_max, PySem.W.mg_none_of X G z_min, PySem.W.mg_none_of X G z_sum, PySem.W.mg_none_of X G z_abs⟩
  have N : FrC K mg "NOTHING" 0 cN := frC_of (PySem.W.mg_of X G aN) lN rfl rfl
  have O : FrC K mg "ONE" 1 cO := frC_of (PySem.W.mg_of X G aO) lO rfl rfl
  have Wo : Words mg := ⟨⟨w1, PySem.W.mg_of X G gT⟩, ⟨w2, PySem.W.mg_of X G gV⟩, ⟨w3, PySem.W.mg_of X G gS⟩⟩
  have Mo : Mosts mg := ⟨⟨w4, PySem.W.mg_of X G gC⟩, ⟨w5, PySem.W.mg_of X G gR⟩⟩
  have ET : ErrTxt l.prog K CD fI ccI cda := ⟨⟨_, _, _, _, _, _, _, lI, cI⟩, ⟨_, _, _, _, _, _, lcd, v2, hfile⟩, ⟨_, _, _, lcell⟩, ⟨_, cD⟩, z_super, topS, opq, tI⟩
  have U1 : ErrCls K CD C1 fI := ⟨⟨_, _, _, _, _, _, _, _, _, _, _, _, _, _, _, lC1, rv1⟩, sa1, nv1, i1, kC1, ex1, ty1, sD1, sI1, sV1⟩
  have E1 : ErC K C1 := ⟨⟨hg1, hk1, ex1, hdc1, ha1, hn, ht, hm1⟩, ⟨hg1, hk1, ex1, hdc1⟩, nv1⟩
  have U2 : ErrCls K CD C2 fI := ⟨⟨_, _, _, _, _, _, _, _, _, _, _, _, _, _, _, lC2, rv2⟩, sa2, nv2, i2, kC2, ex2, ty2, sD2, sI2, sV2⟩
  have E2 : ErC K C2 := ⟨⟨hg2, hk2, ex2, hdc2, ha2, hn, ht, hm2⟩, ⟨hg2, hk2, ex2, hdc2⟩, nv2⟩
  have UH : Hears K mg CD C1 C2 := ⟨PySem.W.mg_of X G eD, PySem.W.mg_of X G e1, PySem.W.mg_of X G e2, PySem.W.mg_none_of X G z_isinstance, E1, E2, xm1, xm2, kt11, kt12, kt21, kt22⟩
  refine ⟨PySem.W.fnOf "law" "law" (defArgs (top 55)) (defBody (top 55)) (defScope (top 55)) .none kV55 dc55 pm55 an55 cd55 ct55, cR, nT, hd54, fun s v => .of_eq rfl, fun base _ _ TB => ?_⟩
  have D5 := Has.mk (P := l.prog) (w := w) (mg := mg) (base := base) k5 b5 g5 (ok_isInt F5 B1)
  have D6 := Has.mk (P := l.prog) (w := w) (mg := mg) (base := base) k6 b6 g6 (ok_between F6 k5 b5 g5 D5.ok)
  have D7 := Has.mk (P := l.prog) (w := w) (mg := mg) (base := base) k7 b7 g7 (ok_common F7 B1)
  have D8 := Has.mk (P := l.prog) (w := w) (mg := mg) (base := base) k8 b8 g8 (ok_reduced F8 k7 b7 g7 D7.ok)
  have R8 : HasRed l.prog w K mg base f8 _ := ⟨k8, b8, g8, D8.ok⟩
  have D9 := Has.mk (P := l.prog) (w := w) (mg := mg) (base := base) k9 b9 g9 (ok_added F9 R8)
  have D10 := Has.mk (P := l.prog) (w := w) (mg := mg) (base := base) k10 b10 g10 (ok_difference F10 R8)
  have D11 := Has.mk (P := l.prog) (w := w) (mg := mg) (base := base) k11 b11 g11 (ok_product F11 R8)
  have D12 := Has.mk (P := l.prog) (w := w) (mg := mg) (base := base) k12 b12 g12 (ok_quotient F12 R8)
  have D13 := Has.mk (P := l.prog) (w := w) (mg := mg) (base := base) k13 b13 g13 (ok_less F13)
  have D14 := Has.mk (P := l.prog) (w := w) (mg := mg) (base := base) k14 b14 g14 (ok_isFr F14 B2 B1 D5 D7)
  have D19 := Has.mk (P := l.prog) (w := w) (mg := mg) (base := base) k19 b19 g19 (ok_lessBy F19 B2.zip D10 D11)
  have D101 := HasM.mk (P := l.prog) (w := w) (mg := mg) (base := base) (Meth.mk a101 i101 k101) b101 (ok_firstRow F101 B2 T)
  have D102 := HasM.mk (P := l.prog) (w := w) (mg := mg) (base := base) (Meth.mk a102 i102 k102) b102 (ok_firstCost F102 T N D10)
  have D104 := HasM.mk (P := l.prog) (w := w) (mg := mg) (base := base) (Meth.mk a104 i104 k104) b104 (ok_entering F104 T B2)
  have D105 := HasM.mk (P := l.prog) (w := w) (mg := mg) (base := base) (Meth.mk a105 i105 k105) b105 (ok_leaving F105 T B2 D12 D13)
  have D106 := HasM.mk (P := l.prog) (w := w) (mg := mg) (base := base) (Meth.mk a106 i106 k106) b106 (ok_turn F106 T B2 D12 D19)
  have D103 := HasM.mk (P := l.prog) (w := w) (mg := mg) (base := base) (Meth.mk a103 i103 k103) b103 (ok_solve F103 T D104 D105 D106)
  have D107 := HasM.mk (P := l.prog) (w := w) (mg := mg) (base := base) (Meth.mk a107 i107 k107) b107 (ok_solved F107 T)
  have D108 := HasM.mk (P := l.prog) (w := w) (mg := mg) (base := base) (Meth.mk a108 i108 k108) b108 (ok_parts F108 T B2 N)
  have D109 := HasM.mk (P := l.prog) (w := w) (mg := mg) (base := base) (Meth.mk a109 i109 k109) b109 (ok_prices F109 T B2 O D10 D11)
  have GI := ok_init (P := l.prog) (w := w) (mg := mg) (base := base) F100 T B2 D101 D102 D103
  have D20 := Has.mk (P := l.prog) (w := w) (mg := mg) (base := base) k20 b20 g20 (ok_partsFor F20 T ⟨mk, a100, i100, kc⟩ (PySem.W.mg_of X G aC) b100 GI D107 D108 D109)
  have D22 := Has.mk (P := l.prog) (w := w) (mg := mg) (base := base) k22 b22 g22 (ok_isRow F22 B2 B1 D5)
  have D29 := Has.mk (P := l.prog) (w := w) (mg := mg) (base := base) k29 b29 g29 (ok_checkRows F29 B2 B1 Mo D6 D22)
  have D30 := Has.mk (P := l.prog) (w := w) (mg := mg) (base := base) k30 b30 g30 (ok_checkFollowing F30 D29 D22)
  have D31 := Has.mk (P := l.prog) (w := w) (mg := mg) (base := base) k31 b31 g31 (ok_whole F31 B2 D7)
  have D32 := Has.mk (P := l.prog) (w := w) (mg := mg) (base := base) k32 b32 g32 (ok_columnOf F32)
  have D33 := Has.mk (P := l.prog) (w := w) (mg := mg) (base := base) k33 b33 g33 (ok_restColumn F33)
  have D34 := Has.mk (P := l.prog) (w := w) (mg := mg) (base := base) k34 b34 g34 (ok_valueAt F34 B2 D9 D11)
  have D35 := Has.mk (P := l.prog) (w := w) (mg := mg) (base := base) k35 b35 g35 (ok_turned F35 N D10)
  have D36 := Has.mk (P := l.prog) (w := w) (mg := mg) (base := base) k36 b36 g36 (ok_spotOf F36 D35 D12)
  have D37 := Has.mk (P := l.prog) (w := w) (mg := mg) (base := base) k37 b37 g37 (ok_someSpot F37 D32 D33 D20 D36)
  have D38 := Has.mk (P := l.prog) (w := w) (mg := mg) (base := base) k38 b38 g38 (ok_along F38 B2 N D34 D10 D9 D11 D12 D13)
  have D39 := Has.mk (P := l.prog) (w := w) (mg := mg) (base := base) k39 b39 g39 (ok_quick F39 B2)
  have D40 := Has.mk (P := l.prog) (w := w) (mg := mg) (base := base) k40 b40 g40 (ok_told F40 B2 Wo N D39 D32 D33 D20 D31 D37 D35 D13 D12 D38)
  have D41 := Has.mk (P := l.prog) (w := w) (mg := mg) (base := base) k41 b41 g41 (ok_follows F41 D30 D40)
  have D42 := Has.mk (P := l.prog) (w := w) (mg := mg) (base := base) k42 b42 g42 (ok_areT F42 B2 B1 D5)
  have D43 := Has.mk (P := l.prog) (w := w) (mg := mg) (base := base) k43 b43 g43 (ok_total F43 B2 D32)
  have D44 := Has.mk (P := l.prog) (w := w) (mg := mg) (base := base) k44 b44 g44 (ok_come F44 B2 D43 D32)
  have D45 := Has.mk (P := l.prog) (w := w) (mg := mg) (base := base) k45 b45 g45 (ok_comeN F45 D43)
  have D34T := Has.mk (P := l.prog) (w := w) (mg := mg) (base := base) k34 b34 g34 (ok_valueAtT F34 B2 D9 D11)
  have D46 := Has.mk (P := l.prog) (w := w) (mg := mg) (base := base) k46 b46 g46 (ok_shows F46 B2 B1 (PySem.W.mg_none_of X G z_any) (PySem.W.mg_none_of X G z_str) Wo N D30 D5 D42 D44 D45 D14 D13 D34T)
  have D47 := Has.mk (P := l.prog) (w := w) (mg := mg) (base := base) k47 b47 g47 (ok_holds F47 B2 D29 D37)
  have D39Z := Has.mk (P := l.prog) (w := w) (mg := mg) (base := base) k39 b39 g39 (ok_quickZ F39 B2)
  have D40Z := Has.mk (P := l.prog) (w := w) (mg := mg) (base := base) k40 b40 g40 (ok_toldZ F40 Wo D39Z)
  have D41Z := Has.mk (P := l.prog) (w := w) (mg := mg) (base := base) k41 b41 g41 (ok_folZ F41 D30 D40Z)
  have D22D := Has.mk (P := l.prog) (w := w) (mg := mg) (base := base) k22 b22 g22 (ok_isRowD F22 B2 B1 D5)
  have X29 := HasX.mk (P := l.prog) (w := w) (mg := mg) (base := base) k29 b29 g29 (ok_ckX F29 B2 B1 Mo ET U1 (PySem.W.mg_of X G e1) D6 D22D)
  have X30 := HasX.mk (P := l.prog) (w := w) (mg := mg) (base := base) k30 b30 g30 (ok_cfX F30 ET U2 (PySem.W.mg_of X G e2) D29 X29 D22D)
  have X41 := HasX.mk (P := l.prog) (w := w) (mg := mg) (base := base) k41 b41 g41 (ok_folX F41 X30)
  have X46 := HasX.mk (P := l.prog) (w := w) (mg := mg) (base := base) k46 b46 g46 (ok_shX F46 X30)
  have X47 := HasX.mk (P := l.prog) (w := w) (mg := mg) (base := base) k47 b47 g47 (ok_hoX F47 X29)
  have D49 := Has.mk (P := l.prog) (w := w) (mg := mg) (base := base) k49 b49 g49 (ok_pot F49 B2 B3)
  have D50 := Has.mk (P := l.prog) (w := w) (mg := mg) (base := base) k50 b50 g50 (ok_take F50 B2)
  have D51 := Has.mk (P := l.prog) (w := w) (mg := mg) (base := base) k51 b51 g51 (ok_lawOf F51 B2 D50)
  have D52 := Has.mk (P := l.prog) (w := w) (mg := mg) (base := base) k52 b52 g52 (ok_cells F52 B2 B3)
  have F54C : FunC K "_law_are_refused" "_law_are_refused" (top 54) f54 _ (.ref cR) := ⟨_, _, _, _, _, _, _, _, rfl, l54, c54⟩
  have D54 := HasG.mk (P := l.prog) (w := w) (mg := mg) (base := base) k54 b54 g54 (ok_ref F54C TB B2 (PySem.W.mg_none_of X G z_repr) D50 D51 F53 g53 k53 b53 UH D41 D41Z D47 D46 X41 X46 X47)
  exact ok_law F55 B2 D52 D49 D54
theorem walk {l : PySem.W.OpenLaw} {q : Program} {loose : List Str} {XP : (Str → Option Value) → Heap → Prop} {YP : World → Heap → Prop} {d : DefRec} {K : Params → PySem.W.Frag} {T : Addr} (hn : l.most = some 63) (hdf : d.params.defaults = []) (hY : ∀ (w : World) (h : Heap), YP w h → (K w.params).In h) (hT : ∀ (w : World) (h : Heap), YP w h → h.get? T = some (PySem.W.tabObj #[]))
    (F : ∀ (w : World) (mg : Str → Option Value) (fa : Addr) (h : Heap), (K w.params).In h → h.Ns mainGlobals mg → mg d.name = some (.ref fa) → ∃ (fd : FuncData) (cR : Addr), (K w.params).lookup T = none ∧ PySem.W.codeHdIn (K w.params) cR T = true ∧ (∀ (s : Shared) (u : Value), BindsTo s fd ⟨[u], []⟩ [("script", u)]) ∧ ∀ base : Heap, (K w.params).In base → base.Ns mainGlobals mg → TabB base mg cR T → FnG l.prog w (K w.params) mg base 14 fa fd ["script"] (spLaw (K w.params) T)) :
    PySem.W.WalkO q loose XP YP l.row.toRowW d [] (fun f vs => PySem.call f vs) :=
  walkGT (n := 63) (k := 14) (x := "script") hn (by decide) hdf ⟨rfl, by decide, by decide⟩ hY hT F (by decide)
end EW
set_option Elab.async false
set_option linter.all false
open PySem PySem.W PyProof.Rows in
set_option maxRecDepth 100000 in
set_option maxHeartbeats 0 in
theorem PySem.Challenge.cw_endsorever_k18_what_following_refuses_holds : PySem.Challenge.rw_endsorever_k18_what_following_refuses.Holds := by
  w_on; o_law; k_head; (case hw => w_witness2)
  k_fill
  refine EW.walk (l := PySem.Challenge.rw_endsorever_k18_what_following_refuses) rfl rfl (fun w h Y => PySem.W.km_in_of Y) (fun w h Y => PySem.W.km_tabs_of Y _ (List.Mem.head _)) ?F
  case F =>
    intro w mg fa h KX G hmg
    refine' EW.all_mk KX G hmg ?hfile ?topS ?a5 ?l5 ?c5 ?k5 ?a6 ?l6 ?c6 ?k6 ?a7 ?l7 ?c7 ?k7 ?a8 ?l8 ?c8 ?k8 ?a9 ?l9 ?c9 ?k9 ?a10 ?l10 ?c10 ?k10 ?a11 ?l11 ?c11 ?k11 ?a12 ?l12 ?c12 ?k12 ?a13 ?l13 ?c13 ?k13 ?a14 ?l14 ?c14 ?k14 ?a19 ?l19 ?c19 ?k19 ?a20 ?l20 ?c20 ?k20 ?a22 ?l22 ?c22 ?k22 ?a29 ?l29 ?c29 ?k29 ?a30 ?l30 ?c30 ?k30 ?a31 ?l31 ?c31 ?k31 ?a32 ?l32 ?c32 ?k32 ?a33 ?l33 ?c33 ?k33 ?a34 ?l34 ?c34 ?k34 ?a35 ?l35 ?c35 ?k35 ?a36 ?l36 ?c36 ?k36 ?a37 ?l37 ?c37 ?k37 ?a38 ?l38 ?c38 ?k38 ?a39 ?l39 ?c39 ?k39 ?a40 ?l40 ?c40 ?k40 ?a41 ?l41 ?c41 ?k41 ?a42 ?l42 ?c42 ?k42 ?a43 ?l43 ?c43 ?k43 ?a44 ?l44 ?c44 ?k44 ?a45 ?l45 ?c45 ?k45 ?a46 ?l46 ?c46 ?k46 ?a47 ?l47 ?c47 ?k47 ?a49 ?l49 ?c49 ?k49 ?a50 ?l50 ?c50 ?k50 ?a51 ?l51 ?c51 ?k51 ?a52 ?l52 ?c52 ?k52 ?a53 ?l53 ?c53 ?k53 ?a54 ?l54 ?c54 ?k54 ?hd54 ?nT ?a55 ?l55 ?c55 ?k55 ?aC ?a100 ?i100 ?l100 ?c100 ?k100 ?a101 ?i101 ?l101 ?c101 ?k101 ?a102 ?i102 ?l102 ?c102 ?k102 ?a103 ?i103 ?l103 ?c103 ?k103 ?a104 ?i104 ?l104 ?c104 ?k104 ?a105 ?i105 ?l105 ?c105 ?k105 ?a106 ?i106 ?l106 ?c106 ?k106 ?a107 ?i107 ?l107 ?c107 ?k107 ?a108 ?i108 ?l108 ?c108 ?k108 ?a109 ?i109 ?l109 ?c109 ?k109 ?pg ?hd ?po ?sa ?mk ?kc ?n0 ?n1 ?n2 ?n3 ?n4 ?n5 ?aN ?lN ?aO ?lO ?gT ?gV ?gS ?gC ?gR ?eD ?e1 ?e2 ?i1 ?lI ?cI ?lcd ?v2 ?lcell ?cD ?z_super ?opq ?tI ?hn ?ht ?lC1 ?rv1 ?sa1 ?nv1 ?kC1 ?ex1 ?ty1 ?sD1 ?sI1 ?sV1 ?hg1 ?hk1 ?hdc1 ?ha1 ?hm1 ?xm1 ?lC2 ?rv2 ?sa2 ?nv2 ?i2 ?kC2 ?ex2 ?ty2 ?sD2 ?sI2 ?sV2 ?hg2 ?hk2 ?hdc2 ?ha2 ?hm2 ?xm2 ?kt11 ?kt12 ?kt21 ?kt22 ?z_isinstance ?z_int ?z_bool ?z_abs ?z_len ?z_range ?z_zip ?z_enumerate ?z_all ?z_tuple ?z_list ?z_max ?z_min ?z_sum ?z_any ?z_str ?z_repr
    (case a5 => k_is)
    (case l5 => k_is)
    (case c5 => k_is)
    (case k5 => k_is)
    (case a6 => k_is)
    (case l6 => k_is)
    (case c6 => k_is)
    (case k6 => k_is)
    (case a7 => k_is)
    (case l7 => k_is)
    (case c7 => k_is)
    (case k7 => k_is)
    (case a8 => k_is)
    (case l8 => k_is)
    (case c8 => k_is)
    (case k8 => k_is)
    (case a9 => k_is)
    (case l9 => k_is)
    (case c9 => k_is)
    (case k9 => k_is)
    (case a10 => k_is)
    (case l10 => k_is)
    (case c10 => k_is)
    (case k10 => k_is)
    (case a11 => k_is)
    (case l11 => k_is)
    (case c11 => k_is)
    (case k11 => k_is)
    (case a12 => k_is)
    (case l12 => k_is)
    (case c12 => k_is)
    (case k12 => k_is)
    (case a13 => k_is)
    (case l13 => k_is)
    (case c13 => k_is)
    (case k13 => k_is)
    (case a14 => k_is)
    (case l14 => k_is)
    (case c14 => k_is)
    (case k14 => k_is)
    (case a19 => k_is)
    (case l19 => k_is)
    (case c19 => k_is)
    (case k19 => k_is)
    (case a20 => k_is)
    (case l20 => k_is)
    (case c20 => k_is)
    (case k20 => k_is)
    (case a22 => k_is)
    (case l22 => k_is)
    (case c22 => k_is)
    (case k22 => k_is)
    (case a29 => k_is)
    (case l29 => k_is)
    (case c29 => k_is)
    (case k29 => k_is)
    (case a30 => k_is)
    (case l30 => k_is)
    (case c30 => k_is)
    (case k30 => k_is)
    (case a31 => k_is)
    (case l31 => k_is)
    (case c31 => k_is)
    (case k31 => k_is)
    (case a32 => k_is)
    (case l32 => k_is)
    (case c32 => k_is)
    (case k32 => k_is)
    (case a33 => k_is)
    (case l33 => k_is)
    (case c33 => k_is)
    (case k33 => k_is)
    (case a34 => k_is)
    (case l34 => k_is)
    (case c34 => k_is)
    (case k34 => k_is)
    (case a35 => k_is)
    (case l35 => k_is)
    (case c35 => k_is)
    (case k35 => k_is)
    (case a36 => k_is)
    (case l36 => k_is)
    (case c36 => k_is)
    (case k36 => k_is)
    (case a37 => k_is)
    (case l37 => k_is)
    (case c37 => k_is)
    (case k37 => k_is)
    (case a38 => k_is)
    (case l38 => k_is)
    (case c38 => k_is)
    (case k38 => k_is)
    (case a39 => k_is)
    (case l39 => k_is)
    (case c39 => k_is)
    (case k39 => k_is)
    (case a40 => k_is)
    (case l40 => k_is)
    (case c40 => k_is)
    (case k40 => k_is)
    (case a41 => k_is)
    (case l41 => k_is)
    (case c41 => k_is)
    (case k41 => k_is)
    (case a42 => k_is)
    (case l42 => k_is)
    (case c42 => k_is)
    (case k42 => k_is)
    (case a43 => k_is)
    (case l43 => k_is)
    (case c43 => k_is)
    (case k43 => k_is)
    (case a44 => k_is)
    (case l44 => k_is)
    (case c44 => k_is)
    (case k44 => k_is)
    (case a45 => k_is)
    (case l45 => k_is)
    (case c45 => k_is)
    (case k45 => k_is)
    (case a46 => k_is)
    (case l46 => k_is)
    (case c46 => k_is)
    (case k46 => k_is)
    (case a47 => k_is)
    (case l47 => k_is)
    (case c47 => k_is)
    (case k47 => k_is)
    (case a49 => k_is)
    (case l49 => k_is)
    (case c49 => k_is)
    (case k49 => k_is)
    (case a50 => k_is)
    (case l50 => k_is)
    (case c50 => k_is)
    (case k50 => k_is)
    (case a51 => k_is)
    (case l51 => k_is)
    (case c51 => k_is)
    (case k51 => k_is)
    (case a52 => k_is)
    (case l52 => k_is)
    (case c52 => k_is)
    (case k52 => k_is)
    (case a53 => k_is)
    (case l53 => k_is)
    (case c53 => k_is)
    (case k53 => k_is)
    (case a54 => k_is)
    (case l54 => k_is)
    (case c54 => k_is)
    (case k54 => k_is)
    (case hd54 => kernel_rfl)
    (case nT => kernel_rfl)
    (case a55 => k_is)
    (case l55 => k_is)
    (case c55 => k_is)
    (case k55 => k_is)
    (case aC => k_is)
    (case a100 => k_is)
    (case i100 => k_is)
    (case l100 => k_is)
    (case c100 => k_is)
    (case k100 => k_is)
    (case a101 => k_is)
    (case i101 => k_is)
    (case l101 => k_is)
    (case c101 => k_is)
    (case k101 => k_is)
    (case a102 => k_is)
    (case i102 => k_is)
    (case l102 => k_is)
    (case c102 => k_is)
    (case k102 => k_is)
    (case a103 => k_is)
    (case i103 => k_is)
    (case l103 => k_is)
    (case c103 => k_is)
    (case k103 => k_is)
    (case a104 => k_is)
    (case i104 => k_is)
    (case l104 => k_is)
    (case c104 => k_is)
    (case k104 => k_is)
    (case a105 => k_is)
    (case i105 => k_is)
    (case l105 => k_is)
    (case c105 => k_is)
    (case k105 => k_is)
    (case a106 => k_is)
    (case i106 => k_is)
    (case l106 => k_is)
    (case c106 => k_is)
    (case k106 => k_is)
    (case a107 => k_is)
    (case i107 => k_is)
    (case l107 => k_is)
    (case c107 => k_is)
    (case k107 => k_is)
    (case a108 => k_is)
    (case i108 => k_is)
    (case l108 => k_is)
    (case c108 => k_is)
    (case k108 => k_is)
    (case a109 => k_is)
    (case i109 => k_is)
    (case l109 => k_is)
    (case c109 => k_is)
    (case k109 => k_is)
    (case pg => k_is)
    (case hd => k_is)
    (case po => k_is)
    (case sa => k_is)
    (case mk => k_is)
    (case kc => k_is)
    (case n0 => k_is)
    (case n1 => k_is)
    (case n2 => k_is)
    (case n3 => k_is)
    (case n4 => k_is)
    (case n5 => k_is)
    (case aN => k_is)
    (case lN => k_is)
    (case aO => k_is)
    (case lO => k_is)
    (case gT => k_is)
    (case gV => k_is)
    (case gS => k_is)
    (case gC => k_is)
    (case gR => k_is)
    (case eD => k_is)
    (case e1 => k_is)
    (case e2 => k_is)
    (case i1 => k_is)
    (case lI => k_is)
    (case cI => k_is)
    (case lcd => k_is)
    (case v2 => rfl)
    (case lcell => k_is)
    (case cD => k_is)
    (case z_super => k_is)
    (case opq => k_is)
    (case tI => k_is)
    (case hn => k_is)
    (case ht => k_is)
    (case lC1 => k_is)
    (case rv1 => kernel_rfl)
    (case sa1 => k_is)
    (case nv1 => k_is)
    (case kC1 => k_is)
    (case ex1 => k_is)
    (case ty1 => k_is)
    (case sD1 => k_is)
    (case sI1 => kernel_rfl)
    (case sV1 => k_is)
    (case hg1 => k_is)
    (case hk1 => k_is)
    (case hdc1 => k_is)
    (case ha1 => k_is)
    (case hm1 => k_is)
    (case xm1 => kernel_rfl)
    (case lC2 => k_is)
    (case rv2 => kernel_rfl)
    (case sa2 => k_is)
    (case nv2 => k_is)
    (case i2 => k_is)
    (case kC2 => k_is)
    (case ex2 => k_is)
    (case ty2 => k_is)
    (case sD2 => k_is)
    (case sI2 => kernel_rfl)
    (case sV2 => k_is)
    (case hg2 => k_is)
    (case hk2 => k_is)
    (case hdc2 => k_is)
    (case ha2 => k_is)
    (case hm2 => k_is)
    (case xm2 => kernel_rfl)
    (case kt11 => kernel_rfl)
    (case kt12 => kernel_rfl)
    (case kt21 => kernel_rfl)
    (case kt22 => kernel_rfl)
    (case z_isinstance => k_is)
    (case z_int => k_is)
    (case z_bool => k_is)
    (case z_abs => k_is)
    (case z_len => k_is)
    (case z_range => k_is)
    (case z_zip => k_is)
    (case z_enumerate => k_is)
    (case z_all => k_is)
    (case z_tuple => k_is)
    (case z_list => k_is)
    (case z_max => k_is)
    (case z_min => k_is)
    (case z_sum => k_is)
    (case z_any => k_is)
    (case z_str => k_is)
    (case z_repr => k_is)
    (case hfile => first | rfl | kernel_rfl | decide +kernel)
    (case topS => first | rfl | kernel_rfl | decide +kernel)
