import PyProof.Rows.All
import Wide.All
import OpenK.AllK
import Wide.FinOn
import HandS.ForMost
import HandS.Wide
import HandS.IsInst
import HandS.Evl
import HandS.Zip
import HandS.TupAny
import HandS.Star
import PySem.Challenge.RW_astherulessay_k32_whole_matrices_of_two
import HandS.Walk
import KE.DatumOrd
import HandS.Steps
import KE.GoesMore
import PyProof.Draws
import PyProof.EnumMake
import PyProof.ZipIter
import HandS.Zip0
import KE.KDictZip
import PyProof.ListNew
import HandS.DictTup
import HandS.Conv
import HandS.TupLe
import HandS.FStrTup
import HandS.Style
set_option Elab.async false
set_option linter.all false
section
set_option maxHeartbeats 4000000
/-! Finite sums of rationals, and tableaus with their turns (pivots). Plain Lean, no program in sight. -/
namespace Sx
/-- the sum of f 0 .. f (n - 1) -/
def sm : Nat → (Nat → Rat) → Rat
  | 0, _ => 0
  | n + 1, f => sm n f + f n
theorem sm_congr {n : Nat} {f g : Nat → Rat} (h : ∀ i, i < n → f i = g i) : sm n f = sm n g := by
  induction n with
  | zero => rfl
  | succ n ih => simp only [sm]; rw [ih fun i hi => h i (by omega), h n (by omega)]
theorem sm_add (n : Nat) (f g : Nat → Rat) : sm n (fun i => f i + g i) = sm n f + sm n g := by
  induction n with
  | zero => simp only [sm]; grind
  | succ n ih => simp only [sm]; rw [ih]; grind
theorem sm_sub (n : Nat) (f g : Nat → Rat) : sm n (fun i => f i - g i) = sm n f - sm n g := by
  induction n with
  | zero => simp only [sm]; grind
  | succ n ih => simp only [sm]; rw [ih]; grind
theorem sm_mul (n : Nat) (c : Rat) (f : Nat → Rat) : sm n (fun i => c * f i) = c * sm n f := by
  induction n with
  | zero => simp only [sm]; grind
  | succ n ih => simp only [sm]; rw [ih]; grind
theorem sm_mul_r (n : Nat) (c : Rat) (f : Nat → Rat) : sm n (fun i => f i * c) = sm n f * c := by
  induction n with
  | zero => simp only [sm]; grind
  | succ n ih => simp only [sm]; rw [ih]; grind
theorem sm_zero (n : Nat) {f : Nat → Rat} (h : ∀ i, i < n → f i = 0) : sm n f = 0 := by
  induction n with
  | zero => rfl
  | succ n ih => simp only [sm]; rw [ih fun i hi => h i (by omega), h n (by omega)]; grind
theorem sm_comm (n k : Nat) (f : Nat → Nat → Rat) : sm n (fun i => sm k (fun j => f i j)) = sm k (fun j => sm n (fun i => f i j)) := by
  induction n with
  | zero => simp only [sm]; exact (sm_zero k fun _ _ => rfl).symm
  | succ n ih => simp only [sm]; rw [ih, sm_add]
theorem sm_one {n : Nat} {f : Nat → Rat} {r : Nat} (hr : r < n) (h : ∀ i, i < n → i ≠ r → f i = 0) : sm n f = f r := by
  induction n with
  | zero => omega
  | succ n ih =>
    simp only [sm]
    by_cases e : r = n
    · subst e
      rw [sm_zero r fun i hi => h i (by omega) (by omega)]
      grind
    · rw [ih (by omega) fun i hi => h i (by omega), h n (by omega) (fun q => e q.symm)]
      grind
theorem sm_le {n : Nat} {f g : Nat → Rat} (h : ∀ i, i < n → f i ≤ g i) : sm n f ≤ sm n g := by
  induction n with
  | zero => simp only [sm]; grind
  | succ n ih =>
    have a := ih fun i hi => h i (by omega)
    have b := h n (by omega)
    simp only [sm]
    grind
theorem sm_nonneg {n : Nat} {f : Nat → Rat} (h : ∀ i, i < n → 0 ≤ f i) : 0 ≤ sm n f := by
  have := sm_le (n := n) (f := fun _ => 0) (g := f) h
  rw [sm_zero n fun _ _ => rfl] at this
  exact this
theorem sm_pos {n : Nat} {f : Nat → Rat} (h : 0 < sm n f) : ∃ i, i < n ∧ 0 < f i := by
  induction n with
  | zero => simp only [sm] at h; grind
  | succ n ih =>
    simp only [sm] at h
    by_cases e : 0 < f n
    · exact ⟨n, by omega, e⟩
    · obtain ⟨i, hi, q⟩ := ih (by grind)
      exact ⟨i, by omega, q⟩
theorem sm_ge {n : Nat} {f : Nat → Rat} (h : ∀ i, i < n → 0 ≤ f i) {r : Nat} (hr : r < n) : f r ≤ sm n f := by
  induction n with
  | zero => omega
  | succ n ih =>
    simp only [sm]
    have a := sm_nonneg (n := n) fun i hi => h i (by omega)
    have b := h n (by omega)
    by_cases e : r = n
    · subst e; grind
    · have := ih (fun i hi => h i (by omega)) (by omega)
      grind
theorem sm_split (n k : Nat) (f : Nat → Rat) : sm (n + k) f = sm n f + sm k (fun i => f (n + i)) := by
  induction k with
  | zero => simp only [sm, Nat.add_zero]; grind
  | succ k ih => rw [← Nat.add_assoc]; simp only [sm]; rw [ih]; grind
/-- the sum without one -/
theorem sm_put {n r : Nat} (hr : r < n) (f : Nat → Rat) : sm n f = sm n (fun i => if i = r then 0 else f i) + f r := by
  have a : sm n f = sm n (fun i => (if i = r then 0 else f i) + (if i = r then f r else 0)) := by
    apply sm_congr
    intro i _
    by_cases e : i = r
    · rw [if_pos e, if_pos e, e]; grind
    · rw [if_neg e, if_neg e]; grind
  rw [a, sm_add, sm_one (f := fun i => if i = r then f r else 0) hr (by intro i _ h; exact if_neg h), if_pos rfl]

/-! ### tableaus: rows 0 .. n - 1 and the last row n; the place `base i` stands for in row i -/
/-- the turn at row r, column s -/
def pv (R : Nat → Nat → Rat) (r s : Nat) (i j : Nat) : Rat := if i = r then R r j / R r s else R i j - R i s * (R r j / R r s)
def pb (b : Nat → Nat) (r s : Nat) (i : Nat) : Nat := if i = r then s else b i
/-- R, with base b, is of the lot of R0 (n rows, slacks from place m on) -/
structure Lot (R0 : Nat → Nat → Rat) (n m : Nat) (R : Nat → Nat → Rat) (b : Nat → Nat) : Prop where
  lt : ∀ i, i < n → b i < m + n
  one : ∀ i k, i ≤ n → k < n → R i (b k) = if i = k then 1 else 0
  of : ∀ i j, i ≤ n → R i j = (if i = n then R0 n j else 0) + sm n (fun k => R i (m + k) * R0 k j)
  back : ∀ k j, k < n → R0 k j = sm n (fun i => R0 k (b i) * R i j)
/-- the first one: slacks are the base -/
structure Begin (R0 : Nat → Nat → Rat) (n m : Nat) : Prop where
  unit : ∀ i k, i ≤ n → k < n → R0 i (m + k) = if i = k then 1 else 0
theorem Begin.lot {R0 : Nat → Nat → Rat} {n m : Nat} (h : Begin R0 n m) : Lot R0 n m R0 (fun i => m + i) where
  lt := fun i hi => by omega
  one := h.unit
  of := fun i j hi => by
    by_cases e : i = n
    · rw [if_pos e, sm_zero n fun k hk => by rw [h.unit i k hi hk, if_neg (by omega)]; grind]
      rw [e]; grind
    · rw [if_neg e, sm_one (r := i) (by omega) fun k hk hne => by rw [h.unit i k hi hk, if_neg (by omega)]; grind]
      rw [h.unit i i hi (by omega), if_pos rfl]; grind
  back := fun k j hk => by
    rw [sm_one (r := k) hk fun i hi hne => by rw [h.unit k i (by omega) hi, if_neg (by omega)]; grind]
    rw [h.unit k k (by omega) hk, if_pos rfl]; grind
theorem Lot.inj {R0 : Nat → Nat → Rat} {n m : Nat} {R : Nat → Nat → Rat} {b : Nat → Nat} (h : Lot R0 n m R b) {i k : Nat} (hi : i < n) (hk : k < n) (e : b i = b k) : i = k := by
  have a := h.one i i (by omega) hi
  have c := h.one i k (by omega) hk
  rw [if_pos rfl] at a
  rw [← e, a] at c
  by_cases q : i = k
  · exact q
  · rw [if_neg q] at c
    grind
theorem Lot.turn {R0 : Nat → Nat → Rat} {n m : Nat} {R : Nat → Nat → Rat} {b : Nat → Nat} (h : Lot R0 n m R b) {r s : Nat} (hr : r < n) (hs : s < m + n) (hne : R r s ≠ 0) : Lot R0 n m (pv R r s) (pb b r s) where
  lt := fun i hi => by
    unfold pb
    split
    · exact hs
    · exact h.lt i hi
  one := fun i k hi hk => by
    unfold pv pb
    by_cases ek : k = r
    · subst ek
      by_cases ei : i = k
      · subst ei; simp only [if_pos]; grind
      · simp only [if_pos, if_neg ei]; grind
    · have z : R r (b k) = 0 := by rw [h.one r k (by omega) hk, if_neg (fun q => ek q.symm)]
      simp only [if_neg ek]
      rw [z]
      by_cases ei : i = r
      · subst ei
        rw [if_pos rfl, if_neg (fun q => ek q.symm)]; grind
      · rw [if_neg ei, h.one i k hi hk]; grind
  of := fun i j hi => by
    have ro := h.of r j (by omega)
    rw [if_neg (by omega : ¬ r = n)] at ro
    have io := h.of i j hi
    by_cases ei : i = r
    · subst ei
      rw [if_neg (by omega : ¬ i = n)]
      have e : ∀ k, pv R i s i (m + k) * R0 k j = (1 / R i s) * (R i (m + k) * R0 k j) := fun k => by
        unfold pv; rw [if_pos rfl]; grind
      rw [sm_congr fun k _ => e k, sm_mul]
      unfold pv
      rw [if_pos rfl]
      grind
    · have e : ∀ k, pv R r s i (m + k) * R0 k j = R i (m + k) * R0 k j - (R i s / R r s) * (R r (m + k) * R0 k j) := fun k => by
        unfold pv; rw [if_neg ei]; grind
      rw [sm_congr fun k _ => e k, sm_sub, sm_mul]
      unfold pv
      rw [if_neg ei]
      grind
  back := fun k j hk => by
    have e1 : ∀ i, i < n → R0 k (pb b r s i) * pv R r s i j = (if i = r then 0 else R0 k (b i) * R i j - (R0 k (b i) * R i s) * (R r j / R r s)) + (if i = r then R0 k s * (R r j / R r s) else 0) := fun i _ => by
      unfold pb pv
      by_cases ei : i = r
      · simp only [if_pos ei]; grind
      · simp only [if_neg ei]; grind
    rw [sm_congr e1, sm_add, sm_one (f := fun i => if i = r then R0 k s * (R r j / R r s) else 0) hr (by intro i _ q; exact if_neg q), if_pos rfl]
    have e2 : sm n (fun i => if i = r then 0 else R0 k (b i) * R i j - (R0 k (b i) * R i s) * (R r j / R r s))
        = sm n (fun i => if i = r then 0 else R0 k (b i) * R i j) - sm n (fun i => if i = r then 0 else R0 k (b i) * R i s) * (R r j / R r s) := by
      rw [← sm_mul_r, ← sm_sub]
      apply sm_congr
      intro i _
      by_cases ei : i = r
      · simp only [if_pos ei]; grind
      · simp only [if_neg ei]
    rw [e2]
    have a := sm_put hr (fun i => R0 k (b i) * R i j)
    have c := sm_put hr (fun i => R0 k (b i) * R i s)
    rw [← h.back k j hk] at a
    rw [← h.back k s hk] at c
    grind
/-- two of one lot: the last row of one by the rows of the other -/
theorem Lot.last {R0 : Nat → Nat → Rat} {n m : Nat} {R R' : Nat → Nat → Rat} {b b' : Nat → Nat} (h : Lot R0 n m R b) (h' : Lot R0 n m R' b') (j : Nat) : R' n j = R n j + sm n (fun i => R' n (b i) * R i j) := by
  -- the difference of both last rows is a sum of first rows, so of rows of R
  have d : ∀ j, R' n j - R n j = sm n (fun k => (R' n (m + k) - R n (m + k)) * R0 k j) := fun j => by
    rw [h'.of n j (Nat.le_refl n), h.of n j (Nat.le_refl n), if_pos rfl, sm_congr (f := fun k => (R' n (m + k) - R n (m + k)) * R0 k j) (g := fun k => R' n (m + k) * R0 k j - R n (m + k) * R0 k j) (fun k _ => by grind), sm_sub]
    grind
  have e : R' n j - R n j = sm n (fun i => (R' n (b i) - R n (b i)) * R i j) := by
    rw [d j, sm_congr (f := fun k => (R' n (m + k) - R n (m + k)) * R0 k j) (g := fun k => sm n (fun i => (R' n (m + k) - R n (m + k)) * (R0 k (b i) * R i j))) (fun k hk => by rw [h.back k j hk, ← sm_mul]),
      sm_comm]
    apply sm_congr
    intro i _
    rw [d (b i), ← sm_mul_r]
    apply sm_congr
    intro k _
    grind
  have f : sm n (fun i => (R' n (b i) - R n (b i)) * R i j) = sm n (fun i => R' n (b i) * R i j) := by
    apply sm_congr
    intro i hi
    rw [h.one n i (Nat.le_refl n) hi, if_neg (by omega)]
    grind
  rw [f] at e
  grind
/-- rows are told by the base: two of one lot with one base are one -/
theorem Lot.row {R0 : Nat → Nat → Rat} {n m : Nat} {R R' : Nat → Nat → Rat} {b b' : Nat → Nat} (h : Lot R0 n m R b) (h' : Lot R0 n m R' b') {i : Nat} (hi : i < n) (j : Nat) : R' i j = sm n (fun l => R' i (b l) * R l j) := by
  have d : ∀ j, R' i j = sm n (fun k => R' i (m + k) * R0 k j) := fun j => by
    rw [h'.of i j (by omega), if_neg (by omega)]; grind
  rw [d j, sm_congr (f := fun k => R' i (m + k) * R0 k j) (g := fun k => sm n (fun l => R' i (m + k) * (R0 k (b l) * R l j))) (fun k hk => by rw [h.back k j hk, ← sm_mul]), sm_comm]
  apply sm_congr
  intro l _
  rw [d (b l), ← sm_mul_r]
  apply sm_congr
  intro k _
  grind
theorem Lot.same {R0 : Nat → Nat → Rat} {n m : Nat} {R R' : Nat → Nat → Rat} {b b' : Nat → Nat} (h : Lot R0 n m R b) (h' : Lot R0 n m R' b') (e : ∀ i, i < n → b i = b' i) (i j : Nat) (hi : i ≤ n) : R' i j = R i j := by
  by_cases en : i = n
  · subst en
    rw [h.last h' j, sm_zero i fun k hk => by rw [e k hk, h'.one i k (by omega) hk, if_neg (by omega)]; grind]
    grind
  · rw [h.row h' (by omega : i < n) j, sm_one (r := i) (by omega) fun k hk hne => by rw [e k hk, h'.one i k hi hk, if_neg (fun q => hne q.symm)]; grind]
    rw [e i (by omega), h'.one i i hi (by omega), if_pos rfl]
    grind
end Sx
end
section
set_option maxHeartbeats 4000000
/-! Corners: steps by the least index, each lot of bases at most once (so they end). -/
namespace Sx
abbrev St := (Nat → Nat → Rat) × (Nat → Nat)
/-- the right side stands in column N = m + n -/
structure Feas (n N : Nat) (R : Nat → Nat → Rat) : Prop where
  ge : ∀ i, i < n → 0 ≤ R i N
/-- the column that comes in, and the row that it takes -/
structure Goes (n N : Nat) (R : Nat → Nat → Rat) (b : Nat → Nat) (r s : Nat) : Prop where
  s_lt : s < N
  r_lt : r < n
  neg : R n s < 0
  first : ∀ j, j < s → 0 ≤ R n j
  pos : 0 < R r s
  least : ∀ i, i < n → 0 < R i s → R r N / R r s ≤ R i N / R i s
  tie : ∀ i, i < n → 0 < R i s → R r N / R r s = R i N / R i s → b r ≤ b i
theorem le_div_iff {a b c : Rat} (hc : 0 < c) : a ≤ b / c ↔ a * c ≤ b := by
  rw [← Rat.not_lt, Rat.div_lt_iff hc, Rat.not_lt]
theorem div_nonneg' {a b : Rat} (ha : 0 ≤ a) (hb : 0 < b) : 0 ≤ a / b := by
  rw [le_div_iff hb]; grind
theorem Goes.feas {n N : Nat} {R : Nat → Nat → Rat} {b : Nat → Nat} {r s : Nat} (g : Goes n N R b r s) (f : Feas n N R) : Feas n N (pv R r s) where
  ge := fun i hi => by
    have h0 := div_nonneg' (f.ge r g.r_lt) g.pos
    unfold pv
    split
    · exact h0
    · rename_i e
      by_cases q : 0 < R i s
      · have l := g.least i hi q
        rw [le_div_iff q] at l
        grind
      · have h1 := f.ge i hi
        have h2 : R i s * (R r N / R r s) ≤ 0 := by
          have := Rat.mul_nonneg (a := - R i s) (b := R r N / R r s) (by grind) h0
          grind
        grind
/-- one step -/
def Step (n N : Nat) (x y : St) : Prop := ∃ r s, Goes n N x.1 x.2 r s ∧ y = (pv x.1 r s, pb x.2 r s)
/-- k steps, one behind the other -/
structure Chain (R0 : Nat → Nat → Rat) (n m : Nat) (f : Nat → St) (k : Nat) : Prop where
  begin : (f 0).1 = R0
  base : ∀ i, i < n → (f 0).2 i = m + i
  step : ∀ i, i < k → Step n (m + n) (f i) (f (i + 1))
theorem Lot.base {R0 : Nat → Nat → Rat} {n m : Nat} {R : Nat → Nat → Rat} {b b' : Nat → Nat} (h : Lot R0 n m R b) (e : ∀ i, i < n → b' i = b i) : Lot R0 n m R b' where
  lt := fun i hi => by rw [e i hi]; exact h.lt i hi
  one := fun i k hi hk => by rw [e k hk]; exact h.one i k hi hk
  of := h.of
  back := fun k j hk => by rw [h.back k j hk]; exact sm_congr fun i hi => by rw [e i hi]
theorem Chain.lot {R0 : Nat → Nat → Rat} {n m : Nat} {f : Nat → St} {k : Nat} (c : Chain R0 n m f k) (h : Begin R0 n m) : ∀ i, i ≤ k → Lot R0 n m (f i).1 (f i).2 := by
  intro i
  induction i with
  | zero => intro _; rw [c.begin]; exact h.lot.base c.base
  | succ i ih =>
    intro hi
    obtain ⟨r, s, g, e⟩ := c.step i (by omega)
    rw [e]
    have p := g.pos
    exact (ih (by omega)).turn g.r_lt g.s_lt (by grind)
theorem Chain.feas {R0 : Nat → Nat → Rat} {n m : Nat} {f : Nat → St} {k : Nat} (c : Chain R0 n m f k) (h : Feas n (m + n) R0) : ∀ i, i ≤ k → Feas n (m + n) (f i).1 := by
  intro i
  induction i with
  | zero => intro _; rw [c.begin]; exact h
  | succ i ih =>
    intro hi
    obtain ⟨r, s, g, e⟩ := c.step i (by omega)
    rw [e]
    exact g.feas (ih (by omega))
theorem Chain.more {R0 : Nat → Nat → Rat} {n m : Nat} {f : Nat → St} {k : Nat} (c : Chain R0 n m f k) {x : St} (h : Step n (m + n) (f k) x) : ∃ g, Chain R0 n m g (k + 1) ∧ g (k + 1) = x := by
  refine ⟨fun i => if i ≤ k then f i else x, ⟨?_, fun i hi => ?_, fun i hi => ?_⟩, ?_⟩
  · show (if 0 ≤ k then f 0 else x).1 = _
    rw [if_pos (Nat.zero_le k)]; exact c.begin
  · show (if 0 ≤ k then f 0 else x).2 i = _
    rw [if_pos (Nat.zero_le k)]; exact c.base i hi
  · show Step n (m + n) (if i ≤ k then f i else x) (if i + 1 ≤ k then f (i + 1) else x)
    rw [if_pos (by omega)]
    by_cases e : i + 1 ≤ k
    · rw [if_pos e]; exact c.step i (by omega)
    · rw [if_neg e]
      have : i = k := by omega
      rw [this]; exact h
  · show (if k + 1 ≤ k then f (k + 1) else x) = x
    rw [if_neg (by omega)]
/-! ### a lot of bases that comes again -/
theorem Goes.nonbase {R0 : Nat → Nat → Rat} {n m N : Nat} {R : Nat → Nat → Rat} {b : Nat → Nat} {r s : Nat} (g : Goes n N R b r s) (h : Lot R0 n m R b) : ∀ i, i < n → b i ≠ s := fun i hi e => by
  have := h.one n i (Nat.le_refl n) hi
  rw [e, if_neg (by omega)] at this
  have := g.neg
  grind
/-- between two equal bases nothing is won -/
theorem Chain.still {R0 : Nat → Nat → Rat} {n m : Nat} {f : Nat → St} {k : Nat} (c : Chain R0 n m f k) (hb : Begin R0 n m) (hf : Feas n (m + n) R0) {p q : Nat} (hpq : p ≤ q) (hq : q ≤ k)
    (e : ∀ i, i < n → (f p).2 i = (f q).2 i) : ∀ i, p ≤ i → i < q → ∀ r s, Goes n (m + n) (f i).1 (f i).2 r s → f (i + 1) = (pv (f i).1 r s, pb (f i).2 r s) → (f i).1 r (m + n) = 0 := by
  -- the last row's right side never falls
  have up : ∀ d i, p ≤ i → i + d ≤ q → (f i).1 n (m + n) ≤ (f (i + d)).1 n (m + n) := by
    intro d
    induction d with
    | zero => intro i _ _; exact Rat.le_refl
    | succ d ih =>
      intro i h1 h2
      have a := ih i h1 (by omega)
      obtain ⟨r, s, g, e⟩ := c.step (i + d) (by omega)
      rw [← Nat.add_assoc, e]
      have fe := (c.feas hf (i + d) (by omega)).ge r g.r_lt
      have t := div_nonneg' fe g.pos
      show _ ≤ pv (f (i + d)).1 r s n (m + n)
      unfold pv
      have := g.r_lt
      rw [if_neg (by omega)]
      have := Rat.mul_nonneg (a := - (f (i + d)).1 n s) (b := (f (i + d)).1 r (m + n) / (f (i + d)).1 r s) (by have := g.neg; grind) t
      grind
  intro i h1 h2 r s g es
  have a := up (i - p) p (Nat.le_refl p) (by omega)
  have b := up (q - (i + 1)) (i + 1) (by omega) (by omega)
  rw [show p + (i - p) = i from by omega] at a
  rw [show i + 1 + (q - (i + 1)) = q from by omega] at b
  have s1 := (c.lot hb p (by omega)).same (c.lot hb q hq) e n (m + n) (Nat.le_refl n)
  rw [es] at b
  have fe := (c.feas hf i (by omega)).ge r g.r_lt
  have t := div_nonneg' fe g.pos
  have z : (pv (f i).1 r s) n (m + n) = (f i).1 n (m + n) - (f i).1 n s * ((f i).1 r (m + n) / (f i).1 r s) := by
    unfold pv
    have := g.r_lt
    rw [if_neg (by omega)]
  have w : (pv (f i).1 r s) n (m + n) ≤ (f q).1 n (m + n) := b
  rw [z] at w
  have ng := g.neg
  have ps := g.pos
  by_cases q0 : (f i).1 r (m + n) = 0
  · exact q0
  · have t2 : 0 < (f i).1 r (m + n) / (f i).1 r s := by
      rw [Rat.lt_div_iff ps]; grind
    have := Rat.mul_pos (a := - (f i).1 n s) (b := (f i).1 r (m + n) / (f i).1 r s) (by grind) t2
    grind
/-- what a place is worth at a corner: its row's right side, nothing outside the base; told as a relation -/
def ValOf (n N : Nat) (x : St) (v : Nat) (u : Rat) : Prop := (∃ i, i < n ∧ x.2 i = v ∧ u = x.1 i N) ∨ ((∀ i, i < n → x.2 i ≠ v) ∧ u = 0)
theorem val_ex (n N : Nat) (x : St) (v : Nat) : ∃ u, ValOf n N x v u := by
  by_cases h : ∃ i, i < n ∧ x.2 i = v
  · obtain ⟨i, hi, e⟩ := h
    exact ⟨_, .inl ⟨i, hi, e, rfl⟩⟩
  · exact ⟨0, .inr ⟨fun i hi e => h ⟨i, hi, e⟩, rfl⟩⟩
theorem val_step {R0 : Nat → Nat → Rat} {n m : Nat} {R : Nat → Nat → Rat} {b : Nat → Nat} {r s : Nat} (h : Lot R0 n m R b) (g : Goes n (m + n) R b r s) (z : R r (m + n) = 0) {v : Nat} {u : Rat}
    (hv : ValOf n (m + n) (R, b) v u) : ValOf n (m + n) (pv R r s, pb b r s) v u := by
  have keep : ∀ i, i ≠ r → pv R r s i (m + n) = R i (m + n) := fun i hi => by
    unfold pv; rw [if_neg hi, z]; grind
  have at_r : pv R r s r (m + n) = 0 := by
    unfold pv; rw [if_pos rfl, z]; grind
  rcases hv with ⟨i, hi, e, eu⟩ | ⟨no, eu⟩
  · by_cases er : i = r
    · subst er
      -- it leaves: nothing before, nothing behind
      refine .inr ⟨fun k hk q => ?_, eu.trans z⟩
      have q' : pb b i s k = v := q
      unfold pb at q'
      by_cases ek : k = i
      · rw [if_pos ek] at q'
        exact g.nonbase h i hi (e.trans q'.symm)
      · rw [if_neg ek] at q'
        exact ek (h.inj hk hi (q'.trans e.symm))
    · refine .inl ⟨i, hi, ?_, ?_⟩
      · show pb b r s i = v
        unfold pb; rw [if_neg er]; exact e
      · rw [eu]; exact (keep i er).symm
  · by_cases ev : v = s
    · refine .inl ⟨r, g.r_lt, ?_, ?_⟩
      · show pb b r s r = v
        unfold pb; rw [if_pos rfl]; exact ev.symm
      · rw [eu]; exact at_r.symm
    · refine .inr ⟨fun k hk q => ?_, eu⟩
      have q' : pb b r s k = v := q
      unfold pb at q'
      by_cases ek : k = r
      · rw [if_pos ek] at q'; exact ev q'.symm
      · rw [if_neg ek] at q'; exact no k hk q'
theorem val_one {R0 : Nat → Nat → Rat} {n m N : Nat} {x : St} (h : Lot R0 n m x.1 x.2) {v : Nat} {u w : Rat} (a : ValOf n N x v u) (c : ValOf n N x v w) : u = w := by
  rcases a with ⟨i, hi, e, eu⟩ | ⟨no, eu⟩ <;> rcases c with ⟨k, hk, f, ew⟩ | ⟨no', ew⟩
  · have := h.inj hi hk (e.trans f.symm)
    rw [eu, ew, this]
  · exact absurd e (no' i hi)
  · exact absurd f (no k hk)
  · rw [eu, ew]
/-- in the base at one time, not at another: then it comes in at some time between -/
theorem comes_in {P : Nat → Prop} : ∀ d p, (¬ P p) → P (p + d) → ∃ i, p ≤ i ∧ i < p + d ∧ ¬ P i ∧ P (i + 1) := by
  intro d
  induction d with
  | zero => intro p a b; exact absurd b a
  | succ d ih =>
    intro p a b
    by_cases q : P (p + d)
    · obtain ⟨i, h1, h2, h3⟩ := ih p a q
      exact ⟨i, h1, by omega, h3⟩
    · exact ⟨p + d, by omega, by omega, q, b⟩
theorem goes_out {P : Nat → Prop} (d p : Nat) (a : P p) (b : ¬ P (p + d)) : ∃ i, p ≤ i ∧ i < p + d ∧ P i ∧ ¬ P (i + 1) := by
  obtain ⟨i, h1, h2, h3, h4⟩ := comes_in (P := fun i => ¬ P i) d p (fun h => h a) b
  exact ⟨i, h1, h2, Classical.byContradiction h3, h4⟩
/-! ### the least index goes first: no base comes again -/
/-- the greatest of some numbers -/
theorem greatest {P : Nat → Prop} {t0 : Nat} (h0 : P t0) {M : Nat} (hM : ∀ t, P t → t < M) : ∃ t, P t ∧ ∀ u, P u → u ≤ t := by
  induction M with
  | zero => exact absurd (hM t0 h0) (by omega)
  | succ M ih =>
    by_cases e : P M
    · exact ⟨M, e, fun u hu => by have := hM u hu; omega⟩
    · exact ih fun t ht => by
        have := hM t ht
        have : t ≠ M := fun q => e (q ▸ ht)
        omega
def InBase (n : Nat) (x : St) (v : Nat) : Prop := ∃ i, i < n ∧ x.2 i = v
theorem Chain.new {R0 : Nat → Nat → Rat} {n m : Nat} {f : Nat → St} {k : Nat} (c : Chain R0 n m f k) (hb : Begin R0 n m) (hf : Feas n (m + n) R0) {p q : Nat} (hpq : p < q) (hq : q ≤ k) : ∃ i, i < n ∧ (f p).2 i ≠ (f q).2 i := by
  refine Classical.byContradiction fun no => ?_
  have e : ∀ i, i < n → (f p).2 i = (f q).2 i := fun i hi => Classical.byContradiction fun h => no ⟨i, hi, h⟩
  have still := c.still hb hf (Nat.le_of_lt hpq) hq e
  -- what is worth what stays
  have stays : ∀ v u, ValOf n (m + n) (f p) v u → ∀ d, p + d ≤ q → ValOf n (m + n) (f (p + d)) v u := by
    intro v u h0 d
    induction d with
    | zero => intro _; exact h0
    | succ d ih =>
      intro hd
      obtain ⟨r, s, g, es⟩ := c.step (p + d) (by omega)
      have := val_step (c.lot hb (p + d) (by omega)) g (still (p + d) (by omega) (by omega) r s g es) (ih (by omega))
      rw [← Nat.add_assoc, es]
      exact this
  have stay2 : ∀ i j, p ≤ i → i ≤ q → p ≤ j → j ≤ q → ∀ v u, ValOf n (m + n) (f i) v u → ValOf n (m + n) (f j) v u := by
    intro i j hi hi' hj hj' v u hv
    obtain ⟨w, hw⟩ := val_ex n (m + n) (f p) v
    have a := stays v w hw (i - p) (by omega)
    have b := stays v w hw (j - p) (by omega)
    rw [show p + (i - p) = i from by omega] at a
    rw [show p + (j - p) = j from by omega] at b
    rw [val_one (c.lot hb i (by omega)) hv a]
    exact b
  -- what comes in at a step
  have ins : ∀ i, i < k → ∃ r s, Goes n (m + n) (f i).1 (f i).2 r s ∧ f (i + 1) = (pv (f i).1 r s, pb (f i).2 r s) := fun i hi => c.step i hi
  let In : Nat → Prop := fun t => ∃ i, p ≤ i ∧ i < q ∧ ¬ InBase n (f i) t ∧ InBase n (f (i + 1)) t
  -- whatever is in at one time, out at another one, comes in at some time
  have moved : ∀ t i j, p ≤ i → i ≤ q → p ≤ j → j ≤ q → InBase n (f i) t → ¬ InBase n (f j) t → In t := by
    intro t i j hi hi' hj hj' a b
    have ends : InBase n (f p) t ↔ InBase n (f q) t := by
      constructor
      · rintro ⟨x, hx, ex⟩; exact ⟨x, hx, (e x hx) ▸ ex⟩
      · rintro ⟨x, hx, ex⟩; exact ⟨x, hx, (e x hx).trans ex⟩
    by_cases at0 : InBase n (f p) t
    · -- out at j, in again at q
      obtain ⟨x, h1, h2, h3, h4⟩ := comes_in (P := fun i => InBase n (f i) t) (q - j) j b (by rw [show j + (q - j) = q from by omega]; exact ends.mp at0)
      exact ⟨x, by omega, by omega, h3, h4⟩
    · obtain ⟨x, h1, h2, h3, h4⟩ := comes_in (P := fun i => InBase n (f i) t) (i - p) p at0 (by rw [show p + (i - p) = i from by omega]; exact a)
      exact ⟨x, by omega, by omega, h3, h4⟩
  have inIs : ∀ i, i < k → ∀ r s, Goes n (m + n) (f i).1 (f i).2 r s → f (i + 1) = (pv (f i).1 r s, pb (f i).2 r s) → ∀ t, ¬ InBase n (f i) t → InBase n (f (i + 1)) t → t = s := by
    rintro i hi r s g es t h1 ⟨x, hx, ex⟩
    rw [es] at ex
    have ex' : pb (f i).2 r s x = t := ex
    unfold pb at ex'
    by_cases er : x = r
    · rw [if_pos er] at ex'; exact ex'.symm
    · rw [if_neg er] at ex'; exact absurd ⟨x, hx, ex'⟩ h1
  obtain ⟨r1, s1, g1, es1⟩ := ins p (by omega)
  have in1 : In s1 := by
    refine ⟨p, Nat.le_refl p, hpq, ?_, ⟨r1, g1.r_lt, ?_⟩⟩
    · rintro ⟨x, hx, ex⟩
      exact g1.nonbase (c.lot hb p (by omega)) x hx ex
    · rw [es1]; show pb _ r1 s1 r1 = s1; unfold pb; rw [if_pos rfl]
  have below : ∀ t, In t → t < m + n := by
    rintro t ⟨i, h1, h2, h3, x, hx, ex⟩
    have := (c.lot hb (i + 1) (by omega)).lt x hx
    omega
  obtain ⟨t, ht, most⟩ := greatest in1 below
  obtain ⟨d, hd1, hd2, hd3, hd4⟩ := ht
  -- t comes in at d; it goes out at some l
  have outs : ∃ l, p ≤ l ∧ l < q ∧ InBase n (f l) t ∧ ¬ InBase n (f (l + 1)) t := by
    by_cases at0 : InBase n (f p) t
    · obtain ⟨x, h1, h2, h3⟩ := goes_out (P := fun i => InBase n (f i) t) (d - p) p at0 (by rw [show p + (d - p) = d from by omega]; exact hd3)
      exact ⟨x, by omega, by omega, h3⟩
    · have atq : ¬ InBase n (f q) t := by
        rintro ⟨x, hx, ex⟩
        exact at0 ⟨x, hx, (e x hx).trans ex⟩
      obtain ⟨x, h1, h2, h3⟩ := goes_out (P := fun i => InBase n (f i) t) (q - (d + 1)) (d + 1) hd4 (by rw [show d + 1 + (q - (d + 1)) = q from by omega]; exact atq)
      exact ⟨x, by omega, by omega, h3⟩
  obtain ⟨l, hl1, hl2, hl3, hl4⟩ := outs
  obtain ⟨rd, sd, gd, esd⟩ := ins d (by omega)
  have etd : t = sd := inIs d (by omega) rd sd gd esd t hd3 hd4
  obtain ⟨r, s, g, es⟩ := ins l (by omega)
  have L := c.lot hb l (by omega)
  have D := c.lot hb d (by omega)
  -- it is row r that t leaves
  have etr : (f l).2 r = t := by
    obtain ⟨x, hx, ex⟩ := hl3
    by_cases er : x = r
    · rw [← er]; exact ex
    · refine absurd ⟨x, hx, ?_⟩ hl4
      rw [es]; show pb _ r s x = t; unfold pb; rw [if_neg er]; exact ex
  have sIn : In s := by
    refine ⟨l, hl1, hl2, ?_, ⟨r, g.r_lt, ?_⟩⟩
    · rintro ⟨x, hx, ex⟩
      exact g.nonbase L x hx ex
    · rw [es]; show pb _ r s r = s; unfold pb; rw [if_pos rfl]
  have st : s < t := by
    have := most s sIn
    have : s ≠ t := fun q => g.nonbase L r g.r_lt (etr.trans q.symm)
    omega
  -- the last row at d by that at l, in column s
  have key := L.last D s
  have zs : 0 ≤ (f d).1 n s := gd.first s (by omega)
  have := g.neg
  obtain ⟨i, hi, hpos⟩ := sm_pos (n := n) (f := fun i => (f d).1 n ((f l).2 i) * (f l).1 i s) (by grind)
  have hpos' : 0 < (f d).1 n ((f l).2 i) * (f l).1 i s := hpos
  -- v stands in row i at l, not in the base at d
  have hne : (f d).1 n ((f l).2 i) ≠ 0 := fun q => by rw [q] at hpos'; grind
  have vout : ¬ InBase n (f d) ((f l).2 i) := by
    rintro ⟨x, hx, ex⟩
    apply hne
    rw [← ex, D.one n x (Nat.le_refl n) hx, if_neg (by omega)]
  have vin : InBase n (f l) ((f l).2 i) := ⟨i, hi, rfl⟩
  have vle : (f l).2 i ≤ t := most _ (moved _ l d hl1 (by omega) hd1 (by omega) vin vout)
  have vzero : (f l).1 i (m + n) = 0 := by
    have a : ValOf n (m + n) (f d) ((f l).2 i) 0 := .inr ⟨fun x hx ex => vout ⟨x, hx, ex⟩, rfl⟩
    have b := stay2 d l hd1 (by omega) hl1 (by omega) _ _ a
    exact (val_one L b (.inl ⟨i, hi, rfl, rfl⟩)).symm
  have tz : (f d).1 n t < 0 := by rw [etd]; exact gd.neg
  by_cases ev : (f l).2 i = t
  · have : i = r := L.inj hi g.r_lt (ev.trans etr.symm)
    subst this
    rw [ev] at hpos'
    have := g.pos
    have := Rat.mul_pos (a := - (f d).1 n t) (b := (f l).1 i s) (by grind) (by grind)
    grind
  · have vlt : (f l).2 i < t := by omega
    have vge : 0 ≤ (f d).1 n ((f l).2 i) := gd.first _ (by omega)
    have vpos : 0 < (f l).1 i s := by
      by_cases q : 0 < (f l).1 i s
      · exact q
      · have := Rat.mul_nonneg (a := (f d).1 n ((f l).2 i)) (b := - (f l).1 i s) vge (by grind)
        grind
    have rz : (f l).1 r (m + n) = 0 := still l hl1 hl2 r s g es
    have := g.tie i hi vpos (by rw [rz, vzero]; grind)
    omega
/-! ### so the steps end -/
/-- a list of unlike numbers below K is no longer than K -/
theorem few : ∀ (K : Nat) (l : List Nat), l.Nodup → (∀ x ∈ l, x < K) → l.length ≤ K := by
  intro K
  induction K with
  | zero =>
    intro l _ h
    cases l with
    | nil => exact Nat.le_refl 0
    | cons a l => exact absurd (h a List.mem_cons_self) (by omega)
  | succ K ih =>
    intro l hn h
    have := ih (l.erase K) (hn.erase K) fun x hx => by
      have h1 := h x (List.mem_of_mem_erase hx)
      have h2 : x ≠ K := fun q => by
        rw [q] at hx
        exact (List.Nodup.not_mem_erase hn) hx
      omega
    have hl := List.length_erase (a := K) (l := l)
    split at hl <;> omega
/-- a row of digits as a number -/
def code (N : Nat) (g : Nat → Nat) : Nat → Nat
  | 0 => 0
  | n + 1 => code N g n * N + g n
theorem code_lt {N : Nat} {g : Nat → Nat} : ∀ n, (∀ i, i < n → g i < N) → code N g n < N ^ n := by
  intro n
  induction n with
  | zero => intro _; simp [code]
  | succ n ih =>
    intro h
    have a := ih fun i hi => h i (by omega)
    have b := h n (by omega)
    simp only [code, Nat.pow_succ]
    have : (code N g n + 1) * N ≤ N ^ n * N := Nat.mul_le_mul_right N a
    rw [Nat.add_mul] at this
    omega
theorem code_inj {N : Nat} {g g' : Nat → Nat} : ∀ n, (∀ i, i < n → g i < N) → (∀ i, i < n → g' i < N) → code N g n = code N g' n → ∀ i, i < n → g i = g' i := by
  intro n
  induction n with
  | zero => intro _ _ _ i hi; omega
  | succ n ih =>
    intro h h' e i hi
    simp only [code] at e
    have b := h n (by omega)
    have b' := h' n (by omega)
    have en : g n = g' n := by
      have := congrArg (· % N) e
      simp only [Nat.mul_add_mod_self_right, Nat.mod_eq_of_lt b, Nat.mod_eq_of_lt b'] at this
      exact this
    have ec : code N g n = code N g' n := by
      have : code N g n * N = code N g' n * N := by omega
      exact Nat.eq_of_mul_eq_mul_right (by omega) this
    by_cases q : i = n
    · rw [q]; exact en
    · exact ih (fun i hi => h i (by omega)) (fun i hi => h' i (by omega)) ec i (by omega)
theorem Chain.most {R0 : Nat → Nat → Rat} {n m : Nat} {f : Nat → St} {k : Nat} (c : Chain R0 n m f k) (hb : Begin R0 n m) (hf : Feas n (m + n) R0) : k < (m + n) ^ n := by
  have h := few ((m + n) ^ n) ((List.range (k + 1)).map fun i => code (m + n) (f i).2 n) ?_ ?_
  · rw [List.length_map, List.length_range] at h
    omega
  · rw [List.nodup_iff_pairwise_ne, List.pairwise_map]
    refine List.Pairwise.imp_of_mem ?_ List.pairwise_lt_range
    intro p q hp hq hlt e
    rw [List.mem_range] at hp hq
    obtain ⟨i, hi, ne⟩ := c.new hb hf hlt (by omega : q ≤ k)
    exact ne (code_inj n (fun i hi => (c.lot hb p (by omega)).lt i hi) (fun i hi => (c.lot hb q (by omega)).lt i hi) e i hi)
  · intro x hx
    rw [List.mem_map] at hx
    obtain ⟨i, hi, rfl⟩ := hx
    rw [List.mem_range] at hi
    exact code_lt n fun j hj => (c.lot hb i (by omega)).lt j hj
end Sx
end
section
set_option maxHeartbeats 4000000
/-! The last corner shows the value; how great the numbers of a tableau can be. -/
namespace Sx
/-- the first tableau of a matrix A of n rows and m columns, all above nothing: A, slacks, ones; below minus ones -/
structure First (R0 : Nat → Nat → Rat) (A : Nat → Nat → Rat) (n m : Nat) : Prop where
  a : ∀ i j, i < n → j < m → R0 i j = A i j
  unit : ∀ i k, i ≤ n → k < n → R0 i (m + k) = if i = k then 1 else 0
  rhs : ∀ i, i < n → R0 i (m + n) = 1
  low : ∀ j, j < m → R0 n j = -1
  end_ : R0 n (m + n) = 0
  pos : ∀ i j, i < n → j < m → 0 < A i j
  n0 : 0 < n
theorem First.begin {R0 A : Nat → Nat → Rat} {n m : Nat} (h : First R0 A n m) : Begin R0 n m := ⟨h.unit⟩
theorem First.feas {R0 A : Nat → Nat → Rat} {n m : Nat} (h : First R0 A n m) : Feas n (m + n) R0 := ⟨fun i hi => by rw [h.rhs i hi]; grind⟩
theorem First.nonneg {R0 A : Nat → Nat → Rat} {n m : Nat} (h : First R0 A n m) {i j : Nat} (hi : i < n) (hj : j < m + n) : 0 ≤ R0 i j := by
  by_cases e : j < m
  · rw [h.a i j hi e]; have := h.pos i j hi e; grind
  · obtain ⟨k, rfl⟩ : ∃ k, j = m + k := ⟨j - m, by omega⟩
    rw [h.unit i k (by omega) (by omega)]
    split <;> grind
/-- a column that is no base has a number above nothing -/
theorem First.some_pos {R0 A : Nat → Nat → Rat} {n m : Nat} (h : First R0 A n m) {R : Nat → Nat → Rat} {b : Nat → Nat} (L : Lot R0 n m R b) {s : Nat} (hs : s < m + n) : ∃ i, i < n ∧ 0 < R i s := by
  have main : ∀ k, k < n → 0 < R0 k s → ∃ i, i < n ∧ 0 < R i s := fun k hk hp => by
    rw [L.back k s hk] at hp
    obtain ⟨i, hi, q⟩ := sm_pos hp
    refine ⟨i, hi, ?_⟩
    have nn := h.nonneg hk (L.lt i hi)
    by_cases z : 0 < R i s
    · exact z
    · have q' : 0 < R0 k (b i) * R i s := q
      have := Rat.mul_nonneg (a := R0 k (b i)) (b := - R i s) nn (by grind)
      grind
  by_cases e : s < m
  · exact main 0 h.n0 (by rw [h.a 0 s h.n0 e]; exact h.pos 0 s h.n0 e)
  · obtain ⟨k, rfl⟩ : ∃ k, s = m + k := ⟨s - m, by omega⟩
    exact main k (by omega) (by rw [h.unit k k (by omega) (by omega), if_pos rfl]; grind)
/-- the column's part of the corner: what stands on the right side in the row of which it is the base -/
structure Corner (R0 : Nat → Nat → Rat) (n m : Nat) (R : Nat → Nat → Rat) (b : Nat → Nat) (y : Nat → Rat) : Prop where
  base : ∀ i, i < n → b i < m → y (b i) = R i (m + n)
  none : ∀ j, j < m → (∀ i, i < n → b i ≠ j) → y j = 0
theorem Corner.sum {R0 : Nat → Nat → Rat} {n m : Nat} {R : Nat → Nat → Rat} {b : Nat → Nat} {y : Nat → Rat} (L : Lot R0 n m R b) (c : Corner R0 n m R b y) (g : Nat → Rat) :
    sm m (fun j => g j * y j) = sm n (fun i => if b i < m then g (b i) * R i (m + n) else 0) := by
  -- sum over both of what stands where b i = j
  have e1 : ∀ j, j < m → g j * y j = sm n (fun i => if b i = j then g j * R i (m + n) else 0) := fun j hj => by
    by_cases h : ∃ i, i < n ∧ b i = j
    · obtain ⟨i, hi, rfl⟩ := h
      rw [sm_one (r := i) hi fun k hk hne => by rw [if_neg (fun q => hne (L.inj hk hi q))], if_pos rfl, c.base i hi hj]
    · rw [c.none j hj fun i hi e => h ⟨i, hi, e⟩, sm_zero n fun i hi => by rw [if_neg (fun e => h ⟨i, hi, e⟩)]]
      grind
  rw [sm_congr e1, sm_comm]
  apply sm_congr
  intro i hi
  by_cases h : b i < m
  · rw [if_pos h, sm_one (r := b i) h fun j hj hne => by rw [if_neg (fun q => hne q.symm)], if_pos rfl]
  · rw [if_neg h, sm_zero m fun j hj => by rw [if_neg (by omega)]]
/-- at the last corner: shares of rows x and of columns y, both w together; each column has w.. no less than 1 by x, each row no more than 1 by y -/
structure Solved (A : Nat → Nat → Rat) (n m : Nat) (x y : Nat → Rat) (w : Rat) : Prop where
  x0 : ∀ k, k < n → 0 ≤ x k
  y0 : ∀ j, j < m → 0 ≤ y j
  xs : sm n x = w
  ys : sm m y = w
  w0 : 0 < w
  col : ∀ j, j < m → 1 ≤ sm n (fun k => x k * A k j)
  row : ∀ k, k < n → sm m (fun j => A k j * y j) ≤ 1
theorem First.solved {R0 A : Nat → Nat → Rat} {n m : Nat} (h : First R0 A n m) (hm : 0 < m) {R : Nat → Nat → Rat} {b : Nat → Nat} (L : Lot R0 n m R b) (f : Feas n (m + n) R) (last : ∀ j, j < m + n → 0 ≤ R n j)
    {y : Nat → Rat} (c : Corner R0 n m R b y) : Solved A n m (fun k => R n (m + k)) y (R n (m + n)) := by
  have x0 : ∀ k, k < n → 0 ≤ R n (m + k) := fun k hk => last _ (by omega)
  have col : ∀ j, j < m → 1 ≤ sm n (fun k => R n (m + k) * A k j) := fun j hj => by
    have a := L.of n j (Nat.le_refl n)
    rw [if_pos rfl, h.low j hj, sm_congr (g := fun k => R n (m + k) * A k j) fun k hk => by rw [h.a k j hk hj]] at a
    have := last j (by omega)
    grind
  have xs : sm n (fun k => R n (m + k)) = R n (m + n) := by
    have a := L.of n (m + n) (Nat.le_refl n)
    rw [if_pos rfl, h.end_, sm_congr (g := fun k => R n (m + k)) fun k hk => by rw [h.rhs k hk]; grind] at a
    grind
  have y0 : ∀ j, j < m → 0 ≤ y j := fun j hj => by
    by_cases e : ∃ i, i < n ∧ b i = j
    · obtain ⟨i, hi, rfl⟩ := e
      rw [c.base i hi hj]; exact f.ge i hi
    · rw [c.none j hj fun i hi q => e ⟨i, hi, q⟩]; exact Rat.le_refl
  have row : ∀ k, k < n → sm m (fun j => A k j * y j) ≤ 1 := fun k hk => by
    rw [c.sum L (fun j => A k j), ← h.rhs k hk, L.back k (m + n) hk]
    apply sm_le
    intro i hi
    by_cases e : b i < m
    · rw [if_pos e, h.a k _ hk e]; exact Rat.le_refl
    · rw [if_neg e]
      exact Rat.mul_nonneg (h.nonneg hk (L.lt i hi)) (f.ge i hi)
  have ys : sm m y = R n (m + n) := by
    have s1 : sm m y = sm n (fun i => if b i < m then R i (m + n) else 0) := by
      rw [sm_congr (f := y) (g := fun j => 1 * y j) fun j _ => by grind, c.sum L (fun _ => 1)]
      apply sm_congr
      intro i _
      split <;> grind
    -- the last row is nothing at each base: so is it with the right sides
    have z : sm n (fun i => R n (b i) * R i (m + n)) = 0 := sm_zero n fun i hi => by
      rw [L.one n i (Nat.le_refl n) hi, if_neg (by omega)]; grind
    have e1 : ∀ i, i < n → R n (b i) * R i (m + n) = (if b i < m then - R i (m + n) else 0) + sm n (fun k => R n (m + k) * (R0 k (b i) * R i (m + n))) := fun i hi => by
      rw [L.of n (b i) (Nat.le_refl n), if_pos rfl, Rat.add_mul]
      congr 1
      · by_cases e : b i < m
        · rw [if_pos e, h.low _ e]; grind
        · rw [if_neg e]
          obtain ⟨k, hk⟩ : ∃ k, b i = m + k := ⟨b i - m, by omega⟩
          have := L.lt i hi
          rw [hk, h.unit n k (Nat.le_refl n) (by omega), if_neg (by omega)]; grind
      · rw [← sm_mul_r]
        apply sm_congr
        intro k _
        grind
    rw [sm_congr e1, sm_add, sm_comm] at z
    have e2 : sm n (fun k => sm n (fun i => R n (m + k) * (R0 k (b i) * R i (m + n)))) = R n (m + n) := by
      rw [← xs]
      apply sm_congr
      intro k hk
      rw [sm_mul, ← L.back k (m + n) hk, h.rhs k hk]; grind
    rw [e2] at z
    have e3 : sm n (fun i => if b i < m then - R i (m + n) else 0) = - sm m y := by
      rw [s1, show - sm n (fun i => if b i < m then R i (m + n) else 0) = (-1) * sm n (fun i => if b i < m then R i (m + n) else 0) from by grind, ← sm_mul]
      apply sm_congr
      intro i _
      split <;> grind
    rw [e3] at z
    grind
  have w0 : 0 < R n (m + n) := by
    have c0 := col 0 hm
    obtain ⟨k, hk, q⟩ := sm_pos (n := n) (f := fun k => R n (m + k) * A k 0) (by grind)
    have q' : 0 < R n (m + k) * A k 0 := q
    have p := h.pos k 0 hk hm
    have : 0 < R n (m + k) := by
      by_cases z : 0 < R n (m + k)
      · exact z
      · have := Rat.mul_nonneg (a := - R n (m + k)) (b := A k 0) (by grind) (Rat.le_of_lt p)
        grind
    have g := sm_ge (n := n) (f := fun k => R n (m + k)) x0 hk
    rw [xs] at g
    have g' : R n (m + k) ≤ R n (m + n) := g
    grind
  exact ⟨x0, y0, xs, ys, w0, col, row⟩
/-! ### how great the numbers are -/
/-- all numbers of rows 0 .. n are whole ones over one, of which none is above 2 ^ e -/
def Small (n : Nat) (C : Nat → Prop) (R : Nat → Nat → Rat) (e : Nat) : Prop :=
  ∃ d : Nat, 0 < d ∧ d ≤ 2 ^ e ∧ ∀ i j, i ≤ n → C j → ∃ u : Int, R i j * (d : Rat) = (u : Rat) ∧ u.natAbs ≤ 2 ^ e
theorem two_pow (e : Nat) : 2 ^ e * 2 ^ e = 2 ^ (2 * e) := by
  rw [← Nat.pow_add]; congr 1; omega
theorem Small.turn {n : Nat} {C : Nat → Prop} {R : Nat → Nat → Rat} {e r s : Nat} (h : Small n C R e) (hr : r ≤ n) (hs : C s) (hne : R r s ≠ 0) : Small n C (pv R r s) (2 * e + 1) := by
  obtain ⟨d, d0, dle, all⟩ := h
  obtain ⟨p, ep, lp⟩ := all r s hr hs
  have dr : (d : Rat) ≠ 0 := by
    have := Rat.natCast_pos.mpr d0
    grind
  have p0 : p ≠ 0 := fun q => by
    rw [q] at ep
    have : ((0 : Int) : Rat) = 0 := rfl
    rw [this] at ep
    rcases Rat.mul_eq_zero.mp ep with a | a
    · exact hne a
    · exact dr a
  have pn : 0 < p.natAbs := by omega
  -- the new one is d * |p|
  refine ⟨d * p.natAbs, Nat.mul_pos d0 pn, ?_, fun i j hi hj => ?_⟩
  · have : d * p.natAbs ≤ 2 ^ e * 2 ^ e := Nat.mul_le_mul dle lp
    rw [two_pow] at this
    have : 2 ^ (2 * e) ≤ 2 ^ (2 * e + 1) := Nat.pow_le_pow_right (by decide) (by omega)
    omega
  · obtain ⟨u, eu, lu⟩ := all r j hr hj
    have sg : ((p.natAbs : Nat) : Rat) = (p.sign : Rat) * (p : Rat) := by
      have h1 : ((p.natAbs : Nat) : Int) = p.sign * p := by rw [Int.mul_comm, Int.mul_sign_self]
      rw [show ((p.natAbs : Nat) : Rat) = (((p.natAbs : Nat) : Int) : Rat) from rfl, h1, Rat.intCast_mul]
    have pr : (p : Rat) ≠ 0 := fun q => by
      have : p = 0 := by
        have := congrArg Rat.num q
        simpa using this
      exact p0 this
    have sl : p.sign.natAbs ≤ 1 := by
      rcases Int.lt_trichotomy p 0 with h1 | h1 | h1
      · rw [Int.sign_eq_neg_one_of_neg h1]; decide
      · rw [h1]; decide
      · rw [Int.sign_eq_one_of_pos h1]; decide
    have mulcast : ((d * p.natAbs : Nat) : Rat) = (d : Rat) * ((p.natAbs : Nat) : Rat) := Rat.natCast_mul ..
    rw [mulcast, sg]
    unfold pv
    by_cases ei : i = r
    · rw [if_pos ei]
      refine ⟨p.sign * (d * u), ?_, ?_⟩
      · rw [Rat.intCast_mul, Rat.intCast_mul, show (((d : Nat) : Int) : Rat) = (d : Rat) from rfl]
        grind
      · rw [Int.natAbs_mul, Int.natAbs_mul]
        have a1 : (d : Int).natAbs * u.natAbs ≤ 2 ^ e * 2 ^ e := Nat.mul_le_mul (by omega) lu
        have a2 : p.sign.natAbs * ((d : Int).natAbs * u.natAbs) ≤ 1 * (2 ^ e * 2 ^ e) := Nat.mul_le_mul sl a1
        rw [two_pow] at a2
        have : 2 ^ (2 * e) ≤ 2 ^ (2 * e + 1) := Nat.pow_le_pow_right (by decide) (by omega)
        omega
    · rw [if_neg ei]
      obtain ⟨v, ev, lv⟩ := all i j hi hj
      obtain ⟨w, ew, lw⟩ := all i s hi hs
      refine ⟨p.sign * (v * p - w * u), ?_, ?_⟩
      · rw [Rat.intCast_mul, Rat.intCast_sub, Rat.intCast_mul, Rat.intCast_mul]
        grind
      · rw [Int.natAbs_mul]
        have b1 : (v * p).natAbs ≤ 2 ^ (2 * e) := by rw [Int.natAbs_mul, ← two_pow]; exact Nat.mul_le_mul lv lp
        have b2 : (w * u).natAbs ≤ 2 ^ (2 * e) := by rw [Int.natAbs_mul, ← two_pow]; exact Nat.mul_le_mul lw lu
        have b3 : (v * p - w * u).natAbs ≤ 2 ^ (2 * e + 1) := by
          rw [Nat.pow_succ]; omega
        have := Nat.mul_le_mul sl b3
        omega
/-- how many of the base are columns of the matrix -/
def inner (m : Nat) (b : Nat → Nat) : Nat → Nat
  | 0 => 0
  | n + 1 => inner m b n + (if b n < m then 1 else 0)
theorem inner_put {m : Nat} {b : Nat → Nat} {r s : Nat} (h : b r < m) (hs : ¬ s < m) : ∀ n, inner m b n = inner m (pb b r s) n + (if r < n then 1 else 0) := by
  intro n
  induction n with
  | zero => simp [inner]
  | succ n ih =>
    simp only [inner]
    by_cases e : n = r
    · have ep : pb b r s n = s := if_pos e
      have eb : b n < m := by rw [e]; exact h
      rw [ep, if_pos eb, if_neg hs, if_pos (by omega)]
      rw [if_neg (by omega)] at ih
      omega
    · have ep : pb b r s n = b n := if_neg e
      rw [ep]
      by_cases q : r < n
      · rw [if_pos q] at ih; rw [if_pos (by omega : r < n + 1)]; omega
      · rw [if_neg q] at ih; rw [if_neg (by omega : ¬ r < n + 1)]; omega
theorem inner_zero {m : Nat} {b : Nat → Nat} : ∀ n, inner m b n = 0 → ∀ i, i < n → ¬ b i < m := by
  intro n
  induction n with
  | zero => intro _ i hi; omega
  | succ n ih =>
    intro h i hi
    simp only [inner] at h
    by_cases e : i = n
    · rw [e]; intro q; rw [if_pos q] at h; omega
    · exact ih (by omega) i (by omega)
theorem inner_pos {m : Nat} {b : Nat → Nat} : ∀ n, 0 < inner m b n → ∃ i, i < n ∧ b i < m := by
  intro n
  induction n with
  | zero => intro h; simp [inner] at h
  | succ n ih =>
    intro h
    simp only [inner] at h
    by_cases e : b n < m
    · exact ⟨n, by omega, e⟩
    · rw [if_neg e] at h
      obtain ⟨i, hi, q⟩ := ih (by omega)
      exact ⟨i, by omega, q⟩
theorem inner_le_n {m : Nat} {b : Nat → Nat} : ∀ n, inner m b n ≤ n := by
  intro n
  induction n with
  | zero => simp [inner]
  | succ n ih => simp only [inner]; split <;> omega
/-- one behind the other: 2 e + 1, so often -/
def grown (e : Nat) : Nat → Nat
  | 0 => e
  | c + 1 => 2 * grown e c + 1
theorem grown_le {e c k : Nat} (h : c ≤ k) : grown e c ≤ grown e k := by
  induction k with
  | zero => rw [show c = 0 from by omega]; exact Nat.le_refl _
  | succ k ih =>
    by_cases q : c = k + 1
    · rw [q]; exact Nat.le_refl _
    · have := ih (by omega)
      simp only [grown]; omega
/-- the turn back -/
theorem pv_back {R : Nat → Nat → Rat} {r s t : Nat} (hs : R r s ≠ 0) (ht : R r t = 1) (hz : ∀ i, i ≠ r → R i t = 0) (i j : Nat) : pv (pv R r s) r t i j = R i j := by
  unfold pv
  by_cases e : i = r
  · simp only [if_pos e, if_pos]; rw [ht, e]; grind
  · simp only [if_neg e, if_pos]
    rw [ht, hz i e]
    grind
theorem Small.congr {n : Nat} {C : Nat → Prop} {R R' : Nat → Nat → Rat} {e : Nat} (h : Small n C R e) (q : ∀ i j, i ≤ n → C j → R' i j = R i j) : Small n C R' e := by
  obtain ⟨d, d0, dle, all⟩ := h
  exact ⟨d, d0, dle, fun i j hi hj => by rw [q i j hi hj]; exact all i j hi hj⟩
theorem Small.mono {n : Nat} {C : Nat → Prop} {R : Nat → Nat → Rat} {e e' : Nat} (h : Small n C R e) (q : e ≤ e') : Small n C R e' := by
  obtain ⟨d, d0, dle, all⟩ := h
  have p : 2 ^ e ≤ 2 ^ e' := Nat.pow_le_pow_right (by decide) q
  exact ⟨d, d0, Nat.le_trans dle p, fun i j hi hj => by
    obtain ⟨u, a, b⟩ := all i j hi hj
    exact ⟨u, a, Nat.le_trans b p⟩⟩
theorem Lot.small {R0 : Nat → Nat → Rat} {n m : Nat} (hb : Begin R0 n m) {e : Nat} {C : Nat → Prop} (hC : ∀ j, j < m + n → C j) (h0 : Small n C R0 e) : ∀ c (R : Nat → Nat → Rat) (b : Nat → Nat), Lot R0 n m R b → inner m b n = c → Small n C R (grown e c) := by
  intro c
  induction c with
  | zero =>
    intro R b L hc
    have no := inner_zero n hc
    -- all of the base are slacks: its rows are the first rows in some sequence
    obtain ⟨d, d0, dle, all⟩ := h0
    refine ⟨d, d0, dle, fun i j hi hj => ?_⟩
    by_cases en : i = n
    · subst en
      have z : ∀ k, k < i → R i (m + k) = 0 ∨ ∃ l, l < i ∧ b l = m + k := fun k hk => by
        by_cases q : ∃ l, l < i ∧ b l = m + k
        · exact .inr q
        · left
          -- each slack is a base: there are as many
          exact absurd (by
            -- R0 k (m + k) = 1 is a sum over bases of R0 k (b l) * ..
            have a := L.back k (m + k) hk
            rw [hb.unit k k (by omega) hk, if_pos rfl, sm_zero i fun l hl => by
              have h1 := no l hl
              have h2 := L.lt l hl
              obtain ⟨k', hk'⟩ : ∃ k', b l = m + k' := ⟨b l - m, by omega⟩
              rw [hk', hb.unit k k' (by omega) (by omega), if_neg (fun q' => q ⟨l, hl, by rw [hk', q']⟩)]; grind] at a
            grind : False) (by simp)
      have e0 : R i j = R0 i j := by
        rw [L.of i j (Nat.le_refl i), if_pos rfl, sm_zero i fun k hk => by
          rcases z k hk with q | ⟨l, hl, q⟩
          · rw [q]; grind
          · rw [← q, L.one i l (Nat.le_refl i) hl, if_neg (by omega)]; grind]
        grind
      rw [e0]; exact all i j hi hj
    · have h1 := no i (by omega)
      have h2 := L.lt i (by omega)
      obtain ⟨k, hk⟩ : ∃ k, b i = m + k := ⟨b i - m, by omega⟩
      have kn : k < n := by omega
      have e0 : R0 k j = R i j := by
        rw [L.back k j kn, sm_one (r := i) (by omega) fun l hl hne => by
          have h3 := no l hl
          have h4 := L.lt l hl
          obtain ⟨k', hk'⟩ : ∃ k', b l = m + k' := ⟨b l - m, by omega⟩
          rw [hk', hb.unit k k' (by omega) (by omega), if_neg (fun q' => hne (L.inj hl (by omega) (by rw [hk, hk', q'])))]; grind]
        rw [hk, hb.unit k k (by omega) kn, if_pos rfl]; grind
      rw [← e0]; exact all k j (by omega) hj
  | succ c ih =>
    intro R b L hc
    obtain ⟨r, hr, hbr⟩ := inner_pos n (by omega : 0 < inner m b n)
    -- some slack's column is not nothing in row r
    have some_k : ∃ k, k < n ∧ R r (m + k) ≠ 0 := by
      refine Classical.byContradiction fun no => ?_
      have a := L.of r (b r) (by omega)
      rw [if_neg (by omega : ¬ r = n), L.one r r (by omega) hr, if_pos rfl, sm_zero n fun k hk => by
        by_cases q : R r (m + k) = 0
        · rw [q]; grind
        · exact absurd ⟨k, hk, q⟩ no] at a
      grind
    obtain ⟨k, hk, hne⟩ := some_k
    have L' := L.turn hr (by omega : m + k < m + n) hne
    have hc' : inner m (pb b r (m + k)) n = c := by
      have := inner_put (s := m + k) hbr (by omega) n
      rw [if_pos hr] at this
      omega
    have S := ih _ _ L' hc'
    have hp : pv R r (m + k) r (b r) ≠ 0 := by
      unfold pv
      rw [if_pos rfl, L.one r r (by omega) hr, if_pos rfl]
      intro q
      have : (1 : Rat) = 0 := by
        have h1 : 1 / R r (m + k) * R r (m + k) = 1 := Rat.div_mul_cancel hne
        rw [q] at h1; grind
      grind
    have T := S.turn (r := r) (s := b r) (by omega) (hC _ (L.lt r hr)) hp
    refine T.congr fun i j hi hj => (pv_back' L hr hne i j hi).symm
where
  pv_back' {R0 : Nat → Nat → Rat} {n m : Nat} {R : Nat → Nat → Rat} {b : Nat → Nat} (L : Lot R0 n m R b) {r s : Nat} (hr : r < n) (hs : R r s ≠ 0) (i j : Nat) (hi : i ≤ n) : pv (pv R r s) r (b r) i j = R i j := by
    unfold pv
    have h1 := L.one r r (by omega) hr
    rw [if_pos rfl] at h1
    by_cases e : i = r
    · simp only [if_pos e, if_pos]; rw [h1, e]; grind
    · have h2 := L.one i r hi hr
      rw [if_neg e] at h2
      simp only [if_neg e, if_pos]
      rw [h1, h2]
      grind
/-- no more columns of the matrix are in a base than there are -/
theorem Lot.inner_le {R0 : Nat → Nat → Rat} {n m : Nat} {R : Nat → Nat → Rat} {b : Nat → Nat} (L : Lot R0 n m R b) : inner m b n ≤ m := by
  have h := few m (((List.range n).map b).filter fun v => decide (v < m)) ?_ ?_
  · have : ∀ k, k ≤ n → inner m b k = (((List.range k).map b).filter fun v => decide (v < m)).length := by
      intro k
      induction k with
      | zero => intro _; rfl
      | succ k ih =>
        intro hk
        rw [List.range_succ, List.map_append, List.filter_append, List.length_append, ← ih (by omega)]
        simp only [inner, List.map_cons, List.map_nil]
        by_cases q : b k < m
        · rw [if_pos q, List.filter_cons_of_pos (by simpa using q)]; rfl
        · rw [if_neg q, List.filter_cons_of_neg (by simpa using q)]; rfl
    rw [this n (Nat.le_refl n)]
    exact h
  · refine List.Pairwise.filter _ ?_
    rw [List.pairwise_map]
    refine List.Pairwise.imp_of_mem ?_ List.pairwise_lt_range
    intro p q hp hq hlt e
    rw [List.mem_range] at hp hq
    have := L.inj hp hq e
    omega
  · intro x hx
    rw [List.mem_filter] at hx
    simpa using hx.2
end Sx
end
section
set_option maxHeartbeats 4000000
/-! Fractions as the program reckons them, against Lean's own rationals; how many signs they have. Plain Lean. -/
namespace Fra
/-- Euclid's way ends at the greatest common divisor -/
theorem gcd_step {x y : Int} (hx : 0 ≤ x) (hy : 0 < y) : Int.gcd y (x.fmod y) = Int.gcd x y := by
  rw [Int.fmod_eq_emod_of_nonneg x (by omega)]
  unfold Int.gcd
  rw [Nat.gcd_comm x.natAbs]
  have : (x % y).natAbs = x.natAbs % y.natAbs := by
    rw [Int.natAbs_emod_of_nonneg hx]
  rw [this, Nat.gcd_comm, ← Nat.gcd_rec]
/-- below 2 ^ n both integers of a fraction -/
def Bits (q : Rat) (n : Nat) : Prop := q.num.natAbs < 2 ^ n ∧ q.den < 2 ^ n
theorem Bits.mono {q : Rat} {n k : Nat} (h : Bits q n) (e : n ≤ k) : Bits q k :=
  ⟨Nat.lt_of_lt_of_le h.1 (Nat.pow_le_pow_right (by decide) e), Nat.lt_of_lt_of_le h.2 (Nat.pow_le_pow_right (by decide) e)⟩
theorem num_le (a b : Int) : (Rat.divInt a b).num.natAbs ≤ a.natAbs := by
  rw [Rat.num_divInt]
  by_cases h : b = 0
  · subst h; simp
  · rw [Int.natAbs_ediv_of_dvd]
    · rw [Int.natAbs_mul, Int.natAbs_sign_of_ne_zero h, Nat.one_mul]
      exact Nat.div_le_self _ _
    · exact Int.dvd_trans (Int.gcd_dvd_right b a) (Int.dvd_mul_left _ _)
theorem den_le {a b : Int} (h : b ≠ 0) : (Rat.divInt a b).den ≤ b.natAbs := by
  rw [Rat.den_divInt, if_neg h]
  exact Nat.div_le_self _ _
theorem Bits.divInt {a b : Int} {n : Nat} (hb : b ≠ 0) (h1 : a.natAbs < 2 ^ n) (h2 : b.natAbs < 2 ^ n) : Bits (Rat.divInt a b) n :=
  ⟨Nat.lt_of_le_of_lt (num_le a b) h1, Nat.lt_of_le_of_lt (den_le hb) h2⟩
theorem mul_lt {x y : Int} {a b : Nat} (h1 : x.natAbs < 2 ^ a) (h2 : y.natAbs < 2 ^ b) : (x * y).natAbs < 2 ^ (a + b) := by
  rw [Int.natAbs_mul, Nat.pow_add]
  exact Nat.mul_lt_mul'' h1 h2
theorem nd {d k : Nat} (h : d < k) : (d : Int).natAbs < k := by simpa using h
theorem add_lt {x y : Int} {a : Nat} (h1 : x.natAbs < 2 ^ a) (h2 : y.natAbs < 2 ^ a) : (x + y).natAbs < 2 ^ (a + 1) := by
  rw [Nat.pow_succ]; omega
theorem sub_lt {x y : Int} {a : Nat} (h1 : x.natAbs < 2 ^ a) (h2 : y.natAbs < 2 ^ a) : (x - y).natAbs < 2 ^ (a + 1) := by
  rw [Nat.pow_succ]; omega
theorem den_ne (q : Rat) : (q.den : Int) ≠ 0 := by
  have := q.den_pos; omega
theorem den_mul_ne (p q : Rat) : (p.den : Int) * (q.den : Int) ≠ 0 := Int.mul_ne_zero (den_ne p) (den_ne q)
/-! ### what the program's functions tell -/
theorem plus_eq (p q : Rat) : Rat.divInt (p.num * q.den + q.num * p.den) (p.den * q.den) = p + q := by
  have := Rat.divInt_add_divInt p.num q.num (den_ne p) (den_ne q)
  rw [Rat.num_divInt_den, Rat.num_divInt_den] at this
  exact this.symm
theorem minus_eq (p q : Rat) : Rat.divInt (p.num * q.den - q.num * p.den) (p.den * q.den) = p - q := by
  have := Rat.divInt_sub_divInt p.num q.num (den_ne p) (den_ne q)
  rw [Rat.num_divInt_den, Rat.num_divInt_den] at this
  exact this.symm
theorem times_eq (p q : Rat) : Rat.divInt (p.num * q.num) (p.den * q.den) = p * q := by
  have := Rat.divInt_mul_divInt p.num q.num (d₁ := p.den) (d₂ := q.den)
  rw [Rat.num_divInt_den, Rat.num_divInt_den] at this
  exact this.symm
theorem divided_eq (p q : Rat) : Rat.divInt (p.num * q.den) (p.den * q.num) = p / q := by
  rw [Rat.div_def, Rat.inv_def]
  have := Rat.divInt_mul_divInt p.num q.den (d₁ := p.den) (d₂ := q.num)
  rw [Rat.num_divInt_den] at this
  exact this.symm
theorem less_iff (p q : Rat) : p.num * q.den < q.num * p.den ↔ p < q := (Rat.lt_iff p q).symm
theorem num_ne {q : Rat} (h : q ≠ 0) : q.num ≠ 0 := fun e => h (Rat.num_eq_zero.mp e)
theorem Bits.add {p q : Rat} {a b : Nat} (h1 : Bits p a) (h2 : Bits q b) : Bits (p + q) (a + b + 1) := by
  rw [← plus_eq]
  refine Bits.divInt (den_mul_ne p q) (add_lt (mul_lt h1.1 (nd h2.2)) ?_) ?_
  · have := mul_lt h2.1 (show (p.den : Int).natAbs < 2 ^ a by simpa using h1.2)
    rw [Nat.add_comm b a] at this; exact this
  · have := mul_lt (show (p.den : Int).natAbs < 2 ^ a by simpa using h1.2) (show (q.den : Int).natAbs < 2 ^ b by simpa using h2.2)
    exact Nat.lt_of_lt_of_le this (Nat.pow_le_pow_right (by decide) (by omega))
theorem Bits.sub {p q : Rat} {a b : Nat} (h1 : Bits p a) (h2 : Bits q b) : Bits (p - q) (a + b + 1) := by
  rw [← minus_eq]
  refine Bits.divInt (den_mul_ne p q) (sub_lt (mul_lt h1.1 (nd h2.2)) ?_) ?_
  · have := mul_lt h2.1 (show (p.den : Int).natAbs < 2 ^ a by simpa using h1.2)
    rw [Nat.add_comm b a] at this; exact this
  · have := mul_lt (show (p.den : Int).natAbs < 2 ^ a by simpa using h1.2) (show (q.den : Int).natAbs < 2 ^ b by simpa using h2.2)
    exact Nat.lt_of_lt_of_le this (Nat.pow_le_pow_right (by decide) (by omega))
theorem Bits.mul {p q : Rat} {a b : Nat} (h1 : Bits p a) (h2 : Bits q b) : Bits (p * q) (a + b) := by
  rw [← times_eq]
  exact Bits.divInt (den_mul_ne p q) (mul_lt h1.1 h2.1) (mul_lt (nd h1.2) (nd h2.2))
theorem Bits.div {p q : Rat} {a b : Nat} (h1 : Bits p a) (h2 : Bits q b) (h0 : q ≠ 0) : Bits (p / q) (a + b) := by
  rw [← divided_eq]
  exact Bits.divInt (Int.mul_ne_zero (den_ne p) (num_ne h0)) (mul_lt h1.1 (nd h2.2)) (mul_lt (nd h1.2) h2.1)
/-- the quotient of the program, sign first -/
theorem part_num {t l : Int} (h : l ≠ 0) (g : Int) (hg : g = (Int.gcd t l : Int)) : (if 0 < l then (1 : Int) else 0 - 1) * t / g = (Rat.divInt t l).num := by
  rw [Rat.num_divInt, hg, Int.gcd_comm]
  by_cases e : 0 < l
  · rw [if_pos e, Int.sign_eq_one_of_pos e]
  · rw [if_neg e, Int.sign_eq_neg_one_of_neg (by omega)]; rfl
theorem part_den {t l : Int} (h : l ≠ 0) (g : Int) (hg : g = (Int.gcd t l : Int)) : (if 0 < l then (1 : Int) else 0 - 1) * l / g = ((Rat.divInt t l).den : Int) := by
  rw [Rat.den_divInt, if_neg h, hg, Int.gcd_comm]
  have : (if 0 < l then (1 : Int) else 0 - 1) * l = (l.natAbs : Int) := by
    by_cases e : 0 < l
    · rw [if_pos e]; omega
    · rw [if_neg e]; omega
  rw [this, Int.natCast_ediv]
end Fra
end
section
set_option maxHeartbeats 4000000
/-! Fractions over one number; folds along lists. -/
namespace Fra
/-- q is a whole number u over d, u no greater than B -/
def Cd (d B : Nat) (q : Rat) : Prop := ∃ u : Int, q * (d : Rat) = (u : Rat) ∧ u.natAbs ≤ B
theorem Cd.bits {d B n : Nat} {q : Rat} (h : Cd d B q) (d0 : 0 < d) (h1 : d < 2 ^ n) (h2 : B < 2 ^ n) : Bits q n := by
  obtain ⟨u, e, l⟩ := h
  have dr : (d : Rat) ≠ 0 := by
    have := Rat.natCast_pos.mpr d0
    grind
  have eq : q = Rat.divInt u d := by
    rw [Rat.divInt_eq_div]
    have : ((d : Int) : Rat) = (d : Rat) := rfl
    rw [this, ← e, Rat.mul_div_cancel dr]
  rw [eq]
  exact Bits.divInt (by omega) (Nat.lt_of_le_of_lt l h2) (nd h1)
theorem Cd.mono {d B C : Nat} {q : Rat} (h : Cd d B q) (e : B ≤ C) : Cd d C q := by
  obtain ⟨u, a, l⟩ := h
  exact ⟨u, a, Nat.le_trans l e⟩
theorem Cd.zero {d B : Nat} : Cd d B 0 := ⟨0, by rw [Rat.zero_mul]; rfl, by simp⟩
theorem Cd.add {d B C : Nat} {p q : Rat} (h : Cd d B p) (k : Cd d C q) : Cd d (B + C) (p + q) := by
  obtain ⟨u, a, l⟩ := h
  obtain ⟨v, b, m⟩ := k
  refine ⟨u + v, ?_, by omega⟩
  rw [Rat.add_mul, a, b, Rat.intCast_add]
theorem Cd.sub {d B C : Nat} {p q : Rat} (h : Cd d B p) (k : Cd d C q) : Cd d (B + C) (p - q) := by
  obtain ⟨u, a, l⟩ := h
  obtain ⟨v, b, m⟩ := k
  refine ⟨u - v, ?_, by omega⟩
  rw [Rat.intCast_sub, ← a, ← b]; grind
theorem Cd.mul {d e B C : Nat} {p q : Rat} (h : Cd d B p) (k : Cd e C q) : Cd (d * e) (B * C) (p * q) := by
  obtain ⟨u, a, l⟩ := h
  obtain ⟨v, b, m⟩ := k
  refine ⟨u * v, ?_, ?_⟩
  · rw [Rat.intCast_mul, ← a, ← b, Rat.natCast_mul]; grind
  · rw [Int.natAbs_mul]; exact Nat.mul_le_mul l m
/-- the sum, as the program's loop adds -/
def sumQ (l : List Rat) : Rat := l.foldl (· + ·) 0
theorem foldl_take {α β : Type} (f : β → α → β) (b : β) {l : List α} {i : Nat} {x : α} (h : l[i]? = some x) : (l.take (i + 1)).foldl f b = f ((l.take i).foldl f b) x := by
  rw [List.take_add_one, h, List.foldl_append]; rfl
theorem sumQ_take {l : List Rat} {i : Nat} {x : Rat} (h : l[i]? = some x) : sumQ (l.take (i + 1)) = sumQ (l.take i) + x := foldl_take _ _ h
theorem sumQ_snoc (l : List Rat) (x : Rat) : sumQ (l ++ [x]) = sumQ l + x := by
  unfold sumQ; rw [List.foldl_append]; rfl
theorem sumQ_Cd {d B : Nat} {l : List Rat} (h : ∀ q ∈ l, Cd d B q) : ∀ i, i ≤ l.length → Cd d (i * B) (sumQ (l.take i)) := by
  intro i
  induction i with
  | zero => intro _; exact Cd.zero
  | succ i ih =>
    intro hi
    have hx : l[i]? = some l[i] := by simp [show i < l.length by omega]
    rw [sumQ_take hx, Nat.add_mul, Nat.one_mul]
    exact (ih (by omega)).add (h _ (List.getElem_mem (by omega)))
theorem sumQ_all {d B : Nat} {l : List Rat} (h : ∀ q ∈ l, Cd d B q) : Cd d (l.length * B) (sumQ l) := by
  have := sumQ_Cd h l.length (Nat.le_refl _)
  rw [List.take_length] at this
  exact this
/-- the least, the greatest of one and more -/
def leastQ (x : Rat) (l : List Rat) : Rat := l.foldl (fun f y => if y < f then y else f) x
def mostQ (x : Rat) (l : List Rat) : Rat := l.foldl (fun f y => if f < y then y else f) x
theorem leastQ_mem (x : Rat) (l : List Rat) : leastQ x l ∈ x :: l := by
  unfold leastQ
  induction l generalizing x with
  | nil => simp
  | cons y l ih =>
    rw [List.foldl_cons]
    have := ih (if y < x then y else x)
    rcases List.mem_cons.mp this with h | h
    · rw [h]
      by_cases e : y < x
      · rw [if_pos e]; simp
      · rw [if_neg e]; simp
    · exact List.mem_cons_of_mem _ (List.mem_cons_of_mem _ h)
theorem leastQ_le (x : Rat) (l : List Rat) : ∀ y ∈ x :: l, leastQ x l ≤ y := by
  unfold leastQ
  induction l generalizing x with
  | nil => intro y hy; simp at hy; rw [hy]; exact Rat.le_refl
  | cons z l ih =>
    intro y hy
    rw [List.foldl_cons]
    have a := ih (if z < x then z else x)
    have b := a _ List.mem_cons_self
    rcases List.mem_cons.mp hy with h | h
    · subst h
      refine Rat.le_trans b ?_
      split <;> grind
    · rcases List.mem_cons.mp h with h | h
      · subst h
        refine Rat.le_trans b ?_
        split <;> grind
      · exact a y (List.mem_cons_of_mem _ h)
theorem mostQ_mem (x : Rat) (l : List Rat) : mostQ x l ∈ x :: l := by
  unfold mostQ
  induction l generalizing x with
  | nil => simp
  | cons y l ih =>
    rw [List.foldl_cons]
    have := ih (if x < y then y else x)
    rcases List.mem_cons.mp this with h | h
    · rw [h]
      by_cases e : x < y
      · rw [if_pos e]; simp
      · rw [if_neg e]; simp
    · exact List.mem_cons_of_mem _ (List.mem_cons_of_mem _ h)
theorem mostQ_le (x : Rat) (l : List Rat) : ∀ y ∈ x :: l, y ≤ mostQ x l := by
  unfold mostQ
  induction l generalizing x with
  | nil => intro y hy; simp at hy; rw [hy]; exact Rat.le_refl
  | cons z l ih =>
    intro y hy
    rw [List.foldl_cons]
    have a := ih (if x < z then z else x)
    have b := a _ List.mem_cons_self
    rcases List.mem_cons.mp hy with h | h
    · subst h
      refine Rat.le_trans ?_ b
      split <;> grind
    · rcases List.mem_cons.mp h with h | h
      · subst h
        refine Rat.le_trans ?_ b
        split <;> grind
      · exact a y (List.mem_cons_of_mem _ h)
end Fra
end
section
set_option maxHeartbeats 4000000
/-! Tableaus as lists, as the program keeps them. -/
namespace Sx
open Fra
/-- rows and the last row as one function of places -/
def TF (R : List (List Rat)) (l : List Rat) (i j : Nat) : Rat := if i < R.length then (R.getD i []).getD j 0 else l.getD j 0
def bf (b : List Nat) (i : Nat) : Nat := b.getD i 0
structure Tab (n N : Nat) (R : List (List Rat)) (l : List Rat) (b : List Nat) : Prop where
  rows : R.length = n
  each : ∀ r ∈ R, r.length = N + 1
  last : l.length = N + 1
  base : b.length = n
theorem Tab.row {n N : Nat} {R : List (List Rat)} {l : List Rat} {b : List Nat} (T : Tab n N R l b) {i : Nat} (h : i < n) : (R.getD i []).length = N + 1 := by
  have e : R[i]? = some (R[i]'(by rw [T.rows]; exact h)) := by simp
  rw [List.getD_eq_getElem?_getD, e]
  exact T.each _ (List.getElem_mem _)
def lessL (row other : List Rat) (s : Nat) : List Rat := List.zipWith (fun a b => a - row.getD s 0 * b) row other
def divL (row : List Rat) (h : Rat) : List Rat := row.map (· / h)
theorem getD_map0 (row : List Rat) (f : Rat → Rat) (h0 : f 0 = 0) (j : Nat) : (row.map f).getD j 0 = f (row.getD j 0) := by
  simp only [List.getD_eq_getElem?_getD, List.getElem?_map]
  cases row[j]? with
  | none => simp [h0]
  | some x => rfl
theorem lessL_get {row other : List Rat} {s : Nat} (e : row.length = other.length) (j : Nat) : (lessL row other s).getD j 0 = row.getD j 0 - row.getD s 0 * other.getD j 0 := by
  unfold lessL
  simp only [List.getD_eq_getElem?_getD, List.getElem?_zipWith]
  by_cases h : j < row.length
  · have h2 : j < other.length := by omega
    simp [h, h2]
  · have h1 : row[j]? = none := List.getElem?_eq_none (by omega)
    have h2 : other[j]? = none := List.getElem?_eq_none (by omega)
    rw [h1, h2]; simp; grind
theorem divL_get (row : List Rat) (h : Rat) (j : Nat) : (divL row h).getD j 0 = row.getD j 0 / h := getD_map0 row (· / h) (by grind) j
/-- the rows behind a turn -/
def turnR (R : List (List Rat)) (r s : Nat) : List (List Rat) := (List.range R.length).map fun i => if i = r then divL (R.getD r []) ((R.getD r []).getD s 0) else lessL (R.getD i []) (divL (R.getD r []) ((R.getD r []).getD s 0)) s
def turnLast (R : List (List Rat)) (l : List Rat) (r s : Nat) : List Rat := lessL l (divL (R.getD r []) ((R.getD r []).getD s 0)) s
theorem turnR_get {R : List (List Rat)} {r s i : Nat} (h : i < R.length) : (turnR R r s).getD i [] = if i = r then divL (R.getD r []) ((R.getD r []).getD s 0) else lessL (R.getD i []) (divL (R.getD r []) ((R.getD r []).getD s 0)) s := by
  unfold turnR
  rw [List.getD_eq_getElem?_getD, List.getElem?_map, List.getElem?_range h]; rfl
theorem lessL_len {row other : List Rat} {s : Nat} (e : row.length = other.length) : (lessL row other s).length = row.length := by
  unfold lessL; rw [List.length_zipWith]; omega
theorem divL_len (row : List Rat) (h : Rat) : (divL row h).length = row.length := List.length_map _
theorem Tab.turn {n N : Nat} {R : List (List Rat)} {l : List Rat} {b : List Nat} (T : Tab n N R l b) {r : Nat} (hr : r < n) (s : Nat) : Tab n N (turnR R r s) (turnLast R l r s) (b.set r s) where
  rows := by unfold turnR; rw [List.length_map, List.length_range]; exact T.rows
  each := fun row h => by
    unfold turnR at h
    rw [List.mem_map] at h
    obtain ⟨i, hi, rfl⟩ := h
    rw [List.mem_range, T.rows] at hi
    split
    · rw [divL_len]; exact T.row hr
    · rw [lessL_len (by rw [divL_len, T.row hr, T.row hi])]; exact T.row hi
  last := by unfold turnLast; rw [lessL_len (by rw [divL_len, T.row hr, T.last])]; exact T.last
  base := by rw [List.length_set]; exact T.base
theorem Tab.TF_turn {n N : Nat} {R : List (List Rat)} {l : List Rat} {b : List Nat} (T : Tab n N R l b) {r : Nat} (hr : r < n) (s : Nat) : TF (turnR R r s) (turnLast R l r s) = pv (TF R l) r s := by
  funext i j
  have hrl : r < R.length := by rw [T.rows]; exact hr
  have len : (turnR R r s).length = R.length := by unfold turnR; rw [List.length_map, List.length_range]
  unfold pv
  have tr : ∀ j, TF R l r j = (R.getD r []).getD j 0 := fun j => by unfold TF; rw [if_pos hrl]
  by_cases hi : i < R.length
  · have e1 : TF (turnR R r s) (turnLast R l r s) i j = ((turnR R r s).getD i []).getD j 0 := by unfold TF; rw [len, if_pos hi]
    have e2 : ∀ j, TF R l i j = (R.getD i []).getD j 0 := fun j => by unfold TF; rw [if_pos hi]
    rw [e1, turnR_get hi]
    by_cases er : i = r
    · rw [if_pos er, if_pos er, divL_get, tr, tr]
    · rw [if_neg er, if_neg er, lessL_get (by rw [divL_len, T.row hr, T.row (by rw [← T.rows]; exact hi)]), divL_get, tr, tr, e2, e2]
  · have e1 : TF (turnR R r s) (turnLast R l r s) i j = (turnLast R l r s).getD j 0 := by unfold TF; rw [len, if_neg hi]
    have e2 : ∀ j, TF R l i j = l.getD j 0 := fun j => by unfold TF; rw [if_neg hi]
    rw [e1, if_neg (by omega)]
    unfold turnLast
    rw [lessL_get (by rw [divL_len, T.row hr, T.last]), divL_get, tr, tr, e2, e2]
theorem Tab.bf_turn {n N : Nat} {R : List (List Rat)} {l : List Rat} {b : List Nat} (T : Tab n N R l b) {r : Nat} (hr : r < n) (s : Nat) : bf (b.set r s) = pb (bf b) r s := by
  funext i
  unfold bf pb
  simp only [List.getD_eq_getElem?_getD]
  by_cases e : i = r
  · rw [if_pos e, e, List.getElem?_set_self (by rw [T.base]; exact hr)]; rfl
  · rw [if_neg e, List.getElem?_set_ne (fun q => e q.symm)]
/-! ### the first tableau -/
def rowOf (n : Nat) (i : Nat) (row : List Rat) : List Rat := row.map (· + 1) ++ (List.range n).map (fun k => if k = i then (1 : Rat) else 0) ++ [1]
def rows0 (M : List (List Rat)) : List (List Rat) := (List.range M.length).map fun i => rowOf M.length i (M.getD i [])
def last0 (n m : Nat) : List Rat := List.replicate m (0 - 1) ++ List.replicate (n + 1) 0
def base0 (n m : Nat) : List Nat := (List.range n).map (m + ·)
/-- the entry of a matrix -/
def ent (M : List (List Rat)) (i j : Nat) : Rat := (M.getD i []).getD j 0
structure Mat (n m : Nat) (M : List (List Rat)) : Prop where
  rows : M.length = n
  each : ∀ r ∈ M, r.length = m
  n0 : 0 < n
  m0 : 0 < m
theorem Mat.row {n m : Nat} {M : List (List Rat)} (h : Mat n m M) {i : Nat} (hi : i < n) : (M.getD i []).length = m := by
  have e : M[i]? = some (M[i]'(by rw [h.rows]; exact hi)) := by simp
  rw [List.getD_eq_getElem?_getD, e]
  exact h.each _ (List.getElem_mem _)
theorem Mat.tab {n m : Nat} {M : List (List Rat)} (h : Mat n m M) : Tab n (m + n) (rows0 M) (last0 n m) (base0 n m) where
  rows := by unfold rows0; rw [List.length_map, List.length_range]; exact h.rows
  each := fun r hr => by
    unfold rows0 at hr
    rw [List.mem_map] at hr
    obtain ⟨i, hi, rfl⟩ := hr
    rw [List.mem_range, h.rows] at hi
    unfold rowOf
    simp only [List.length_append, List.length_map, List.length_range, List.length_singleton, h.row hi, h.rows]
  last := by unfold last0; simp; omega
  base := by unfold base0; simp
theorem getD_app {α : Type} (a b : List α) (d : α) (j : Nat) : (a ++ b).getD j d = if j < a.length then a.getD j d else b.getD (j - a.length) d := by
  simp only [List.getD_eq_getElem?_getD]
  by_cases h : j < a.length
  · rw [if_pos h, List.getElem?_append_left h]
  · rw [if_neg h, List.getElem?_append_right (by omega)]
theorem getD_range {α : Type} (n : Nat) (f : Nat → α) (d : α) (j : Nat) : ((List.range n).map f).getD j d = if j < n then f j else d := by
  simp only [List.getD_eq_getElem?_getD, List.getElem?_map]
  by_cases h : j < n
  · rw [if_pos h, List.getElem?_range h]; rfl
  · rw [if_neg h, List.getElem?_eq_none (by simpa using h)]; rfl
theorem getD_repl {α : Type} (n : Nat) (x d : α) (j : Nat) : (List.replicate n x).getD j d = if j < n then x else d := by
  simp only [List.getD_eq_getElem?_getD, List.getElem?_replicate]
  by_cases h : j < n
  · rw [if_pos h, if_pos h]; rfl
  · rw [if_neg h, if_neg h]; rfl
theorem Mat.first {n m : Nat} {M : List (List Rat)} (h : Mat n m M) (pos : ∀ i j, i < n → j < m → 0 ≤ ent M i j) : First (TF (rows0 M) (last0 n m)) (fun i j => ent M i j + 1) n m := by
  have len : (rows0 M).length = n := h.tab.rows
  have row : ∀ i j, i < n → TF (rows0 M) (last0 n m) i j = (rowOf n i (M.getD i [])).getD j 0 := fun i j hi => by
    unfold TF
    rw [len, if_pos hi]
    unfold rows0
    rw [getD_range, h.rows, if_pos hi]
  have lst : ∀ j, TF (rows0 M) (last0 n m) n j = (last0 n m).getD j 0 := fun j => by
    unfold TF; rw [len, if_neg (Nat.lt_irrefl n)]
  have rl : ∀ i, i < n → ((M.getD i []).map (· + 1)).length = m := fun i hi => by rw [List.length_map]; exact h.row hi
  have rget : ∀ i j, i < n → (rowOf n i (M.getD i [])).getD j 0 = if j < m then ent M i j + 1 else if j < m + n then (if j - m = i then 1 else 0) else if j = m + n then 1 else 0 := fun i j hi => by
    unfold rowOf
    rw [List.append_assoc, getD_app, rl i hi]
    by_cases h1 : j < m
    · rw [if_pos h1, if_pos h1]
      unfold ent
      simp only [List.getD_eq_getElem?_getD, List.getElem?_map]
      have : j < (M.getD i []).length := by rw [h.row hi]; exact h1
      rw [List.getD_eq_getElem?_getD] at this
      simp [this]
    · rw [if_neg h1, if_neg h1, getD_app, getD_range]
      simp only [List.length_map, List.length_range]
      by_cases h2 : j < m + n
      · rw [if_pos (by omega), if_pos (by omega), if_pos h2]
      · rw [if_neg (by omega), if_neg h2]
        by_cases h3 : j = m + n
        · rw [if_pos h3, h3, show m + n - m - n = 0 from by omega]; rfl
        · rw [if_neg h3]
          obtain ⟨k, hk⟩ : ∃ k, j - m - n = k + 1 := ⟨j - m - n - 1, by omega⟩
          rw [hk]; rfl
  refine ⟨fun i j hi hj => ?_, fun i k hi hk => ?_, fun i hi => ?_, fun j hj => ?_, ?_, fun i j hi hj => ?_, h.n0⟩
  · rw [row i j hi, rget i j hi, if_pos hj]
  · by_cases e : i = n
    · rw [e, lst, if_neg (by omega)]
      unfold last0
      rw [getD_app, List.length_replicate, if_neg (by omega), getD_repl, if_pos (by omega)]
    · have hi' : i < n := by omega
      rw [row i _ hi', rget i _ hi', if_neg (by omega), if_pos (by omega), show m + k - m = k from by omega]
      by_cases q : i = k
      · rw [if_pos q, if_pos q.symm]
      · rw [if_neg q, if_neg (fun z => q z.symm)]
  · rw [row i _ hi, rget i _ hi, if_neg (by omega), if_neg (by omega), if_pos rfl]
  · rw [lst]
    unfold last0
    rw [getD_app, List.length_replicate, if_pos hj, getD_repl, if_pos hj]; grind
  · rw [lst]
    unfold last0
    rw [getD_app, List.length_replicate, if_neg (by omega), getD_repl, if_pos (by omega)]
  · have := pos i j hi hj
    grind
theorem base0_bf (n m : Nat) : ∀ i, i < n → bf (base0 n m) i = m + i := fun i hi => by
  unfold bf base0; rw [getD_range, if_pos hi]
/-! ### the column that comes in -/
def enterL (l : List Rat) : Option Nat := ((List.range (l.length - 1)).filter fun i => decide (l.getD i 0 < 0)).head?
theorem enterL_some {l : List Rat} {s : Nat} (h : enterL l = some s) : s < l.length - 1 ∧ l.getD s 0 < 0 ∧ ∀ j, j < s → 0 ≤ l.getD j 0 := by
  unfold enterL at h
  rw [List.head?_filter, List.find?_range_eq_some] at h
  obtain ⟨h1, h2, h3⟩ := h
  refine ⟨by simpa using h2, of_decide_eq_true h1, fun j hj => ?_⟩
  have := h3 j hj
  simp only [Bool.not_eq_true', decide_eq_false_iff_not] at this
  grind
theorem enterL_none {l : List Rat} (h : enterL l = none) : ∀ j, j < l.length - 1 → 0 ≤ l.getD j 0 := by
  unfold enterL at h
  rw [List.head?_filter, List.find?_eq_none] at h
  intro j hj
  have := h j (List.mem_range.mpr hj)
  simp only [decide_eq_true_eq] at this
  grind
end Sx
end
section
set_option Elab.async false
set_option linter.all false
set_option maxRecDepth 100000
set_option maxHeartbeats 4000000
/-! The text by places; defs that are called by name; values at a heap; readings with what is known of the value. -/
namespace Mx
open PySem L2 Evl
def top (i : Nat) : Stmt := PySem.Challenge.pw_astherulessay_k32_whole_matrices_of_two.main.body.getD i (.Pass ⟨0, 0, 0, 0⟩)
/-- a def that stands in the module by its name and keeps its promise -/
structure Fn (P : Program) (w : World) (K : PySem.W.Frag) (mg : Str → Option Value) (base : Heap) (x : Str) (ps : List Str) (k : Nat) (sp : Sp) : Prop where
  ok : ∃ (f : Addr) (fd : FuncData), FnOk P w K mg base CX0 k f fd ps sp ∧ Binds K fd ps [] ∧ mg x = some (.ref f) ∧ PySem.W.keepIn K (.ref f) = true
/-- where a def of the text stands -/
structure Dn (K : PySem.W.Frag) (mg : Str → Option Value) (x : Str) (st : Stmt) (ps : List Str) : Prop where
  ok : ∃ (f : Addr) (fd : FuncData), Fun K x x st f fd ∧ Binds K fd ps [] ∧ mg x = some (.ref f)
theorem Dn.fn {P : Program} {w : World} {K : PySem.W.Frag} {mg : Str → Option Value} {base : Heap} {x : Str} {st : Stmt} {N ps : List Str} {k : Nat} {sp : Sp} (F : Dn K mg x st ps) (S : FnScope N ps (defScope st)) (len : ∀ vs H Q E, sp vs H Q E → vs.length = ps.length)
    (hbody : ∀ (f : Addr) (cdv : Value) (A : Around) (outer : List Env) (s : Shared) (H : Hp) (vs : List V) (Q : VK) (E : XK), Room k (A.deeper (PyProof.Rows.envOfC x (defScope st) s.heap.objs.size f cdv)) → sp vs H Q E →
      ∃ t, PSs (cxOf CX0 P w K mg base N x (defScope st) f cdv A outer s H E).nox (defBody st) t ∧ t { nx := fun _ H' => Q .non H', rt := Q } (start N vs) H) : Fn P w K mg base x ps (k + 1) sp := by
  obtain ⟨f, fd, F, b, g⟩ := F.ok
  exact ⟨f, fd, F.ok S len (fun cdv A outer s H vs Q E hr h => hbody f cdv A outer s H vs Q E hr h), b, g, F.kp⟩
/-- the call of such a def -/
theorem pe_fn {X : Cx} {x : Str} {ps : List Str} {k : Nat} {sp : Sp} {p pos : Pos} {e : Expr} {es : List Expr} {t : TA} (G : Fn X.prog X.w X.K X.mg X.base x ps k sp) (hr : Room k X.A) (ha : PA X (e :: es) t) (hg : Gl X x := by rfl)
    (hdb : (x == ("__debug__" : Str)) = false := by decide) (he : starEach (e :: es) X.env = (false, eval e X.env) :: starEach es X.env := by rfl) (hpl : (backTo pos (starEach es X.env)).any (·.1) = false := by rfl) :
    PE X (.Call (.Name x p) (e :: es) [] pos) (tCall sp [] E0 t) := by
  obtain ⟨f, fd, F, b, g, kp⟩ := G.ok
  exact pe_call F hr hg g kp b .nil pass0 ha hdb he hpl
/-- built-ins that stand -/
structure Bt (mg : Str → Option Value) : Prop where
  abs : mg "abs" = none
  int : mg "int" = none
  len : mg "len" = none
  isinstance : mg "isinstance" = none
  tuple : mg "tuple" = none
  list : mg "list" = none
  bool : mg "bool" = none
  all : mg "all" = none
  any : mg "any" = none
  zip : mg "zip" = none
  enumerate : mg "enumerate" = none
  range : mg "range" = none
  min : mg "min" = none
  max : mg "max" = none
  dict : mg "dict" = none
  sum : mg "sum" = none
  repr : mg "repr" = none
/-! ### values at a heap -/
/-- a fraction -/
def FrV (K : PySem.W.Frag) (H : Hp) (v : V) (q : Rat) : Prop := ∃ a, v = .ref a ∧ SqT K H a [.int q.num, .int q.den]
/-- a tuple | a list of things -/
def TuV {α : Type} (R : PySem.W.Frag → Hp → V → α → Prop) (K : PySem.W.Frag) (H : Hp) (v : V) (xs : List α) : Prop := ∃ a vs, v = .ref a ∧ SqT K H a vs ∧ Paired (R K H) vs xs
def LsV {α : Type} (R : PySem.W.Frag → Hp → V → α → Prop) (K : PySem.W.Frag) (H : Hp) (v : V) (xs : List α) : Prop := ∃ a vs, v = .ref a ∧ SqL K H a vs ∧ Paired (R K H) vs xs
def InV (_ : PySem.W.Frag) (_ : Hp) (v : V) (i : Int) : Prop := v = .int i
abbrev RoV := TuV FrV
abbrev MaV := TuV (TuV FrV)
/-- what is read of tuples stays -/
def ExT (H H' : Hp) : Prop := ∀ a, (∀ xs, H a = some (.tup xs) → H' a = some (.tup xs)) ∧ ∀ o u, H a = some (.frz o u) → H' a = some (.frz o u)
theorem ExT.of {H H' : Hp} (e : Ex H H') : ExT H H' := fun a => ⟨fun _ h => e a _ h, fun _ _ h => e a _ h⟩
theorem ExT.refl (H : Hp) : ExT H H := fun _ => ⟨fun _ h => h, fun _ _ h => h⟩
theorem ExT.trans {H H1 H2 : Hp} (a : ExT H H1) (b : ExT H1 H2) : ExT H H2 := fun x => ⟨fun xs h => (b x).1 xs ((a x).1 xs h), fun o u h => (b x).2 o u ((a x).2 o u h)⟩
/-- a list that is put, whatever stood there but a tuple -/
theorem ExT.put {H H1 : Hp} {p : Addr} {o : HO} (e : ExT H H1) (h : ∀ xs, H p ≠ some (.tup xs)) (h' : ∀ o u, H p ≠ some (.frz o u)) : ExT H (upd H1 p o) := fun a => by
  by_cases ea : a = p
  · subst ea
    exact ⟨fun xs q => absurd q (h xs), fun o u q => absurd q (h' o u)⟩
  · rw [upd_ne ea]
    exact e a
theorem ExT.t {K : PySem.W.Frag} {H H' : Hp} {a : Addr} {xs : List V} (e : ExT H H') (h : SqT K H a xs) : SqT K H' a xs := by
  rcases h with (h | ⟨o, h⟩) | h
  · exact .inl (.inl ((e a).1 _ h))
  · exact .inl (.inr ⟨o, (e a).2 _ _ h⟩)
  · exact .inr h
theorem FrV.mono {K : PySem.W.Frag} {H H' : Hp} {v : V} {q : Rat} (e : ExT H H') (h : FrV K H v q) : FrV K H' v q := by
  obtain ⟨a, ea, h⟩ := h
  exact ⟨a, ea, e.t h⟩
theorem TuV.mono {α : Type} {R : PySem.W.Frag → Hp → V → α → Prop} {K : PySem.W.Frag} {H H' : Hp} {v : V} {xs : List α} (hR : ∀ v x, R K H v x → R K H' v x) (e : ExT H H') (h : TuV R K H v xs) : TuV R K H' v xs := by
  obtain ⟨a, vs, ea, h, p⟩ := h
  exact ⟨a, vs, ea, e.t h, L2.Paired.mapP p hR⟩
theorem RoV.mono {K : PySem.W.Frag} {H H' : Hp} {v : V} {q : List Rat} (e : ExT H H') (h : RoV K H v q) : RoV K H' v q := TuV.mono (fun _ _ => FrV.mono e) e h
theorem MaV.mono {K : PySem.W.Frag} {H H' : Hp} {v : V} {q : List (List Rat)} (e : ExT H H') (h : MaV K H v q) : MaV K H' v q := TuV.mono (fun _ _ => RoV.mono e) e h
theorem LsV.mono {α : Type} {R : PySem.W.Frag → Hp → V → α → Prop} {K : PySem.W.Frag} {H H' : Hp} {v : V} {xs : List α} (hR : ∀ v x, R K H v x → R K H' v x) (e : Ex H H') (h : LsV R K H v xs) : LsV R K H' v xs := by
  obtain ⟨a, vs, ea, h, p⟩ := h
  exact ⟨a, vs, ea, ex_l e h, L2.Paired.mapP p hR⟩
/-- a new fraction -/
theorem FrV.new {K : PySem.W.Frag} {H : Hp} {p : Addr} {q : Rat} {a b : Int} (ha : a = q.num) (hb : b = q.den) : FrV K (upd H p (.tup [.int a, .int b])) (.ref p) q := ⟨p, rfl, by rw [ha, hb]; exact st_of upd_same⟩
/-! ### readings: what is known of the value -/
/-- in each heap that goes on from H, t tells some value of which P holds, in a heap that goes on -/
def Gv (t : TE) (σ : L2.St) (H : Hp) (P : V → Hp → Prop) : Prop := ∀ H1, Ex H H1 → ∀ Q : VK, (∀ v H2, Ex H1 H2 → P v H2 → Q v H2) → t σ H1 Q
def Gt (t : TT) (σ : L2.St) (H : Hp) (b : Bool) : Prop := EvT t σ H b
def Ga (t : TA) (σ : L2.St) (H : Hp) (P : List V → Hp → Prop) : Prop := ∀ H1, Ex H H1 → ∀ Q : List V → Hp → Prop, (∀ vs H2, Ex H1 H2 → P vs H2 → Q vs H2) → t σ H1 Q
section
variable {K : PySem.W.Frag} {σ : L2.St} {H H' : Hp} {t ta tb : TE} {P P' : V → Hp → Prop}
theorem Gv.imp (h : Gv t σ H P) (i : ∀ v H', Ex H H' → P v H' → P' v H') : Gv t σ H P' := fun H1 e Q q => h H1 e Q fun v H2 e2 p => q v H2 e2 (i v H2 (e.trans e2) p)
theorem Gv.mono (e : Ex H H') (h : Gv t σ H P) : Gv t σ H' P := fun H1 a Q q => h H1 (e.trans a) Q q
/-- at the heap as it is -/
theorem Gv.go (h : Gv t σ H P) {Q : VK} (q : ∀ v H2, Ex H H2 → P v H2 → Q v H2) : t σ H Q := h H (Ex.refl H) Q q
theorem gv_of {v : V} (h : Ev t σ H v) (p : ∀ H', Ex H H' → P v H') : Gv t σ H P := fun H1 e Q q => h H1 e Q fun H2 e2 => q v H2 e2 (p H2 (e.trans e2))
theorem gv_var {i : Nat} {v : V} (h : σ[i]? = some (some v)) (p : ∀ H', Ex H H' → P v H') : Gv (tVar i) σ H P := gv_of (ev_var h) p
theorem gv_c {v : V} (p : ∀ H', Ex H H' → P v H') : Gv (tC v) σ H P := gv_of ev_c p
theorem gv_var1 {i : Nat} {v : V} (h : σ[i]? = some (some v)) : Gv (tVar i) σ H (fun x _ => x = v) := gv_var h fun _ _ => rfl
theorem gv_c1 {v : V} : Gv (tC v) σ H (fun x _ => x = v) := gv_c fun _ _ => rfl
theorem gv_op {r : R2} {A B : V → Hp → Prop} (ha : Gv ta σ H A) (hb : Gv tb σ H B) (mA : ∀ v H1 H2, Ex H1 H2 → A v H1 → A v H2) (hr : ∀ x y H1, Ex H H1 → A x H1 → B y H1 → ∀ Q : VK, (∀ v H2, Ex H1 H2 → P v H2 → Q v H2) → r x y H1 Q) :
    Gv (tOp r ta tb) σ H P := fun H1 e Q q =>
  ha H1 e _ fun x H2 e2 px => hb H2 (e.trans e2) _ fun y H3 e3 py => hr x y H3 ((e.trans e2).trans e3) (mA x H2 H3 e3 px) py Q fun v H4 e4 pv => q v H4 ((e2.trans e3).trans e4) pv
theorem ga_nil : Ga tNil σ H (fun vs _ => vs = []) := fun H1 _ Q q => q [] H1 (Ex.refl H1) rfl
theorem ga_cons {tr : TA} {A : V → Hp → Prop} {B : List V → Hp → Prop} (h : Gv t σ H A) (hr : Ga tr σ H B) (mA : ∀ v H1 H2, Ex H1 H2 → A v H1 → A v H2) : Ga (tCons t tr) σ H (fun vs H' => ∃ v r, vs = v :: r ∧ A v H' ∧ B r H') := fun H1 e Q q =>
  h H1 e _ fun v H2 e2 pv => hr H2 (e.trans e2) _ fun r H3 e3 pr => q _ H3 (e2.trans e3) ⟨v, r, rfl, mA v H2 H3 e3 pv, pr⟩
/-- a promise that tells P of its value, all else kept -/
def Tells (sp : Sp) (vs : List V) (H : Hp) (P : V → Hp → Prop) : Prop := ∀ (Q : VK) (E : XK), (∀ v H2, Ex H H2 → P v H2 → Q v H2) → sp vs H Q E
theorem gv_call {sp : Sp} {E : XK} {ta : TA} {B : List V → Hp → Prop} (h : Ga ta σ H B) (hs : ∀ vs H1, Ex H H1 → B vs H1 → Tells sp vs H1 P) : Gv (tCall sp [] E ta) σ H P := fun H1 e Q q =>
  h H1 e _ fun vs H2 e2 b => by
    show sp (vs ++ []) H2 Q E
    rw [List.append_nil]
    exact hs vs H2 (e.trans e2) b Q E fun v H3 e3 p => q v H3 (e2.trans e3) p
theorem gv_cb {r : List V → Hp → VK → Prop} {ta : TA} {B : List V → Hp → Prop} (h : Ga ta σ H B) (hr : ∀ vs H1, Ex H H1 → B vs H1 → ∀ Q : VK, (∀ v H2, Ex H1 H2 → P v H2 → Q v H2) → r vs H1 Q) : Gv (tCB r ta) σ H P := fun H1 e Q q =>
  h H1 e _ fun vs H2 e2 b => hr vs H2 (e.trans e2) b Q fun v H3 e3 p => q v H3 (e2.trans e3) p
end
end Mx
end
section
set_option Elab.async false
set_option linter.all false
set_option maxRecDepth 100000
set_option maxHeartbeats 4000000
/-! The program's fractions. -/
namespace Mx
open PySem L2 Evl Fra
abbrev sIsInteger : Stmt := top 4
abbrev sCommon : Stmt := top 8
abbrev sPart : Stmt := top 9
abbrev sPlus : Stmt := top 10
abbrev sMinus : Stmt := top 11
abbrev sTimes : Stmt := top 12
abbrev sDivided : Stmt := top 13
abbrev sIsLess : Stmt := top 14
/-- isinstance of one built-in class, both answers -/
def spIsInteger : Sp := fun vs H Q _ => ∃ i : Int, vs = [.int i] ∧ Q (.bl true) H
def spCommon : Sp := fun vs H Q _ => ∃ i j : Int, vs = [.int i, .int j] ∧ Q (.int (Int.gcd i j)) H
def spPart (K : PySem.W.Frag) : Sp := fun vs H Q _ => ∃ t l : Int, vs = [.int t, .int l] ∧ l ≠ 0 ∧ l.natAbs < 2 ^ 9000 ∧ t.natAbs < 2 ^ 9000 ∧ ∀ v H', Ex H H' → FrV K H' v (Rat.divInt t l) → Q v H'
/-- two fractions of together less than 8999 signs -/
def spFr2 (K : PySem.W.Frag) (g : Rat → Rat → Rat) (C : Rat → Rat → Prop) : Sp := fun vs H Q _ => ∃ (v w : V) (p q : Rat) (a b : Nat), vs = [v, w] ∧ FrV K H v p ∧ FrV K H w q ∧ Bits p a ∧ Bits q b ∧ a + b < 8999 ∧ C p q ∧ ∀ u H', Ex H H' → FrV K H' u (g p q) → Q u H'
abbrev CY : Rat → Rat → Prop := fun _ _ => True
def spLess (K : PySem.W.Frag) : Sp := fun vs H Q _ => ∃ (v w : V) (p q : Rat) (a b : Nat), vs = [v, w] ∧ FrV K H v p ∧ FrV K H w q ∧ Bits p a ∧ Bits q b ∧ a + b ≤ 100000 ∧ Q (.bl (decide (p < q))) H
section
variable {P : Program} {w : World} {K : PySem.W.Frag} {mg : Str → Option Value} {base : Heap}
theorem scIsInteger : FnScope ["value"] ["value"] (defScope sIsInteger) := ⟨rfl, rfl, rfl, by decide +kernel, rfl, by decide +kernel, by decide +kernel⟩
theorem kit_ii {K : PySem.W.Frag} : PySem.W.kitOne K (.type "int") (.type "int") = some true := by rfl
theorem kit_ib {K : PySem.W.Frag} : PySem.W.kitOne K (.type "int") (.type "bool") = some false := by rfl
theorem ok_is_integer (T : Bt mg) (F : Dn K mg "is_integer" sIsInteger ["value"]) : Fn P w K mg base "is_integer" ["value"] 1 spIsInteger := by
  refine F.fn scIsInteger (fun vs H Q E h => ?_) (fun f cdv A outer s H vs Q E hr h => ?_)
  · obtain ⟨i, rfl, _⟩ := h; rfl
  obtain ⟨i, rfl, q⟩ := h
  refine ⟨_, pss_one (ps_ret (pe_and (pe_callB call_isi (by rfl) T.isinstance (by decide +kernel) (pa_cons (pv 0) (pa_cons (pe_bltn (v := .ty "int") (by rfl) T.int (by decide +kernel) rfl) pa_nil)))
    (pe_one (pe_not (pe_callB call_isi (by rfl) T.isinstance (by decide +kernel) (pa_cons (pv 0) (pa_cons (pe_bltn (v := .ty "bool") (by rfl) T.bool (by decide +kernel) rfl) pa_nil))))))), ?_⟩
  refine ⟨_, rfl, _, _, _, _, _, rfl, .ty "int", .base (.int i), kit_ii, _, rfl, ?_⟩
  refine iteT ?_
  refine ⟨_, rfl, _, _, _, _, _, rfl, .ty "bool", .base (.int i), kit_ib, _, rfl, ?_⟩
  exact q
theorem scCommon : FnScope ["one", "other"] ["one", "other"] (defScope sCommon) := ⟨rfl, rfl, rfl, by decide +kernel, rfl, by decide +kernel, by decide +kernel⟩
theorem ok_common (T : Bt mg) (F : Dn K mg "common" sCommon ["one", "other"]) : Fn P w K mg base "common" ["one", "other"] 1 spCommon := by
  refine F.fn scCommon (fun vs H Q E h => ?_) (fun f cdv A outer s H vs Q E hr h => ?_)
  · obtain ⟨i, j, rfl, _⟩ := h; rfl
  obtain ⟨i, j, rfl, q⟩ := h
  refine ⟨_, pss_cons (ps_par (i := 0) (j := 1) (by rfl) scCommon.nd rfl rfl (by decide) rfl rfl (pa_cons (pe_callB call_abs (by rfl) T.abs (by decide +kernel) (pa_cons (pv 0) pa_nil)) (pa_cons (pe_callB call_abs (by rfl) T.abs (by decide +kernel) (pa_cons (pv 1) pa_nil)) pa_nil)) (by rfl))
    (pss_cons (ps_while PassesOwn.never (pt_cmpR op_ne (pv 1) pe_int (nomark _)) (pss_one (ps_par (i := 0) (j := 1) (by rfl) scCommon.nd rfl rfl (by decide) rfl rfl (pa_cons (pv 1) (pa_cons (pe_op op_modN (pv 0) (pv 1)) pa_nil)) (by rfl))))
      (pss_one (ps_ret (pv 0)))), ?_⟩
  have ab : ∀ x : Int, (if x < 0 then -x else x) = (x.natAbs : Int) := fun x => by split <;> omega
  refine ⟨_, rfl, _, rfl, _, rfl, _, rfl, _, _, rfl, ?_⟩
  rw [ab, ab]
  refine while_by (fun σ H' => H' = H ∧ ∃ x y : Nat, σ = [some (.int x), some (.int y)] ∧ Int.gcd x y = Int.gcd i j) (fun σ _ => match σ with | [_, some (.int y)] => y.natAbs | _ => 0) ⟨rfl, i.natAbs, j.natAbs, rfl, by simp [Int.gcd]⟩ ?_ ?_
  · rintro σ H' ⟨rfl, x, y, rfl, e⟩
    refine ⟨_, rfl, rfl, _, rfl, ?_⟩
    refine ite2 (fun c => ?_) (fun c => ?_)
    · have y0 : y ≠ 0 := fun z => by rw [z] at c; exact absurd c (by decide)
      refine ⟨_, rfl, _, rfl, _, rfl, _, _, rfl, rfl, by omega, _, _, rfl, ⟨rfl, y, x % y, ?_, ?_⟩, ?_⟩
      · show [some (V.int y), some (V.int ((x : Int).fmod y))] = _
        rw [Int.fmod_eq_emod_of_nonneg _ (by omega)]; rfl
      · rw [← e, ← gcd_step (x := x) (y := y) (by omega) (by omega), Int.fmod_eq_emod_of_nonneg _ (by omega)]; rfl
      · show ((x : Int).fmod y).natAbs < (y : Int).natAbs
        rw [Int.fmod_eq_emod_of_nonneg _ (by omega)]
        have := Int.emod_lt_of_pos (x : Int) (b := y) (by omega)
        have := Int.emod_nonneg (x : Int) (b := y) (by omega)
        omega
    · have y0 : y = 0 := Classical.byContradiction fun z => c (by
        show (!decide (V.int y = V.int 0)) = true
        rw [decide_eq_false (fun q => z (by injection q with q; omega))]; rfl)
      subst y0
      refine ⟨_, rfl, ?_⟩
      have : (x : Int) = (Int.gcd i j : Int) := by rw [← e]; simp
      rw [this]
      exact q
  · rintro σ H' Q1 Q2 m ⟨v, h1, h2, k, h3, h4⟩
    exact ⟨v, h1, h2, k, h3, m _ _ h4⟩
theorem scPart : FnScope ["top", "low", "divisor", "sign"] ["top", "low"] (defScope sPart) := ⟨rfl, rfl, rfl, by decide +kernel, rfl, by decide +kernel, by decide +kernel⟩
theorem ok_part (T : Bt mg) (F : Dn K mg "part" sPart ["top", "low"]) (G : Fn P w K mg base "common" ["one", "other"] 1 spCommon) : Fn P w K mg base "part" ["top", "low"] 2 (spPart K) := by
  refine F.fn scPart (fun vs H Q E h => ?_) (fun f cdv A outer s H vs Q E hr h => ?_)
  · obtain ⟨i, j, rfl, _⟩ := h; rfl
  obtain ⟨t, l, rfl, l0, lb, tb, q⟩ := h
  refine ⟨_, pss_cons (ps_set (i := 2) scPart.nd rfl (.inl rfl) (pe_fn G hr (pa_cons (pv 0) (pa_cons (pv 1) pa_nil))))
    (pss_cons (ps_set (i := 3) scPart.nd rfl (.inl rfl) (pe_ifExp (pt_cmpR op_gt (pv 1) pe_int (nomark _)) pe_int (pe_op op_sub pe_int pe_int)))
      (pss_one (ps_ret (pe_tup (pa_cons (pe_op op_fdivW (pe_op op_mul (pv 3) (pv 0)) (pv 2)) (pa_cons (pe_op op_fdivW (pe_op op_mul (pv 3) (pv 1)) (pv 2)) pa_nil)))))), ?_⟩
  have g0 : 0 < Int.gcd t l := Int.gcd_pos_of_ne_zero_right t l0
  have gb : (Int.gcd t l : Int).natAbs < 2 ^ 9000 := by
    have h1 : Int.gcd t l ≤ l.natAbs := Nat.gcd_le_right _ (by omega)
    exact Nat.lt_of_le_of_lt (by simpa using h1) lb
  have gd : CDivW 0 (Int.gcd t l : Int) := wide_div (by omega) gb (by decide) (by decide)
  refine ⟨_, rfl, _, rfl, t, l, rfl, ?_⟩
  refine ⟨_, rfl, _, _, rfl, rfl, _, rfl, ?_⟩
  -- the sign
  have go : ∀ sg : Int, sg = (if 0 < l then (1 : Int) else 0 - 1) → (sg = 1 ∨ sg = -1) → tRet (tTup (tCons (tOp (rI CDivW fun i j => .int (i / j)) (tOp (rI CMul fun i j => .int (i * j)) (tVar 3) (tVar 0)) (tVar 2)) (tCons (tOp (rI CDivW fun i j => .int (i / j)) (tOp (rI CMul fun i j => .int (i * j)) (tVar 3) (tVar 1)) (tVar 2)) tNil)))
      { nx := fun _ H' => Q .non H', rt := Q } [some (.int t), some (.int l), some (.int (Int.gcd t l)), some (.int sg)] H := by
    intro sg es s1
    have sm : -(2 ^ 64) < sg ∧ sg < 2 ^ 64 := by rcases s1 with e | e <;> rw [e] <;> decide
    refine ⟨_, rfl, _, rfl, _, _, rfl, rfl, .inl sm, _, rfl, _, _, rfl, rfl, gd, _, rfl, _, rfl, _, _, rfl, rfl, .inl sm, _, rfl, _, _, rfl, rfl, gd, (by show 2 ≤ sizeLine; decide), fun p hp => ?_⟩
    refine q _ _ (Ex.new hp) (FrV.new ?_ ?_)
    · rw [es]; exact part_num l0 _ rfl
    · rw [es]; exact part_den l0 _ rfl
  refine ite2 (fun c => ?_) (fun c => ?_)
  · have c' : 0 < l := of_decide_eq_true c
    exact go 1 (by rw [if_pos c']) (.inl rfl)
  · have c' : ¬ 0 < l := of_decide_eq_false (Bool.eq_false_iff.mpr c)
    refine ⟨_, _, rfl, rfl, ?_⟩
    exact go (0 - 1) (by rw [if_neg c']) (.inr rfl)
end
end Mx
end
section
set_option Elab.async false
set_option linter.all false
set_option maxRecDepth 100000
set_option maxHeartbeats 4000000
/-! The program's fractions: sums, products, order; lots of them. -/
namespace Mx
open PySem L2 Evl Fra
theorem mul_ok {x y : Int} {a b : Nat} (h1 : x.natAbs < 2 ^ a) (h2 : y.natAbs < 2 ^ b) (h : a + b ≤ 200000) : CMulW x y :=
  wide_mul (a := a + 1) (b := b + 1) (Nat.lt_of_lt_of_le h1 (Nat.pow_le_pow_right (by decide) (by omega))) (Nat.lt_of_lt_of_le h2 (Nat.pow_le_pow_right (by decide) (by omega))) (by omega) (by omega) (by omega)
theorem pow_le {x a b : Nat} (h : x < 2 ^ a) (e : a ≤ b) : x < 2 ^ b := Nat.lt_of_lt_of_le h (Nat.pow_le_pow_right (by decide) e)
theorem at0 {x : V} {r : List V} : atI (x :: r) 0 = some x := atI_nat (j := 0) rfl
theorem at1 {x y : V} {r : List V} : atI (x :: y :: r) 1 = some y := atI_nat (j := 1) rfl
theorem plain0 {b : Expr} (h : ∀ o i, subscripted b false o i = operate [o, i] (getItem o i) := by exact fun _ _ => rfl) : PlainIx b := h
section
variable {P : Program} {w : World} {K : PySem.W.Frag} {mg : Str → Option Value} {base : Heap}
theorem scPlus : FnScope ["one", "other"] ["one", "other"] (defScope sPlus) := ⟨rfl, rfl, rfl, by decide +kernel, rfl, by decide +kernel, by decide +kernel⟩
theorem scMinus : FnScope ["one", "other"] ["one", "other"] (defScope sMinus) := ⟨rfl, rfl, rfl, by decide +kernel, rfl, by decide +kernel, by decide +kernel⟩
theorem scTimes : FnScope ["one", "other"] ["one", "other"] (defScope sTimes) := ⟨rfl, rfl, rfl, by decide +kernel, rfl, by decide +kernel, by decide +kernel⟩
theorem scDivided : FnScope ["one", "other"] ["one", "other"] (defScope sDivided) := ⟨rfl, rfl, rfl, by decide +kernel, rfl, by decide +kernel, by decide +kernel⟩
theorem scIsLess : FnScope ["one", "other"] ["one", "other"] (defScope sIsLess) := ⟨rfl, rfl, rfl, by decide +kernel, rfl, by decide +kernel, by decide +kernel⟩
theorem ok_plus (F : Dn K mg "plus" sPlus ["one", "other"]) (G : Fn P w K mg base "part" ["top", "low"] 2 (spPart K)) : Fn P w K mg base "plus" ["one", "other"] 3 (spFr2 K (· + ·) CY) := by
  refine F.fn scPlus (fun vs H Q E h => ?_) (fun f cdv A outer s H vs Q E hr h => ?_)
  · obtain ⟨_, _, _, _, _, _, rfl, _⟩ := h; rfl
  obtain ⟨_, _, p, q, a, b, rfl, ⟨pa, rfl, hp⟩, ⟨qa, rfl, hq⟩, bp, bq, ab, _, k⟩ := h
  refine ⟨_, pss_one (ps_ret (pe_fn G hr (pa_cons (pe_op op_add (pe_op op_mulW (pe_ix ix_tup (pv 0) pe_int (fun _ _ => rfl)) (pe_ix ix_tup (pv 1) pe_int (fun _ _ => rfl))) (pe_op op_mulW (pe_ix ix_tup (pv 1) pe_int (fun _ _ => rfl)) (pe_ix ix_tup (pv 0) pe_int (fun _ _ => rfl))))
    (pa_cons (pe_op op_mulW (pe_ix ix_tup (pv 0) pe_int (fun _ _ => rfl)) (pe_ix ix_tup (pv 1) pe_int (fun _ _ => rfl))) pa_nil)))), ?_⟩
  have m1 := mul_ok bp.1 (nd bq.2) (by omega : a + b ≤ 200000)
  have m2 := mul_ok bq.1 (nd bp.2) (by omega : b + a ≤ 200000)
  have m3 := mul_ok (nd bp.2) (nd bq.2) (by omega : a + b ≤ 200000)
  refine ⟨_, rfl, _, _, _, _, rfl, rfl, hp, at0, _, rfl, _, _, _, _, rfl, rfl, hq, at1, _, _, rfl, rfl, m1, _, rfl, _, _, _, _, rfl, rfl, hq, at0, _, rfl, _, _, _, _, rfl, rfl, hp, at1, _, _, rfl, rfl, m2, _, _, rfl, rfl,
    _, rfl, _, _, _, _, rfl, rfl, hp, at1, _, rfl, _, _, _, _, rfl, rfl, hq, at1, _, _, rfl, rfl, m3, _, _, rfl, den_mul_ne p q, ?_, ?_, fun v H' e hv => ?_⟩
  · exact pow_le (mul_lt (nd bp.2) (nd bq.2)) (by omega)
  · refine pow_le (add_lt (mul_lt bp.1 (nd bq.2)) (a := a + b) ?_) (by omega)
    have := mul_lt bq.1 (nd bp.2)
    rw [Nat.add_comm b a] at this; exact this
  · rw [plus_eq] at hv
    exact k v H' e hv
theorem ok_minus (F : Dn K mg "minus" sMinus ["one", "other"]) (G : Fn P w K mg base "part" ["top", "low"] 2 (spPart K)) : Fn P w K mg base "minus" ["one", "other"] 3 (spFr2 K (· - ·) CY) := by
  refine F.fn scMinus (fun vs H Q E h => ?_) (fun f cdv A outer s H vs Q E hr h => ?_)
  · obtain ⟨_, _, _, _, _, _, rfl, _⟩ := h; rfl
  obtain ⟨_, _, p, q, a, b, rfl, ⟨pa, rfl, hp⟩, ⟨qa, rfl, hq⟩, bp, bq, ab, _, k⟩ := h
  refine ⟨_, pss_one (ps_ret (pe_fn G hr (pa_cons (pe_op op_sub (pe_op op_mulW (pe_ix ix_tup (pv 0) pe_int (fun _ _ => rfl)) (pe_ix ix_tup (pv 1) pe_int (fun _ _ => rfl))) (pe_op op_mulW (pe_ix ix_tup (pv 1) pe_int (fun _ _ => rfl)) (pe_ix ix_tup (pv 0) pe_int (fun _ _ => rfl))))
    (pa_cons (pe_op op_mulW (pe_ix ix_tup (pv 0) pe_int (fun _ _ => rfl)) (pe_ix ix_tup (pv 1) pe_int (fun _ _ => rfl))) pa_nil)))), ?_⟩
  have m1 := mul_ok bp.1 (nd bq.2) (by omega : a + b ≤ 200000)
  have m2 := mul_ok bq.1 (nd bp.2) (by omega : b + a ≤ 200000)
  have m3 := mul_ok (nd bp.2) (nd bq.2) (by omega : a + b ≤ 200000)
  refine ⟨_, rfl, _, _, _, _, rfl, rfl, hp, at0, _, rfl, _, _, _, _, rfl, rfl, hq, at1, _, _, rfl, rfl, m1, _, rfl, _, _, _, _, rfl, rfl, hq, at0, _, rfl, _, _, _, _, rfl, rfl, hp, at1, _, _, rfl, rfl, m2, _, _, rfl, rfl,
    _, rfl, _, _, _, _, rfl, rfl, hp, at1, _, rfl, _, _, _, _, rfl, rfl, hq, at1, _, _, rfl, rfl, m3, _, _, rfl, den_mul_ne p q, ?_, ?_, fun v H' e hv => ?_⟩
  · exact pow_le (mul_lt (nd bp.2) (nd bq.2)) (by omega)
  · refine pow_le (sub_lt (mul_lt bp.1 (nd bq.2)) (a := a + b) ?_) (by omega)
    have := mul_lt bq.1 (nd bp.2)
    rw [Nat.add_comm b a] at this; exact this
  · rw [minus_eq] at hv
    exact k v H' e hv
theorem ok_times (F : Dn K mg "times" sTimes ["one", "other"]) (G : Fn P w K mg base "part" ["top", "low"] 2 (spPart K)) : Fn P w K mg base "times" ["one", "other"] 3 (spFr2 K (· * ·) CY) := by
  refine F.fn scTimes (fun vs H Q E h => ?_) (fun f cdv A outer s H vs Q E hr h => ?_)
  · obtain ⟨_, _, _, _, _, _, rfl, _⟩ := h; rfl
  obtain ⟨_, _, p, q, a, b, rfl, ⟨pa, rfl, hp⟩, ⟨qa, rfl, hq⟩, bp, bq, ab, _, k⟩ := h
  refine ⟨_, pss_one (ps_ret (pe_fn G hr (pa_cons (pe_op op_mulW (pe_ix ix_tup (pv 0) pe_int (fun _ _ => rfl)) (pe_ix ix_tup (pv 1) pe_int (fun _ _ => rfl)))
    (pa_cons (pe_op op_mulW (pe_ix ix_tup (pv 0) pe_int (fun _ _ => rfl)) (pe_ix ix_tup (pv 1) pe_int (fun _ _ => rfl))) pa_nil)))), ?_⟩
  have m1 := mul_ok bp.1 bq.1 (by omega : a + b ≤ 200000)
  have m3 := mul_ok (nd bp.2) (nd bq.2) (by omega : a + b ≤ 200000)
  refine ⟨_, rfl, _, _, _, _, rfl, rfl, hp, at0, _, rfl, _, _, _, _, rfl, rfl, hq, at0, _, _, rfl, rfl, m1,
    _, rfl, _, _, _, _, rfl, rfl, hp, at1, _, rfl, _, _, _, _, rfl, rfl, hq, at1, _, _, rfl, rfl, m3, _, _, rfl, den_mul_ne p q, ?_, ?_, fun v H' e hv => ?_⟩
  · exact pow_le (mul_lt (nd bp.2) (nd bq.2)) (by omega)
  · exact pow_le (mul_lt bp.1 bq.1) (by omega)
  · rw [times_eq] at hv
    exact k v H' e hv
theorem ok_divided (F : Dn K mg "divided" sDivided ["one", "other"]) (G : Fn P w K mg base "part" ["top", "low"] 2 (spPart K)) : Fn P w K mg base "divided" ["one", "other"] 3 (spFr2 K (· / ·) fun _ q => q ≠ 0) := by
  refine F.fn scDivided (fun vs H Q E h => ?_) (fun f cdv A outer s H vs Q E hr h => ?_)
  · obtain ⟨_, _, _, _, _, _, rfl, _⟩ := h; rfl
  obtain ⟨_, _, p, q, a, b, rfl, ⟨pa, rfl, hp⟩, ⟨qa, rfl, hq⟩, bp, bq, ab, q0, k⟩ := h
  refine ⟨_, pss_one (ps_ret (pe_fn G hr (pa_cons (pe_op op_mulW (pe_ix ix_tup (pv 0) pe_int (fun _ _ => rfl)) (pe_ix ix_tup (pv 1) pe_int (fun _ _ => rfl)))
    (pa_cons (pe_op op_mulW (pe_ix ix_tup (pv 0) pe_int (fun _ _ => rfl)) (pe_ix ix_tup (pv 1) pe_int (fun _ _ => rfl))) pa_nil)))), ?_⟩
  have m1 := mul_ok bp.1 (nd bq.2) (by omega : a + b ≤ 200000)
  have m3 := mul_ok (nd bp.2) bq.1 (by omega : a + b ≤ 200000)
  refine ⟨_, rfl, _, _, _, _, rfl, rfl, hp, at0, _, rfl, _, _, _, _, rfl, rfl, hq, at1, _, _, rfl, rfl, m1,
    _, rfl, _, _, _, _, rfl, rfl, hp, at1, _, rfl, _, _, _, _, rfl, rfl, hq, at0, _, _, rfl, rfl, m3, _, _, rfl, Int.mul_ne_zero (den_ne p) (num_ne q0), ?_, ?_, fun v H' e hv => ?_⟩
  · exact pow_le (mul_lt (nd bp.2) bq.1) (by omega)
  · exact pow_le (mul_lt bp.1 (nd bq.2)) (by omega)
  · rw [divided_eq] at hv
    exact k v H' e hv
theorem ok_is_less (F : Dn K mg "is_less" sIsLess ["one", "other"]) : Fn P w K mg base "is_less" ["one", "other"] 1 (spLess K) := by
  refine F.fn scIsLess (fun vs H Q E h => ?_) (fun f cdv A outer s H vs Q E hr h => ?_)
  · obtain ⟨_, _, _, _, _, _, rfl, _⟩ := h; rfl
  obtain ⟨_, _, p, q, a, b, rfl, ⟨pa, rfl, hp⟩, ⟨qa, rfl, hq⟩, bp, bq, ab, k⟩ := h
  refine ⟨_, pss_one (ps_ret (pe_cmpR op_lt (pe_op op_mulW (pe_ix ix_tup (pv 0) pe_int (fun _ _ => rfl)) (pe_ix ix_tup (pv 1) pe_int (fun _ _ => rfl))) (pe_op op_mulW (pe_ix ix_tup (pv 1) pe_int (fun _ _ => rfl)) (pe_ix ix_tup (pv 0) pe_int (fun _ _ => rfl))) (nomark _))), ?_⟩
  have m1 := mul_ok bp.1 (nd bq.2) (by omega : a + b ≤ 200000)
  have m2 := mul_ok bq.1 (nd bp.2) (by omega : b + a ≤ 200000)
  refine ⟨_, rfl, _, _, _, _, rfl, rfl, hp, at0, _, rfl, _, _, _, _, rfl, rfl, hq, at1, _, _, rfl, rfl, m1, _, rfl, _, _, _, _, rfl, rfl, hq, at0, _, rfl, _, _, _, _, rfl, rfl, hp, at1, _, _, rfl, rfl, m2, _, _, rfl, rfl, ?_⟩
  have : decide (p.num * q.den < q.num * p.den) = decide (p < q) := decide_eq_decide.mpr (less_iff p q)
  show Q (.bl (decide (p.num * q.den < q.num * p.den))) H
  rw [this]
  exact k
end
end Mx
end
section
set_option Elab.async false
set_option linter.all false
set_option maxRecDepth 100000
set_option maxHeartbeats 4000000
/-! Readings of walks and comprehensions with what is known of the values. -/
namespace Mx
open PySem L2 Evl Fra
/-- J is walked n turns in each heap that goes on from H; at turn i it gives a thing of which B i holds -/
def Wk (J : It) (n : Nat) (H : Hp) (B : Nat → Hp → V → Prop) : Prop := ∃ G : Hp → Prop, Walk J n G (fun i H' x H'' => Ex H' H'' ∧ (Ex H H' → B i H'' x)) ∧ ∀ H3, Ex H H3 → G H3
/-- what is walked stands in H | is made on the way -/
def Gi (wi : TI) (σ : L2.St) (H : Hp) (n : Nat) (B : Nat → Hp → V → Prop) : Prop := ∀ H1, Ex H H1 → ∀ R : It → Hp → Prop, (∀ J H2, Ex H1 H2 → Wk J n H B → R J H2) → wi σ H1 R
def Gn (wi : TI) (σ : L2.St) (H : Hp) (n : Nat) (B : Nat → Hp → V → Prop) : Prop := ∀ H1, Ex H H1 → ∀ R : It → Hp → Prop, (∀ J H2, Ex H1 H2 → Wk J n H2 B → R J H2) → wi σ H1 R
section
variable {K : PySem.W.Frag} {σ : L2.St} {H H' : Hp} {wi : TI} {n : Nat} {B : Nat → Hp → V → Prop} {J : It}
theorem Wk.mono (e : Ex H H') (h : Wk J n H B) : Wk J n H' B := by
  obtain ⟨G, w, g⟩ := h
  exact ⟨G, w.mono (fun _ q => q) fun i H1 x H2 _ _ y => ⟨y.1, fun e2 => y.2 (e.trans e2)⟩, fun H3 e3 => g H3 (e.trans e3)⟩
theorem Gi.gn (h : Gi wi σ H n B) : Gn wi σ H n B := fun H1 e R k => h H1 e R fun J H2 e2 w => k J H2 e2 (w.mono (e.trans e2))
theorem Gn.mono (e : Ex H H') (h : Gn wi σ H n B) : Gn wi σ H' n B := fun H1 e1 R k => h H1 (e.trans e1) R k
theorem Gn.imp {B' : Nat → Hp → V → Prop} (h : Gn wi σ H n B) (i : ∀ j H' x, j < n → B j H' x → B' j H' x) : Gn wi σ H n B' := fun H1 e R k => h H1 e R fun J H2 e2 ⟨G, w, g⟩ =>
  k J H2 e2 ⟨G, w.mono (fun _ q => q) fun j H3 x H4 hj _ y => ⟨y.1, fun e3 => i j H4 x hj (y.2 e3)⟩, g⟩
/-! ### what is walked -/
theorem wk_list {α : Type} {R : PySem.W.Frag → Hp → V → α → Prop} {a : Addr} {vs : List V} {xs : List α} (hl : SqL K H a vs) (p : Paired (R K H) vs xs) (mR : ∀ H1 H2 v x, Ex H1 H2 → R K H1 v x → R K H2 v x) :
    Wk (Itl K a) xs.length H (fun i H' v => ∃ x, xs[i]? = some x ∧ R K H' v x) := by
  have len : vs.length = xs.length := Paired.length p
  refine ⟨fun H' => SqL K H' a vs, ?_, fun H3 e => ex_l e hl⟩
  rw [← len]
  refine walk_list.mono (fun _ q => q) fun i H1 x H2 hi _ y => ?_
  obtain ⟨rfl, hx⟩ := y
  refine ⟨Ex.refl _, fun e => ?_⟩
  obtain ⟨y, hy, r⟩ := pget p hx
  exact ⟨y, hy, mR _ _ _ _ e r⟩
where
  pget {α β : Type} {F : α → β → Prop} : ∀ {l : List α} {m : List β} {i : Nat} {x : α}, Paired F l m → l[i]? = some x → ∃ y, m[i]? = some y ∧ F x y
    | _, _, _, _, .nil, e => by simp at e
    | _, _, 0, _, .cons r _, e => by simp at e; subst e; exact ⟨_, rfl, r⟩
    | _, _, i + 1, _, .cons _ t, e => by simpa using pget (i := i) t (by simpa using e)
theorem wk_tup {α : Type} {R : PySem.W.Frag → Hp → V → α → Prop} {a : Addr} {vs : List V} {xs : List α} (hl : SqT K H a vs) (p : Paired (R K H) vs xs) (mR : ∀ H1 H2 v x, Ex H1 H2 → R K H1 v x → R K H2 v x) :
    Wk (Itt K a) xs.length H (fun i H' v => ∃ x, xs[i]? = some x ∧ R K H' v x) := by
  have len : vs.length = xs.length := Paired.length p
  refine ⟨fun H' => SqT K H' a vs, ?_, fun H3 e => ex_t e hl⟩
  rw [← len]
  refine walk_tup.mono (fun _ q => q) fun i H1 x H2 hi _ y => ?_
  obtain ⟨rfl, hx⟩ := y
  refine ⟨Ex.refl _, fun e => ?_⟩
  obtain ⟨y, hy, r⟩ := wk_list.pget p hx
  exact ⟨y, hy, mR _ _ _ _ e r⟩
theorem wk_range {lo : Int} : Wk (Itr lo n) n H (fun i _ v => v = .int (lo + i)) :=
  ⟨fun _ => True, walk_range.mono (fun _ q => q) fun i H1 x H2 _ _ y => by obtain ⟨rfl, rfl⟩ := y; exact ⟨Ex.refl _, fun _ => rfl⟩, fun _ _ => True.intro⟩
theorem ypair {xs ys : Nat → Option V} {i : Nat} {H1 H2 : Hp} {v : V} (y : YPair xs ys i H1 v H2) : Ex H1 H2 ∧ ∃ T x z, v = .ref T ∧ H2 T = some (.tup [x, z]) ∧ xs i = some x ∧ ys i = some z := by
  obtain ⟨T, x, z, rfl, hT, rfl, h1, h2⟩ := y
  exact ⟨Ex.new hT, T, x, z, rfl, upd_same, h1, h2⟩
theorem wk_enum {α : Type} {R : PySem.W.Frag → Hp → V → α → Prop} {a : Addr} {vs : List V} {xs : List α} (hl : SqL K H a vs) (p : Paired (R K H) vs xs) (mR : ∀ H1 H2 v x, Ex H1 H2 → R K H1 v x → R K H2 v x) :
    Wk (Ite K a) xs.length H (fun i H' v => ∃ T w x, v = .ref T ∧ SqT K H' T [.int i, w] ∧ xs[i]? = some x ∧ R K H' w x) := by
  have len : vs.length = xs.length := Paired.length p
  refine ⟨fun H' => SqL K H' a vs, ?_, fun H3 e => ex_l e hl⟩
  rw [← len]
  refine walk_enum.mono (fun _ q => q) fun i H1 x H2 hi _ y => ?_
  obtain ⟨e12, T, z, w, rfl, hT, hz, hw⟩ := ypair y
  refine ⟨e12, fun e => ?_⟩
  cases hz
  obtain ⟨u, hu, r⟩ := wk_list.pget p hw
  exact ⟨T, w, u, rfl, st_of hT, hu, mR _ _ _ _ (e.trans e12) r⟩
theorem wk_zipL {α β : Type} {R : PySem.W.Frag → Hp → V → α → Prop} {S : PySem.W.Frag → Hp → V → β → Prop} {a b : Addr} {vs ws : List V} {xs : List α} {ys : List β} (hl : SqL K H a vs) (hm : SqL K H b ws) (p : Paired (R K H) vs xs) (q : Paired (S K H) ws ys)
    (mR : ∀ H1 H2 v x, Ex H1 H2 → R K H1 v x → R K H2 v x) (mS : ∀ H1 H2 v x, Ex H1 H2 → S K H1 v x → S K H2 v x) :
    Wk (Itz K a b) (min xs.length ys.length) H (fun i H' v => ∃ T w z x y, v = .ref T ∧ SqT K H' T [w, z] ∧ xs[i]? = some x ∧ ys[i]? = some y ∧ R K H' w x ∧ S K H' z y) := by
  have len : vs.length = xs.length := Paired.length p
  have len2 : ws.length = ys.length := Paired.length q
  refine ⟨fun H' => SqL K H' a vs ∧ SqL K H' b ws, ?_, fun H3 e => ⟨ex_l e hl, ex_l e hm⟩⟩
  rw [← len, ← len2]
  refine (walk_zip rfl).mono (fun _ q => q) fun i H1 x H2 hi _ y => ?_
  obtain ⟨e12, T, z, w, rfl, hT, hz, hw⟩ := ypair y
  refine ⟨e12, fun e => ?_⟩
  obtain ⟨u1, hu1, r1⟩ := wk_list.pget p hz
  obtain ⟨u2, hu2, r2⟩ := wk_list.pget q hw
  exact ⟨T, z, w, u1, u2, rfl, st_of hT, hu1, hu2, mR _ _ _ _ (e.trans e12) r1, mS _ _ _ _ (e.trans e12) r2⟩
theorem walk_zipT {a b : Addr} {xs ys : List V} {n : Nat} (hn : n = min xs.length ys.length) : Walk (RZ.ItzT K a b) n (fun H => SqT K H a xs ∧ SqT K H b ys) (YPair (fun i => xs[i]?) (fun i => ys[i]?)) := by
  subst hn
  refine ⟨fun i _ hi q => ?_, fun _ q => ⟨xs, ys, q.1, q.2, by omega⟩, fun i H v H' _ q y => ?_⟩
  · have h1 : i < xs.length := by omega
    have h2 : i < ys.length := by omega
    exact ⟨xs, ys, xs[i], ys[i], q.1, q.2, by simp [h1], by simp [h2]⟩
  · obtain ⟨T, x, z, h1, h2, h3, h4, h5⟩ := y
    exact ⟨T, x, z, h1, h2, h3, h4 xs q.1, h5 ys q.2⟩
theorem wk_zipT {α β : Type} {R : PySem.W.Frag → Hp → V → α → Prop} {S : PySem.W.Frag → Hp → V → β → Prop} {a b : Addr} {vs ws : List V} {xs : List α} {ys : List β} (hl : SqT K H a vs) (hm : SqT K H b ws) (p : Paired (R K H) vs xs) (q : Paired (S K H) ws ys)
    (mR : ∀ H1 H2 v x, Ex H1 H2 → R K H1 v x → R K H2 v x) (mS : ∀ H1 H2 v x, Ex H1 H2 → S K H1 v x → S K H2 v x) :
    Wk (RZ.ItzT K a b) (min xs.length ys.length) H (fun i H' v => ∃ T w z x y, v = .ref T ∧ SqT K H' T [w, z] ∧ xs[i]? = some x ∧ ys[i]? = some y ∧ R K H' w x ∧ S K H' z y) := by
  have len : vs.length = xs.length := Paired.length p
  have len2 : ws.length = ys.length := Paired.length q
  refine ⟨fun H' => SqT K H' a vs ∧ SqT K H' b ws, ?_, fun H3 e => ⟨ex_t e hl, ex_t e hm⟩⟩
  rw [← len, ← len2]
  refine (walk_zipT rfl).mono (fun _ q => q) fun i H1 x H2 hi _ y => ?_
  obtain ⟨e12, T, z, w, rfl, hT, hz, hw⟩ := ypair y
  refine ⟨e12, fun e => ?_⟩
  obtain ⟨u1, hu1, r1⟩ := wk_list.pget p hz
  obtain ⟨u2, hu2, r2⟩ := wk_list.pget q hw
  exact ⟨T, z, w, u1, u2, rfl, st_of hT, hu1, hu2, mR _ _ _ _ (e.trans e12) r1, mS _ _ _ _ (e.trans e12) r2⟩
/-! ### a for over it; W: Pv by the heap at its start, the turn, the slots, the heap -/
theorem s_for {g : TG} {tb : TS} {D : Ends} (hi : Gn wi σ H n B) (Pv : Hp → Nat → L2.St → Hp → Prop) (h0 : ∀ H2, Ex H H2 → Pv H2 0 σ H2) (hE : ∀ H2 i σ' H', Pv H2 i σ' H' → Ex H2 H')
    (hs : ∀ H2 i x σ' H' H'', Ex H H2 → i < n → Pv H2 i σ' H' → Ex H' H'' → B i H'' x → g x σ' H'' fun σ2 H3 => tb { D with nx := Pv H2 (i + 1), ct := Pv H2 (i + 1), bk := D.nx } σ2 H3) (hd : ∀ H2 σ' H', Ex H H2 → Pv H2 n σ' H' → D.nx σ' H') : tFor wi g tb D σ H :=
  hi H (Ex.refl H) _ fun J H2 e2 ⟨G, w, gg⟩ => for_it w (Pv H2) (h0 H2 e2) (fun i σ' H' _ p => gg H' (hE H2 i σ' H' p))
    (fun i x σ' H' H'' hi p y => hs H2 i x σ' H' H'' e2 hi p y.1 (y.2 (hE H2 i σ' H' p))) fun σ' H' p => hd H2 σ' H' e2 p
/-- .. where what is walked stood in H0, ahead of what is changed -/
theorem s_for0 {g : TG} {tb : TS} {D : Ends} {H0 : Hp} (hi : Gi wi σ H0 n B) (e0 : Ex H0 H) (Pv : Nat → L2.St → Hp → Prop) (h0 : ∀ H2, Ex H H2 → Pv 0 σ H2) (hE : ∀ i σ' H', Pv i σ' H' → Ex H0 H')
    (hs : ∀ i x σ' H' H'', i < n → Pv i σ' H' → Ex H' H'' → B i H'' x → g x σ' H'' fun σ2 H3 => tb { D with nx := Pv (i + 1), ct := Pv (i + 1), bk := D.nx } σ2 H3) (hd : ∀ σ' H', Pv n σ' H' → D.nx σ' H') : tFor wi g tb D σ H :=
  hi H e0 _ fun J H2 e2 ⟨G, w, gg⟩ => for_it w Pv (h0 H2 e2) (fun i σ' H' _ p => gg H' (hE i σ' H' p))
    (fun i x σ' H' H'' hi p y => hs i x σ' H' H'' hi p y.1 (y.2 (hE i σ' H' p))) fun σ' H' p => hd σ' H' p
/-! ### comprehensions: a new list of f i for the turns of which c i is so -/
/-- a new list at an address that H does not know -/
def NwL {α : Type} (R : PySem.W.Frag → Hp → V → α → Prop) (K : PySem.W.Frag) (H : Hp) (xs : List α) (v : V) (H' : Hp) : Prop := ∃ D vs, v = .ref D ∧ H D = none ∧ H' D = some (.lst vs) ∧ Paired (R K H') vs xs
def NwT {α : Type} (R : PySem.W.Frag → Hp → V → α → Prop) (K : PySem.W.Frag) (H : Hp) (xs : List α) (v : V) (H' : Hp) : Prop := ∃ D vs, v = .ref D ∧ H D = none ∧ H' D = some (.tup vs) ∧ Paired (R K H') vs xs
theorem NwL.ls {α : Type} {R : PySem.W.Frag → Hp → V → α → Prop} {xs : List α} {v : V} (h : NwL R K H xs v H') : LsV R K H' v xs := by
  obtain ⟨D, vs, e, _, h, p⟩ := h
  exact ⟨D, vs, e, sq_of h, p⟩
theorem NwT.tu {α : Type} {R : PySem.W.Frag → Hp → V → α → Prop} {xs : List α} {v : V} (h : NwT R K H xs v H') : TuV R K H' v xs := by
  obtain ⟨D, vs, e, _, h, p⟩ := h
  exact ⟨D, vs, e, st_of h, p⟩
theorem paired_append {α β : Type} {F : α → β → Prop} : ∀ {l l' : List α} {m m' : List β}, Paired F l m → Paired F l' m' → Paired F (l ++ l') (m ++ m')
  | _, _, _, _, .nil, q => q
  | _, _, _, _, .cons r t, q => .cons r (paired_append t q)
theorem range_filter_succ {c : Nat → Bool} {i : Nat} : (List.range (i + 1)).filter c = (List.range i).filter c ++ (if c i = true then [i] else []) := by
  rw [List.range_succ, List.filter_append]
  congr 1
  by_cases h : c i = true
  · rw [if_pos h, List.filter_cons_of_pos h, List.filter_nil]
  · rw [if_neg h, List.filter_cons_of_neg h, List.filter_nil]
theorem gv_lcIf {α : Type} {R : PySem.W.Frag → Hp → V → α → Prop} {g : TG} {tt : TT} {te : TE} {vs : List Nat} (hi : Gn wi σ H n B) (hn : n ≤ 100000) (f : Nat → α) (c : Nat → Bool) (mR : ∀ H1 H2 v x, ExT H1 H2 → R K H1 v x → R K H2 v x)
    (hs : ∀ i x H' Q, i < n → Ex H H' → B i H' x → (∀ σ2 H2, Ex H' H2 → wipe σ2 vs = wipe σ vs → Gt tt σ2 H2 (c i) → (c i = true → Gv te σ2 H2 (fun v H4 => R K H4 v (f i))) → Q σ2 H2) → g x (wipe σ vs) H' Q) :
    Gv (tLc wi g tt te vs) σ H (NwL R K H (((List.range n).filter c).map f)) := fun H1 e1 Q q =>
  hi H1 e1 _ fun J H2 e2 ⟨G, w, gg⟩ D hD => by
  have e12 := e1.trans e2
  -- H2: where the walk begins; D new
  refine lc_it w (fun i H' => Ex H2 H' ∧ ∃ acc, H' D = some (.lst acc) ∧ acc.length ≤ i ∧ Paired (R K H') acc (((List.range i).filter c).map f)) ⟨Ex.new hD, [], upd_same, Nat.le_refl _, .nil⟩ (fun i H' _ p => gg H' p.1) ?_ ?_
  · rintro i x H' H'' hin ⟨e', acc, hacc, hlen, hp⟩ ⟨e'', hB⟩
    have hB := hB e'
    have accN : H'' D = some (.lst acc) := e'' _ _ hacc
    have eT : ExT H' H'' := ExT.of e''
    refine hs i x H'' _ hin ((e12.trans e').trans e'') hB fun σ2 H3 e3 hw ht hv => ⟨hw, ?_⟩
    refine ht H3 (Ex.refl _) _ fun H4 e4 => ?_
    by_cases hc : c i = true
    · rw [if_pos hc]
      refine (hv hc) H4 e4 _ fun v H5 e5 r => ?_
      have e25 := (((e'.trans e'').trans e3).trans e4).trans e5
      have acc5 : H5 D = some (.lst acc) := e5 _ _ (e4 _ _ (e3 _ _ accN))
      refine ⟨acc, acc5, Nat.lt_of_le_of_lt hlen (Nat.lt_of_lt_of_le hin (sz_of hn)), ?_, acc ++ [v], upd_same, by rw [List.length_append, List.length_singleton]; omega, ?_⟩
      · exact e25.mut hD
      · have up : ExT H5 (upd H5 D (.lst (acc ++ [v]))) := (ExT.refl H5).put (fun xs z => by rw [acc5] at z; cases z) (fun o u z => by rw [acc5] at z; cases z)
        rw [range_filter_succ, if_pos hc, List.map_append]
        refine paired_append (L2.Paired.mapP hp fun v x r => mR _ _ v x ((ExT.of (((e''.trans e3).trans e4).trans e5)).trans up) r) (.cons (mR _ _ _ _ up r) .nil)
    · rw [if_neg hc]
      have e24 := ((e'.trans e'').trans e3).trans e4
      refine ⟨e24, acc, e4 _ _ (e3 _ _ accN), by omega, ?_⟩
      rw [range_filter_succ, if_neg hc, List.append_nil]
      exact L2.Paired.mapP hp fun v x r => mR _ _ v x (ExT.of ((e''.trans e3).trans e4)) r
  · rintro H' ⟨e', acc, hacc, hlen, hp⟩
    exact q _ H' (e2.trans e') ⟨D, acc, rfl, fresh_back e12 hD, hacc, hp⟩
theorem filter_true (l : List Nat) : l.filter (fun _ => true) = l := List.filter_eq_self.mpr fun _ _ => rfl
/-- .. without tests -/
theorem gv_lc {α : Type} {R : PySem.W.Frag → Hp → V → α → Prop} {g : TG} {te : TE} {vs : List Nat} (hi : Gn wi σ H n B) (hn : n ≤ 100000) (f : Nat → α) (mR : ∀ H1 H2 v x, ExT H1 H2 → R K H1 v x → R K H2 v x)
    (hs : ∀ i x H' Q, i < n → Ex H H' → B i H' x → (∀ σ2 H2, Ex H' H2 → wipe σ2 vs = wipe σ vs → Gv te σ2 H2 (fun v H4 => R K H4 v (f i)) → Q σ2 H2) → g x (wipe σ vs) H' Q) :
    Gv (tLc wi g tYes te vs) σ H (NwL R K H ((List.range n).map f)) := by
  have := gv_lcIf (R := R) (K := K) (tt := tYes) (vs := vs) hi hn f (fun _ => true) mR (fun i x H' Q h1 h2 h3 k => hs i x H' Q h1 h2 h3 fun σ2 H2 e w v => k σ2 H2 e w (fun H1 e1 Q q => q H1 (Ex.refl _)) fun _ => v)
  rw [filter_true] at this
  exact this
end
end Mx
end
section
set_option Elab.async false
set_option linter.all false
set_option maxRecDepth 100000
set_option maxHeartbeats 4000000
/-! sum_of, least_of, greatest_of. -/
namespace Mx
open PySem L2 Evl Fra
abbrev sSumOf : Stmt := top 15
abbrev sLeastOf : Stmt := top 16
abbrev sGreatestOf : Stmt := top 17
/-- the module's written fractions and numbers -/
structure Gc (K : PySem.W.Frag) (mg : Str → Option Value) : Prop where
  nothing : ∃ a, mg "NOTHING" = some (.ref a) ∧ ∀ H, FrV K H (.ref a) 0
  whole : ∃ a, mg "WHOLE" = some (.ref a) ∧ ∀ H, FrV K H (.ref a) 1
  mostValue : ∃ a, mg "MOST_VALUE" = some (.ref a) ∧ ∀ H, FrV K H (.ref a) 100
  mostSide : ∃ t, mg "MOST_SIDE" = some (.int 64 t)
  three : ∃ t, mg "THREE" = some (.int 3 t)
theorem FrV.ex {K : PySem.W.Frag} : ∀ H1 H2 v (q : Rat), Ex H1 H2 → FrV K H1 v q → FrV K H2 v q := fun _ _ _ _ e h => h.mono (ExT.of e)
/-- a list or a tuple of fractions -/
def LfV (K : PySem.W.Frag) (H : Hp) (v : V) (qs : List Rat) : Prop := LsV FrV K H v qs ∨ TuV FrV K H v qs
def spSum (K : PySem.W.Frag) : Sp := fun vs H Q _ => ∃ (v : V) (qs : List Rat) (d B a : Nat), vs = [v] ∧ LfV K H v qs ∧ (∀ q ∈ qs, Cd d B q) ∧ 0 < d ∧ d < 2 ^ a ∧ (qs.length + 1) * B < 2 ^ a ∧ a ≤ 4499 ∧ ∀ u H', Ex H H' → FrV K H' u (sumQ qs) → Q u H'
def spLeast (K : PySem.W.Frag) (F : Rat → List Rat → Rat) : Sp := fun vs H Q _ => ∃ (v : V) (x : Rat) (qs : List Rat) (a : Nat), vs = [v] ∧ LsV FrV K H v (x :: qs) ∧ (∀ q ∈ x :: qs, Bits q a) ∧ a ≤ 50000 ∧ ∀ u H', Ex H H' → FrV K H' u (F x qs) → Q u H'
section
variable {P : Program} {w : World} {K : PySem.W.Frag} {mg : Str → Option Value} {base : Heap}
theorem scSumOf : FnScope ["some", "found", "one"] ["some"] (defScope sSumOf) := ⟨rfl, rfl, rfl, by decide +kernel, rfl, by decide +kernel, by decide +kernel⟩
theorem ok_sum_of (C : Gc K mg) (F : Dn K mg "sum_of" sSumOf ["some"]) (G : Fn P w K mg base "plus" ["one", "other"] 3 (spFr2 K (· + ·) CY)) : Fn P w K mg base "sum_of" ["some"] 4 (spSum K) := by
  refine F.fn scSumOf (fun vs H Q E h => ?_) (fun f cdv A outer s H vs Q E hr h => ?_)
  · obtain ⟨_, _, _, _, _, rfl, _⟩ := h; rfl
  obtain ⟨v, qs, d, B, a, rfl, hv, hq, d0, hd, hB, ha, k⟩ := h
  obtain ⟨aN, gN, fN⟩ := C.nothing
  -- one turn, whatever is walked
  have turn : ∀ (wi : TI), Gn wi [some v, some (.ref aN), none] H qs.length (fun i H' v => ∃ x, qs[i]? = some x ∧ FrV K H' v x) →
      tFor wi (gName 2) (tAsg (tCall (spFr2 K (· + ·) CY) [] E0 (tCons (tVar 1) (tCons (tVar 2) tNil))) (gName 1)) { nx := tRet (tVar 1) { nx := fun _ H' => Q .non H', rt := Q }, rt := Q } [some v, some (.ref aN), none] H := by
    intro wi hi
    refine s_for hi (fun H2 i σ' H' => Ex H2 H' ∧ ∃ f o, σ' = [some v, some f, o] ∧ FrV K H' f (sumQ (qs.take i))) (fun H2 e => ⟨Ex.refl _, _, _, rfl, fN H2⟩) (fun _ _ _ _ p => p.1) ?_ ?_
    · rintro H2 i x σ' H' H'' e hi' ⟨e', f, o, rfl, hf⟩ e'' ⟨q, hqi, hx⟩
      have mem : q ∈ qs := List.mem_of_getElem? hqi
      refine ⟨_, rfl, _, rfl, ?_⟩
      refine ⟨_, _, _, _, a, a, rfl, hf.mono (ExT.of e''), hx, (sumQ_Cd hq i (by omega)).bits d0 hd ?_, (hq q mem).bits d0 hd ?_, by omega, True.intro, fun u H3 e3 hu => ?_⟩
      · exact Nat.lt_of_le_of_lt (Nat.mul_le_mul_right B (by omega)) hB
      · exact Nat.lt_of_le_of_lt (by rw [Nat.add_mul]; omega) hB
      · exact ⟨(e'.trans e'').trans e3, u, some x, rfl, by rw [sumQ_take hqi]; exact hu⟩
    · rintro H2 σ' H' e ⟨e', f, o, rfl, hf⟩
      rw [List.take_length] at hf
      exact ⟨_, rfl, k _ _ (e.trans e') hf⟩
  rcases hv with ⟨l, ws, rfl, hl, p⟩ | ⟨l, ws, rfl, hl, p⟩
  · refine ⟨_, pss_cons (ps_set (i := 1) scSumOf.nd rfl (.inl rfl) (pe_glob (v := .ref aN) rfl gN rfl)) (pss_cons (ps_for PassesOwn.never rfl (pi_list (pv 0)) (pg_name (i := 2) scSumOf.nd rfl (.inl rfl)) (pss_one (ps_set (i := 1) scSumOf.nd rfl (.inl rfl) (pe_fn G hr (pa_cons (pv 1) (pa_cons (pv 2) pa_nil)))))) (pss_one (ps_ret (pv 1)))), ?_⟩
    exact turn (iList K (tVar 0)) fun H1 e1 R kR => ⟨_, rfl, l, rfl, ⟨ws, ex_l e1 hl⟩, kR _ H1 (Ex.refl _) ((wk_list hl p FrV.ex).mono e1)⟩
  · refine ⟨_, pss_cons (ps_set (i := 1) scSumOf.nd rfl (.inl rfl) (pe_glob (v := .ref aN) rfl gN rfl)) (pss_cons (ps_for PassesOwn.never rfl (pi_tup (pv 0)) (pg_name (i := 2) scSumOf.nd rfl (.inl rfl)) (pss_one (ps_set (i := 1) scSumOf.nd rfl (.inl rfl) (pe_fn G hr (pa_cons (pv 1) (pa_cons (pv 2) pa_nil)))))) (pss_one (ps_ret (pv 1)))), ?_⟩
    exact turn (iTup K (tVar 0)) fun H1 e1 R kR => ⟨_, rfl, l, rfl, ⟨ws, ex_t e1 hl⟩, kR _ H1 (Ex.refl _) ((wk_tup hl p FrV.ex).mono e1)⟩
theorem cut1 {x : V} {r : List V} : cutV (x :: r) (some 1) none = r := by
  unfold cutV
  have h1 : HT.sIx (x :: r).length 0 (some 1) = 1 := by
    show HT.sIx (r.length + 1) 0 (some 1) = 1
    unfold HT.sIx; simp
  have h2 : HT.sIx (x :: r).length (x :: r).length none = r.length + 1 := rfl
  rw [h1, h2, List.drop_one, List.tail_cons]
  exact List.take_of_length_le (by simp)
theorem scLeastOf : FnScope ["some", "found", "one"] ["some"] (defScope sLeastOf) := ⟨rfl, rfl, rfl, by decide +kernel, rfl, by decide +kernel, by decide +kernel⟩
theorem scGreatestOf : FnScope ["some", "found", "one"] ["some"] (defScope sGreatestOf) := ⟨rfl, rfl, rfl, by decide +kernel, rfl, by decide +kernel, by decide +kernel⟩
theorem fold_mem (f : Rat → Rat → Rat) (hf : ∀ a b, f a b = a ∨ f a b = b) (x : Rat) (l : List Rat) : l.foldl f x ∈ x :: l := by
  induction l generalizing x with
  | nil => simp
  | cons y l ih =>
    rw [List.foldl_cons]
    rcases List.mem_cons.mp (ih (f x y)) with h | h
    · rw [h]
      rcases hf x y with e | e <;> rw [e] <;> simp
    · exact List.mem_cons_of_mem _ (List.mem_cons_of_mem _ h)
theorem ok_least_of (F : Dn K mg "least_of" sLeastOf ["some"]) (G : Fn P w K mg base "is_less" ["one", "other"] 1 (spLess K)) : Fn P w K mg base "least_of" ["some"] 2 (spLeast K leastQ) := by
  refine F.fn scLeastOf (fun vs H Q E h => ?_) (fun f cdv A outer s H vs Q E hr h => ?_)
  · obtain ⟨_, _, _, _, rfl, _⟩ := h; rfl
  obtain ⟨v, x, qs, a, rfl, ⟨l, ws, rfl, hl, p⟩, hb, ha, k⟩ := h
  refine ⟨_, pss_cons (ps_set (i := 1) scLeastOf.nd rfl (.inl rfl) (pe_ix ix_list (pv 0) pe_int (fun _ _ => rfl))) (pss_cons (ps_for PassesOwn.never rfl (pi_list (pe_slice sl_list (pv 0) (po_some pe_int) po_none)) (pg_name (i := 2) scLeastOf.nd rfl (.inl rfl))
    (pss_one (ps_set (i := 1) scLeastOf.nd rfl (.inl rfl) (pe_ifExp (pt_val (pe_fn G hr (pa_cons (pv 2) (pa_cons (pv 1) pa_nil)))) (pv 2) (pv 1))))) (pss_one (ps_ret (pv 1)))), ?_⟩
  cases p with
  | @cons vx _ vr _ rx pr =>
  refine ⟨_, rfl, _, _, _, _, rfl, rfl, hl, at0, ?_⟩
  suffices main : tFor (iList K (tSl (rSlL K) (tVar 0) (tPart (tC (.int 1))) tNoPart)) (gName 2) (tAsg (tIf (tB (tCall (spLess K) [] E0 (tCons (tVar 2) (tCons (tVar 1) tNil)))) (tVar 2) (tVar 1)) (gName 1)) { nx := tRet (tVar 1) { nx := fun _ H' => Q .non H', rt := Q }, rt := Q } [some (.ref l), some vx, none] H by exact main
  refine s_for (n := qs.length) (B := fun i H' v => ∃ y, qs[i]? = some y ∧ FrV K H' v y) (fun H1 e1 R kR => ?_) (fun H2 i σ' H' => Ex H2 H' ∧ ∃ fv o, σ' = [some (.ref l), some fv, o] ∧ FrV K H' fv ((qs.take i).foldl (fun f y => if y < f then y else f) x)) (fun H2 e => ⟨Ex.refl _, _, _, rfl, rx.mono (ExT.of e)⟩) (fun _ _ _ _ p => p.1) ?_ ?_
  · refine ⟨_, rfl, _, rfl, l, _, rfl, ex_l e1 hl, fun D hD => ?_⟩
    rw [cut1]
    refine ⟨D, rfl, ⟨_, sq_of upd_same⟩, kR _ _ (Ex.new hD) (wk_list (sq_of upd_same) (L2.Paired.mapP pr fun v x r => FrV.ex _ _ _ _ (e1.trans (Ex.new hD)) r) FrV.ex)⟩
  · rintro H2 i y σ' H' H'' e hi' ⟨e', fv, o, rfl, hf⟩ e'' ⟨q, hqi, hy⟩
    have mem : q ∈ x :: qs := List.mem_cons_of_mem _ (List.mem_of_getElem? hqi)
    have memf : ((qs.take i).foldl (fun f y => if y < f then y else f) x) ∈ x :: qs := by
      have := fold_mem (fun f y => if y < f then y else f) (fun a b => by by_cases h : b < a <;> simp [h]) x (qs.take i)
      rcases List.mem_cons.mp this with h | h
      · rw [h]; exact List.mem_cons_self
      · exact List.mem_cons_of_mem _ (List.mem_of_mem_take h)
    refine ⟨_, rfl, _, rfl, ?_⟩
    refine ⟨_, _, _, _, a, a, rfl, hy, hf.mono (ExT.of e''), hb q mem, hb _ memf, by omega, _, rfl, ?_⟩
    refine ite2 (fun c => ⟨_, rfl, e'.trans e'', y, some y, rfl, ?_⟩) (fun c => ⟨_, rfl, e'.trans e'', fv, some y, rfl, ?_⟩)
    · rw [foldl_take _ _ hqi, if_pos (of_decide_eq_true c)]; exact hy
    · rw [foldl_take _ _ hqi, if_neg (fun z => c (decide_eq_true z))]; exact hf.mono (ExT.of e'')
  · rintro H2 σ' H' e ⟨e', fv, o, rfl, hf⟩
    rw [List.take_length] at hf
    exact ⟨_, rfl, k _ _ (e.trans e') hf⟩
theorem ok_greatest_of (F : Dn K mg "greatest_of" sGreatestOf ["some"]) (G : Fn P w K mg base "is_less" ["one", "other"] 1 (spLess K)) : Fn P w K mg base "greatest_of" ["some"] 2 (spLeast K mostQ) := by
  refine F.fn scGreatestOf (fun vs H Q E h => ?_) (fun f cdv A outer s H vs Q E hr h => ?_)
  · obtain ⟨_, _, _, _, rfl, _⟩ := h; rfl
  obtain ⟨v, x, qs, a, rfl, ⟨l, ws, rfl, hl, p⟩, hb, ha, k⟩ := h
  refine ⟨_, pss_cons (ps_set (i := 1) scGreatestOf.nd rfl (.inl rfl) (pe_ix ix_list (pv 0) pe_int (fun _ _ => rfl))) (pss_cons (ps_for PassesOwn.never rfl (pi_list (pe_slice sl_list (pv 0) (po_some pe_int) po_none)) (pg_name (i := 2) scGreatestOf.nd rfl (.inl rfl))
    (pss_one (ps_set (i := 1) scGreatestOf.nd rfl (.inl rfl) (pe_ifExp (pt_val (pe_fn G hr (pa_cons (pv 1) (pa_cons (pv 2) pa_nil)))) (pv 2) (pv 1))))) (pss_one (ps_ret (pv 1)))), ?_⟩
  cases p with
  | @cons vx _ vr _ rx pr =>
  refine ⟨_, rfl, _, _, _, _, rfl, rfl, hl, at0, ?_⟩
  suffices main : tFor (iList K (tSl (rSlL K) (tVar 0) (tPart (tC (.int 1))) tNoPart)) (gName 2) (tAsg (tIf (tB (tCall (spLess K) [] E0 (tCons (tVar 1) (tCons (tVar 2) tNil)))) (tVar 2) (tVar 1)) (gName 1)) { nx := tRet (tVar 1) { nx := fun _ H' => Q .non H', rt := Q }, rt := Q } [some (.ref l), some vx, none] H by exact main
  refine s_for (n := qs.length) (B := fun i H' v => ∃ y, qs[i]? = some y ∧ FrV K H' v y) (fun H1 e1 R kR => ?_) (fun H2 i σ' H' => Ex H2 H' ∧ ∃ fv o, σ' = [some (.ref l), some fv, o] ∧ FrV K H' fv ((qs.take i).foldl (fun f y => if f < y then y else f) x)) (fun H2 e => ⟨Ex.refl _, _, _, rfl, rx.mono (ExT.of e)⟩) (fun _ _ _ _ p => p.1) ?_ ?_
  · refine ⟨_, rfl, _, rfl, l, _, rfl, ex_l e1 hl, fun D hD => ?_⟩
    rw [cut1]
    refine ⟨D, rfl, ⟨_, sq_of upd_same⟩, kR _ _ (Ex.new hD) (wk_list (sq_of upd_same) (L2.Paired.mapP pr fun v x r => FrV.ex _ _ _ _ (e1.trans (Ex.new hD)) r) FrV.ex)⟩
  · rintro H2 i y σ' H' H'' e hi' ⟨e', fv, o, rfl, hf⟩ e'' ⟨q, hqi, hy⟩
    have mem : q ∈ x :: qs := List.mem_cons_of_mem _ (List.mem_of_getElem? hqi)
    have memf : ((qs.take i).foldl (fun f y => if f < y then y else f) x) ∈ x :: qs := by
      have := fold_mem (fun f y => if f < y then y else f) (fun a b => by by_cases h : a < b <;> simp [h]) x (qs.take i)
      rcases List.mem_cons.mp this with h | h
      · rw [h]; exact List.mem_cons_self
      · exact List.mem_cons_of_mem _ (List.mem_of_mem_take h)
    refine ⟨_, rfl, _, rfl, ?_⟩
    refine ⟨_, _, _, _, a, a, rfl, hf.mono (ExT.of e''), hy, hb _ memf, hb q mem, by omega, _, rfl, ?_⟩
    refine ite2 (fun c => ⟨_, rfl, e'.trans e'', y, some y, rfl, ?_⟩) (fun c => ⟨_, rfl, e'.trans e'', fv, some y, rfl, ?_⟩)
    · rw [foldl_take _ _ hqi, if_pos (of_decide_eq_true c)]; exact hy
    · rw [foldl_take _ _ hqi, if_neg (fun z => c (decide_eq_true z))]; exact hf.mono (ExT.of e'')
  · rintro H2 σ' H' e ⟨e', fv, o, rfl, hf⟩
    rw [List.take_length] at hf
    exact ⟨_, rfl, k _ _ (e.trans e') hf⟩
end
end Mx
end
section
set_option Elab.async false
set_option linter.all false
set_option maxRecDepth 100000
set_option maxHeartbeats 4000000
/-! Tests on fractions, shares, matrices. -/
namespace Mx
open PySem L2 Evl Fra
abbrev sIsFraction : Stmt := top 18
abbrev sIsShare : Stmt := top 19
abbrev sMeanOf : Stmt := top 20
abbrev sIsRow : Stmt := top 25
abbrev sIsMatrix : Stmt := top 26
abbrev sCheckMatrix : Stmt := top 27
/-! ### more readings -/
section
variable {X : Cx} {K : PySem.W.Frag} {σ : L2.St} {H : Hp} {D : Ends} {c : TT} {t ta tb te : TE} {u : TS} {b : Bool}
theorem sq {t u : TS} (h : t { D with nx := u D } σ H) : tSeq t u D σ H := h
/-- if c: return e; the rest -/
theorem s_ifret (h : EvT c σ H b) (h1 : b = true → ∀ H1, Ex H H1 → te σ H1 D.rt) (h2 : b = false → ∀ H1, Ex H H1 → u D σ H1) : tSeq (tIfS c (tRet te) tNext) u D σ H :=
  sq (s_if h h1 h2)
theorem ty_tup {a : Addr} {xs : List V} (h : SqT K H a xs) : TyX K H (.ref a) (.type "tuple") := by
  rcases h with (h | ⟨o, h⟩) | ⟨o, its, n, h, hc, _⟩
  · exact .base (.tup h)
  · exact .fTuple h
  · exact .kTuple h hc
theorem kit_tt {K : PySem.W.Frag} : PySem.W.kitOne K (.type "tuple") (.type "tuple") = some true := by rfl
/-- isinstance(x, tuple) of a tuple -/
theorem ev_isT {v : V} {a : Addr} {xs : List V} (h : Ev ta σ H (.ref a)) (hs : SqT K H a xs) : Ev (tCB (rIsi K) (tCons ta (tCons (tC (.ty "tuple")) tNil))) σ H (.bl true) :=
  ev_cb (ea_cons h (ea_cons ev_c ea_nil)) fun H1 e Q q => ⟨_, _, _, _, _, rfl, .ty "tuple", ty_tup (ex_t e hs), kit_tt, q H1 (Ex.refl H1)⟩
theorem ev_lenT {a : Addr} {xs : List V} {n : Nat} (h : Ev ta σ H (.ref a)) (hs : SqT K H a xs) (hn : xs.length = n) : Ev (tCB (fun xs H Q => ∃ x n, xs = [x] ∧ LenV K x H n ∧ Q (.int n) H) (tCons ta tNil)) σ H (.int n) :=
  ev_cb (ea_cons h ea_nil) fun H1 e Q q => ⟨_, _, rfl, .inr ⟨_, ex_t e hs, hn.symm⟩, q H1 (Ex.refl H1)⟩
/-- comparisons as tests -/
theorem et_cmp {r : R2} {x y : V} (ha : Ev ta σ H x) (hb : Ev tb σ H y) (hr : RV r x y H (.bl b)) : EvT (tTest (tOp r ta tb)) σ H b := et_test (ev_op ha hb hr)
theorem rv_bi {g : Int → Int → Bool} {i j : Int} : RV (rI0 fun i j => .bl (g i j)) (.int i) (.int j) H (.bl (g i j)) := rv_I0
theorem et_neI {i j : Int} (ha : Ev ta σ H (.int i)) (hb : Ev tb σ H (.int j)) : EvT (tTest (tOp rNe ta tb)) σ H (!decide (i = j)) := by
  have := et_cmp ha hb (rv_ne (by rfl))
  have e : decide (V.int i = V.int j) = decide (i = j) := by
    by_cases q : i = j
    · rw [q]; simp
    · rw [decide_eq_false q, decide_eq_false (fun z => q (V.int.inj z))]
  rw [e] at this
  exact this
/-- a call of a promise that tells a value -/
theorem ev_fn {sp : Sp} {E : XK} {tA : TA} {vs : List V} {z : V} (h : EvA tA σ H vs) (hs : ∀ H1, Ex H H1 → ∀ (Q : VK) (E : XK), (∀ H2, Ex H1 H2 → Q z H2) → sp vs H1 Q E) : Ev (tCall sp [] E tA) σ H z :=
  ev_call h fun H1 e Q q E => by rw [List.append_nil]; exact hs H1 e Q E q
/-- all([..]), any([..]) over a new list of bools -/
def BlV (_ : PySem.W.Frag) (_ : Hp) (v : V) (b : Bool) : Prop := v = .bl b
theorem bl_map {vs : List V} {bs : List Bool} (p : Paired (BlV K H) vs bs) : vs = bs.map V.bl := by
  induction p with
  | nil => rfl
  | cons r _ ih => rw [List.map_cons, ih]; cases r; rfl
theorem ev_all {bs : List Bool} (h : Gv t σ H (NwL BlV K H bs)) : Ev (tCB (rAll K) (tCons t tNil)) σ H (.bl (bs.all id)) := fun H1 e Q q =>
  h H1 e _ fun v H2 e2 ⟨D, vs, ev, hD, hl, p⟩ => ⟨D, bs, by rw [ev], by rw [← bl_map p]; exact sq_of hl, q H2 e2⟩
theorem ev_any {bs : List Bool} (h : Gv t σ H (NwL BlV K H bs)) : Ev (tCB (rAny K) (tCons t tNil)) σ H (.bl (bs.any id)) := fun H1 e Q q =>
  h H1 e _ fun v H2 e2 ⟨D, vs, ev, hD, hl, p⟩ => ⟨D, bs, by rw [ev], by rw [← bl_map p]; exact sq_of hl, q H2 e2⟩
theorem map_range {α β : Type} (l : List α) (d : α) (f : α → β) : (List.range l.length).map (fun i => f (l.getD i d)) = l.map f := by
  apply List.ext_getElem?
  intro i
  by_cases h : i < l.length
  · simp [h]
  · simp [h, List.getElem?_eq_none (Nat.le_of_not_lt h)]
theorem getD_of {α : Type} {l : List α} {i : Nat} {x d : α} (h : l[i]? = some x) : l.getD i d = x := by
  rw [List.getD_eq_getElem?_getD, h]; rfl
/-- == of fractions -/
theorem FrV.dp {v : V} {q : Rat} (h : FrV K H v q) : Dp K H v (.tuple [.int q.num, .int q.den]) := by
  obtain ⟨a, rfl, h⟩ := h
  exact .tup h (.cons (.int _) (.cons (.int _) .nil))
theorem fr_shaped (a b : Int) : SeqAt.shaped (.tuple [.int a, .int b]) = true := rfl
theorem fr_eqv (p q : Rat) : PyData.eqv (.tuple [.int p.num, .int p.den]) (.tuple [.int q.num, .int q.den]) = decide (p = q) := by
  have e : PyData.eqv (.tuple [.int p.num, .int p.den]) (.tuple [.int q.num, .int q.den]) = ((p.num == q.num) && (((p.den : Int) == (q.den : Int)) && true)) := rfl
  rw [e]
  by_cases h : p = q
  · subst h; simp
  · rw [decide_eq_false h, Bool.and_true]
    by_cases h1 : p.num = q.num
    · have h2 : p.den ≠ q.den := fun z => h (Rat.ext h1 z)
      have : ((p.den : Int) == (q.den : Int)) = false := beq_eq_false_iff_ne.mpr (fun z => h2 (by omega))
      rw [this, Bool.and_false]
    · have : (p.num == q.num) = false := by simpa using h1
      rw [this, Bool.false_and]
theorem rv_eqF {v w : V} {p q : Rat} (h1 : FrV K H v p) (h2 : FrV K H w q) : RV (rEqD K) v w H (.bl (decide (p = q))) := fun H1 e Q k =>
  ⟨_, _, (h1.mono (ExT.of e)).dp, (h2.mono (ExT.of e)).dp, fr_shaped _ _, fr_shaped _ _, by rw [fr_eqv]; exact k H1 (Ex.refl H1)⟩
theorem Ev.gv {v : V} (h : Ev t σ H v) : Gv t σ H (fun x _ => x = v) := gv_of h fun _ _ => rfl
theorem ev_ixT0 {v w : V} {a : Addr} {r : List V} (h : Ev ta σ H (.ref a)) (hs : SqT K H a (v :: r)) : Ev (tOp (rIxT K) ta (tC (.int 0))) σ H v := ev_op h ev_c (rv_ixT hs at0)
theorem ev_ixT1 {v w : V} {a : Addr} {r : List V} (h : Ev ta σ H (.ref a)) (hs : SqT K H a (v :: w :: r)) : Ev (tOp (rIxT K) ta (tC (.int 1))) σ H w := ev_op h ev_c (rv_ixT hs at1)
end
/-! ### promises -/
def spIsFraction (K : PySem.W.Frag) : Sp := fun vs H Q _ => ∃ (v : V) (q : Rat), vs = [v] ∧ FrV K H v q ∧ ∀ H', Ex H H' → Q (.bl (decide (0 ≤ q))) H'
def isShare (qs : List Rat) (n : Int) : Bool := decide ((qs.length : Int) = n ∧ (∀ q ∈ qs, 0 ≤ q) ∧ sumQ qs = 1)
/-- fractions over one number, for sums -/
def Fine (qs : List Rat) (d B a : Nat) : Prop := (∀ q ∈ qs, Cd d B q) ∧ 0 < d ∧ d < 2 ^ a ∧ (qs.length + 1) * B < 2 ^ a ∧ a ≤ 4499 ∧ qs.length ≤ 100
def spIsShare (K : PySem.W.Frag) : Sp := fun vs H Q _ => ∃ (v : V) (qs : List Rat) (n : Int) (d B a : Nat), vs = [v, .int n] ∧ TuV FrV K H v qs ∧ Fine qs d B a ∧ ∀ H', Ex H H' → Q (.bl (isShare qs n)) H'
section
variable {P : Program} {w : World} {K : PySem.W.Frag} {mg : Str → Option Value} {base : Heap}
theorem scIsFraction : FnScope ["value"] ["value"] (defScope sIsFraction) := ⟨rfl, rfl, rfl, by decide +kernel, rfl, by decide +kernel, by decide +kernel⟩
theorem ok_is_fraction (T : Bt mg) (F : Dn K mg "is_fraction" sIsFraction ["value"]) (GI : Fn P w K mg base "is_integer" ["value"] 1 spIsInteger) (GC : Fn P w K mg base "common" ["one", "other"] 1 spCommon) : Fn P w K mg base "is_fraction" ["value"] 2 (spIsFraction K) := by
  refine F.fn scIsFraction (fun vs H Q E h => ?_) (fun f cdv A outer s H vs Q E hr h => ?_)
  · obtain ⟨_, _, rfl, _⟩ := h; rfl
  obtain ⟨v, q, rfl, ⟨a, rfl, ht⟩, k⟩ := h
  refine ⟨_, pss_cons (ps_if (PW.pt (pw_or (pt_not (pt_val (pe_callB call_isi (by rfl) T.isinstance (by decide +kernel) (pa_cons (pv 0) (pa_cons (pe_bltn (v := .ty "tuple") (by rfl) T.tuple (by decide +kernel) rfl) pa_nil)))))
      (pw_or (pt_cmpR op_ne (pe_callB call_len (by rfl) T.len PySem.boot_len (pa_cons (pv 0) pa_nil)) pe_int (nomark _))
      (pw_or (pt_not (pt_val (pe_fn GI hr (pa_cons (pe_ix ix_tup (pv 0) pe_int (fun _ _ => rfl)) pa_nil))))
      (pw_or1 (pt_not (pt_val (pe_fn GI hr (pa_cons (pe_ix ix_tup (pv 0) pe_int (fun _ _ => rfl)) pa_nil)))))))))
      (pss_one (ps_ret pe_bl)) pss_nil)
    (pss_one (ps_ret (pe_and (pe_cmpR op_ge (pe_ix ix_tup (pv 0) pe_int (fun _ _ => rfl)) pe_int (nomark _)) (pe_and (pe_cmpR op_ge (pe_ix ix_tup (pv 0) pe_int (fun _ _ => rfl)) pe_int (nomark _))
      (pe_one (pe_cmpR op_eq (pe_fn GC hr (pa_cons (pe_ix ix_tup (pv 0) pe_int (fun _ _ => rfl)) (pa_cons (pe_ix ix_tup (pv 0) pe_int (fun _ _ => rfl)) pa_nil))) pe_int (nomark _))))))), ?_⟩
  have v0 : ∀ H', Ev (tVar 0) [some (V.ref a)] H' (.ref a) := fun _ => ev_var rfl
  have i0 : Ev (tOp (rIxT K) (tVar 0) (tC (.int 0))) [some (V.ref a)] H (.int q.num) := ev_op (v0 H) ev_c (rv_ixT ht at0)
  have i1 : Ev (tOp (rIxT K) (tVar 0) (tC (.int 1))) [some (V.ref a)] H (.int q.den) := ev_op (v0 H) ev_c (rv_ixT ht at1)
  have isI : ∀ (t : TE) (i : Int), Ev t [some (V.ref a)] H (.int i) → Ev (tCall spIsInteger [] E0 (tCons t tNil)) [some (V.ref a)] H (.bl true) := fun t i h =>
    ev_fn (ea_cons h ea_nil) fun H1 e Q E q => ⟨i, rfl, q H1 (Ex.refl H1)⟩
  have test : EvT (tOr (tNot (tB (tCB (rIsi K) (tCons (tVar 0) (tCons (tC (.ty "tuple")) tNil))))) (tOr (tTest (tOp rNe (tCB (fun xs H Q => ∃ x n, xs = [x] ∧ LenV K x H n ∧ Q (.int n) H) (tCons (tVar 0) tNil)) (tC (.int 2))))
      (tOr (tNot (tB (tCall spIsInteger [] E0 (tCons (tOp (rIxT K) (tVar 0) (tC (.int 0))) tNil)))) (tNot (tB (tCall spIsInteger [] E0 (tCons (tOp (rIxT K) (tVar 0) (tC (.int 1))) tNil))))))) [some (V.ref a)] H false :=
    et_is (et_or (et_not (et_B (ev_isT (v := .non) (v0 H) ht))) fun _ => et_or (et_neI (ev_lenT (v0 H) ht rfl) ev_c) fun _ => et_or (et_not (et_B (isI _ _ i0))) fun _ => et_not (et_B (isI _ _ i1))) (by rfl)
  refine s_ifret test (fun z => by cases z) fun _ H1 e1 => ?_
  have ge0 : ∀ H', Ex H H' → Ev (tAndV (tOp (rI0 fun i j => .bl (decide (j ≤ i))) (tOp (rIxT K) (tVar 0) (tC (.int 0))) (tC (.int 0))) (tAndV (tOp (rI0 fun i j => .bl (decide (j ≤ i))) (tOp (rIxT K) (tVar 0) (tC (.int 1))) (tC (.int 1)))
      (tOp rEq (tCall spCommon [] E0 (tCons (tOp (rIxT K) (tVar 0) (tC (.int 0))) (tCons (tOp (rIxT K) (tVar 0) (tC (.int 1))) tNil))) (tC (.int 1))))) [some (V.ref a)] H' (.bl (decide (0 ≤ q))) := fun H' e => by
    have g : (Int.gcd q.num q.den : Int) = 1 := by
      have := q.reduced
      unfold Int.gcd
      rw [Int.natAbs_natCast]
      exact_mod_cast this
    refine ev_is (ev_andV (ev_op (i0.mono e) ev_c rv_bi) fun _ => ev_andV (ev_op (i1.mono e) ev_c rv_bi) fun _ => ev_op (z := .bl (decide (V.int (Int.gcd q.num q.den) = V.int 1))) (ev_fn (ea_cons (i0.mono e) (ea_cons (i1.mono e) ea_nil)) fun H1 e Q E k => ⟨_, _, rfl, k H1 (Ex.refl H1)⟩) ev_c (rv_eq (by rfl))) ?_
    rw [g]
    have h1 : decide ((1 : Int) ≤ (q.den : Int)) = true := decide_eq_true (by have := q.den_pos; omega)
    rw [h1]
    have h2 : decide ((0 : Int) ≤ q.num) = decide (0 ≤ q) := decide_eq_decide.mpr Rat.num_nonneg
    rw [h2]
    simp
  exact s_ret (ge0 H1 e1) fun H2 e2 => k H2 (e1.trans e2)
end
end Mx
end
section
set_option Elab.async false
set_option linter.all false
set_option maxRecDepth 100000
set_option maxHeartbeats 4000000
/-! is_share, mean_of, is_row, is_matrix, check_matrix. -/
namespace Mx
open PySem L2 Evl Fra
theorem RoV.ex {K : PySem.W.Frag} : ∀ H1 H2 v (q : List Rat), Ex H1 H2 → RoV K H1 v q → RoV K H2 v q := fun _ _ _ _ e h => RoV.mono (ExT.of e) h
/-- what a walk over a tuple gives -/
theorem gi_tup {α : Type} {R : PySem.W.Frag → Hp → V → α → Prop} {K : PySem.W.Frag} {σ : L2.St} {H : Hp} {t : TE} {a : Addr} {vs : List V} {xs : List α} (ht : Ev t σ H (.ref a)) (hl : SqT K H a vs) (p : Paired (R K H) vs xs) (mR : ∀ H1 H2 v x, Ex H1 H2 → R K H1 v x → R K H2 v x) :
    Gi (iTup K t) σ H xs.length (fun i H' v => ∃ x, xs[i]? = some x ∧ R K H' v x) := fun H1 e1 R' k => ht H1 e1 _ fun H2 e2 => ⟨a, rfl, ⟨vs, ex_t (e1.trans e2) hl⟩, k _ H2 e2 (wk_tup hl p mR)⟩
theorem gi_list {α : Type} {R : PySem.W.Frag → Hp → V → α → Prop} {K : PySem.W.Frag} {σ : L2.St} {H : Hp} {t : TE} {a : Addr} {vs : List V} {xs : List α} (ht : Ev t σ H (.ref a)) (hl : SqL K H a vs) (p : Paired (R K H) vs xs) (mR : ∀ H1 H2 v x, Ex H1 H2 → R K H1 v x → R K H2 v x) :
    Gi (iList K t) σ H xs.length (fun i H' v => ∃ x, xs[i]? = some x ∧ R K H' v x) := fun H1 e1 R' k => ht H1 e1 _ fun H2 e2 => ⟨a, rfl, ⟨vs, ex_l (e1.trans e2) hl⟩, k _ H2 e2 (wk_list hl p mR)⟩
/-- a list made on the way -/
theorem gn_list {α : Type} {R : PySem.W.Frag → Hp → V → α → Prop} {K : PySem.W.Frag} {σ : L2.St} {H : Hp} {t : TE} {xs : List α} (ht : Gv t σ H (fun v H' => LsV R K H' v xs)) (mR : ∀ H1 H2 v x, Ex H1 H2 → R K H1 v x → R K H2 v x) :
    Gn (iList K t) σ H xs.length (fun i H' v => ∃ x, xs[i]? = some x ∧ R K H' v x) := fun H1 e1 R' k => ht H1 e1 _ fun v H2 e2 ⟨a, vs, ev, hl, p⟩ => ⟨a, ev, ⟨vs, hl⟩, k _ H2 e2 (wk_list hl p mR)⟩
theorem gi_zipT {α β : Type} {R : PySem.W.Frag → Hp → V → α → Prop} {S : PySem.W.Frag → Hp → V → β → Prop} {K : PySem.W.Frag} {σ : L2.St} {H : Hp} {t u : TE} {a b : Addr} {vs ws : List V} {xs : List α} {ys : List β} (ht : Ev t σ H (.ref a)) (hu : Ev u σ H (.ref b)) (hl : SqT K H a vs) (hm : SqT K H b ws) (p : Paired (R K H) vs xs) (q : Paired (S K H) ws ys)
    (mR : ∀ H1 H2 v x, Ex H1 H2 → R K H1 v x → R K H2 v x) (mS : ∀ H1 H2 v x, Ex H1 H2 → S K H1 v x → S K H2 v x) :
    Gi (RZ.iZipA K (tCons t (tCons u tNil))) σ H (min xs.length ys.length) (fun i H' v => ∃ T w z x y, v = .ref T ∧ SqT K H' T [w, z] ∧ xs[i]? = some x ∧ ys[i]? = some y ∧ R K H' w x ∧ S K H' z y) := fun H1 e1 R' k =>
  ea_cons ht (ea_cons hu ea_nil) H1 e1 _ fun H2 e2 => ⟨a, b, vs, ws, rfl, .inr ⟨ex_t (e1.trans e2) hl, ex_t (e1.trans e2) hm, k _ H2 e2 (wk_zipT hl hm p q mR mS)⟩⟩
theorem gi_zipL {α β : Type} {R : PySem.W.Frag → Hp → V → α → Prop} {S : PySem.W.Frag → Hp → V → β → Prop} {K : PySem.W.Frag} {σ : L2.St} {H : Hp} {t u : TE} {a b : Addr} {vs ws : List V} {xs : List α} {ys : List β} (ht : Ev t σ H (.ref a)) (hu : Ev u σ H (.ref b)) (hl : SqL K H a vs) (hm : SqL K H b ws) (p : Paired (R K H) vs xs) (q : Paired (S K H) ws ys)
    (mR : ∀ H1 H2 v x, Ex H1 H2 → R K H1 v x → R K H2 v x) (mS : ∀ H1 H2 v x, Ex H1 H2 → S K H1 v x → S K H2 v x) :
    Gi (RZ.iZipA K (tCons t (tCons u tNil))) σ H (min xs.length ys.length) (fun i H' v => ∃ T w z x y, v = .ref T ∧ SqT K H' T [w, z] ∧ xs[i]? = some x ∧ ys[i]? = some y ∧ R K H' w x ∧ S K H' z y) := fun H1 e1 R' k =>
  ea_cons ht (ea_cons hu ea_nil) H1 e1 _ fun H2 e2 => ⟨a, b, vs, ws, rfl, .inl ⟨ex_l (e1.trans e2) hl, ex_l (e1.trans e2) hm, k _ H2 e2 (wk_zipL hl hm p q mR mS)⟩⟩
/-- the length of a comprehension's result, item by item -/
theorem zip_range {α β γ : Type} (f : α → β → γ) (xs : List α) (ys : List β) (d : α) (e : β) : (List.range (min xs.length ys.length)).map (fun i => f (xs.getD i d) (ys.getD i e)) = List.zipWith f xs ys := by
  apply List.ext_getElem?
  intro i
  rw [List.getElem?_zipWith]
  by_cases h1 : i < xs.length
  · by_cases h2 : i < ys.length
    · simp [h1, h2, show i < min xs.length ys.length by omega]
    · have : ys[i]? = none := List.getElem?_eq_none (by omega)
      simp [this, h1, show ¬ i < min xs.length ys.length by omega]
  · have : xs[i]? = none := List.getElem?_eq_none (by omega)
    simp [this, show ¬ i < min xs.length ys.length by omega]
theorem Fine.cd {qs : List Rat} {d B a : Nat} (h : Fine qs d B a) : ∀ q ∈ qs, Bits q a := fun q hq => (h.1 q hq).bits h.2.1 h.2.2.1 (Nat.lt_of_le_of_lt (by rw [Nat.add_mul]; omega) h.2.2.2.1)
def spMean (K : PySem.W.Frag) : Sp := fun vs H Q _ => ∃ (v w : V) (xs ys : List Rat) (d e B C a : Nat), vs = [v, w] ∧ TuV FrV K H v xs ∧ TuV FrV K H w ys ∧ xs.length ≤ 100 ∧ (∀ q ∈ xs, Cd d B q) ∧ (∀ q ∈ ys, Cd e C q) ∧ 0 < d ∧ 0 < e ∧ 0 < B ∧ 0 < C ∧ d * e < 2 ^ a ∧ (xs.length + 1) * (B * C) < 2 ^ a ∧ a ≤ 4499 ∧
  ∀ u H', Ex H H' → FrV K H' u (sumQ (List.zipWith (· * ·) xs ys)) → Q u H'
/-- a valid row, a valid matrix: numbers from 0 to 100 over one number -/
def GoodRow (r : List Rat) (a : Nat) : Prop := ∀ q ∈ r, 0 ≤ q ∧ q ≤ 100 ∧ Bits q a
def GoodMat (m : List (List Rat)) (a : Nat) : Prop := 0 < m.length ∧ (∃ n, 0 < n ∧ m.length * n ≤ 64 ∧ ∀ r ∈ m, r.length = n) ∧ (∀ r ∈ m, GoodRow r a) ∧ a ≤ 4000
def spIsRow (K : PySem.W.Frag) : Sp := fun vs H Q _ => ∃ (v : V) (qs : List Rat) (a : Nat), vs = [v, .int qs.length] ∧ TuV FrV K H v qs ∧ GoodRow qs a ∧ qs.length ≤ 64 ∧ a ≤ 4000 ∧ ∀ H', Ex H H' → Q (.bl true) H'
def spIsMatrix (K : PySem.W.Frag) : Sp := fun vs H Q _ => ∃ (v : V) (m : List (List Rat)) (a : Nat), vs = [v] ∧ MaV K H v m ∧ GoodMat m a ∧ ∀ H', Ex H H' → Q (.bl true) H'
def spCheckMatrix (K : PySem.W.Frag) : Sp := fun vs H Q _ => ∃ (v : V) (m : List (List Rat)) (a : Nat), vs = [v] ∧ MaV K H v m ∧ GoodMat m a ∧ ∀ H', Ex H H' → Q .non H'
section
variable {P : Program} {w : World} {K : PySem.W.Frag} {mg : Str → Option Value} {base : Heap}
theorem scIsShare : FnScope ["value", "many", "one"] ["value", "many"] (defScope sIsShare) := ⟨rfl, rfl, rfl, by decide +kernel, rfl, by decide +kernel, by decide +kernel⟩
theorem ok_is_share (T : Bt mg) (C : Gc K mg) (F : Dn K mg "is_share" sIsShare ["value", "many"]) (GF : Fn P w K mg base "is_fraction" ["value"] 2 (spIsFraction K)) (GS : Fn P w K mg base "sum_of" ["some"] 4 (spSum K)) : Fn P w K mg base "is_share" ["value", "many"] 5 (spIsShare K) := by
  refine F.fn scIsShare (fun vs H Q E h => ?_) (fun f cdv A outer s H vs Q E hr h => ?_)
  · obtain ⟨_, _, _, _, _, _, rfl, _⟩ := h; rfl
  obtain ⟨v, qs, n, d, B, b, rfl, ⟨a, ws, rfl, ht, p⟩, fine, k⟩ := h
  obtain ⟨aW, gW, fW⟩ := C.whole
  have hr2 : Room 2 _ := hr.mono (by decide)
  refine ⟨_, pss_cons (ps_if (PW.pt (pw_or (pt_not (pt_val (pe_callB call_isi (by rfl) T.isinstance (by decide +kernel) (pa_cons (pv 0) (pa_cons (pe_bltn (v := .ty "tuple") (by rfl) T.tuple (by decide +kernel) rfl) pa_nil)))))
      (pw_or (pt_cmpR op_ne (pe_callB call_len (by rfl) T.len PySem.boot_len (pa_cons (pv 0) pa_nil)) (pv 1) (nomark _))
      (pw_or1 (pt_not (pt_val (pe_callB (cr_all rfl) (by rfl) T.all (by decide +kernel) (pa_cons (pe_lc (own := [("one", 2)]) (g := gName 2) (by rfl) scIsShare.nd (pi_tup (pv 0)) (blkOk_by (own := [("one", 2)]) (N := ["value", "many", "one"]) (sc := defScope sIsShare) (by decide +kernel))
        (fun _ _ _ _ _ => pg_name (i := 2) scIsShare.nd rfl (Or.inl rfl)) (fun _ _ _ _ _ => pts_nil) (fun _ _ _ _ _ => pe_fn GF hr2 (pa_cons (pv 2) pa_nil))) pa_nil))))))))
      (pss_one (ps_ret pe_bl)) pss_nil)
    (pss_one (ps_ret (pe_cmpR (op_eqD hr.units) (pe_fn GS hr (pa_cons (pv 0) pa_nil)) (pe_glob (v := .ref aW) rfl gW rfl) (nomark _)))), ?_⟩
  generalize hσ : L2.start ["value", "many", "one"] [V.ref a, V.int n] = σ
  have hσ' : σ = [some (.ref a), some (.int n), none] := hσ.symm
  have v0 : ∀ H', Ev (tVar 0) σ H' (.ref a) := fun _ => ev_var (by rw [hσ']; rfl)
  have v1 : ∀ H', Ev (tVar 1) σ H' (.int n) := fun _ => ev_var (by rw [hσ']; rfl)
  have lc : Gv (tLc (iTup K (tVar 0)) (gName 2) tYes (tCall (spIsFraction K) [] E0 (tCons (tVar 2) tNil)) [2]) σ H (NwL BlV K H ((List.range qs.length).map fun i => decide (0 ≤ qs.getD i 0))) := by
    refine gv_lc (gi_tup (v0 H) ht p FrV.ex).gn (Nat.le_trans fine.2.2.2.2.2 (by decide)) _ (fun _ _ _ _ _ r => r) fun i x H' Q hi e ⟨q, hq, hx⟩ kk => ?_
    subst hσ'
    show Q [some (.ref a), some (.int n), some x] H'
    have ev1 : Ev (tCall (spIsFraction K) [] E0 (tCons (tVar 2) tNil)) [some (.ref a), some (.int n), some x] H' (.bl (decide (0 ≤ q))) :=
      ev_fn (ea_cons (ev_var rfl) ea_nil) fun H1 e1 Q1 E1 k1 => ⟨_, q, rfl, hx.mono (ExT.of e1), fun H2 e2 => k1 H2 e2⟩
    refine kk _ H' (Ex.refl _) rfl (Gv.imp (Ev.gv ev1) fun v H2 _ ev => ?_)
    rw [getD_of hq]; exact ev
  have lc : Gv (tLc (iTup K (tVar 0)) (gName 2) tYes (tCall (spIsFraction K) [] E0 (tCons (tVar 2) tNil)) [2]) σ H (NwL BlV K H (qs.map fun q => decide (0 ≤ q))) := by
    rw [← map_range qs 0 fun q => decide (0 ≤ q)]; exact lc
  have test := et_or (et_not (et_B (ev_isT (v := .non) (v0 H) ht))) fun _ => et_or (et_neI (ev_lenT (v0 H) ht (Paired.length p)) (v1 H)) fun _ => et_not (et_B (ev_all lc))
  refine s_ifret test (fun hb H1 e1 => ?_) fun hb H1 e1 => ?_
  · -- refused
    have : isShare qs n = false := by
      refine decide_eq_false fun ⟨h1, h2, h3⟩ => ?_
      have hall : (qs.map fun q => decide (0 ≤ q)).all id = true := by
        rw [List.all_map, List.all_eq_true]
        exact fun q hq => decide_eq_true (h2 q hq)
      rw [decide_eq_true h1, hall] at hb
      cases hb
    exact (by rw [← this]; exact k H1 e1 : Q (.bl false) H1)
  · -- both tests passed: the sum decides
    have hn : (qs.length : Int) = n := Classical.byContradiction fun z => by
      rw [decide_eq_false z] at hb; cases hb
    have hp : ∀ q ∈ qs, 0 ≤ q := by
      have hall : (qs.map fun q => decide (0 ≤ q)).all id = true := Classical.byContradiction fun z => by
        rw [Bool.eq_false_iff.mpr z] at hb
        rw [decide_eq_true hn] at hb; cases hb
      rw [List.all_map, List.all_eq_true] at hall
      exact fun q hq => of_decide_eq_true (hall q hq)
    have e : isShare qs n = decide (sumQ qs = 1) := decide_eq_decide.mpr ⟨fun h => h.2.2, fun h => ⟨hn, hp, h⟩⟩
    have val : Gv (tOp (rEqD K) (tCall (spSum K) [] E0 (tCons (tVar 0) tNil)) (tC (.ref aW))) σ H1 (fun v _ => v = .bl (decide (sumQ qs = 1))) := by
      refine gv_op (A := fun v H' => FrV K H' v (sumQ qs)) (B := fun v _ => v = .ref aW) (gv_call (B := fun vs _ => vs = [.ref a]) (fun H2 e2 Q q => ea_cons (v0 H1) ea_nil H2 e2 Q fun H3 e3 => q _ H3 e3 rfl) fun vs H2 e2 hv Q E q => ?_) gv_c1 (fun v Ha Hb eab h => h.mono (ExT.of eab)) fun x y H2 e2 hx hy Q q => ?_
      · subst hv
        exact ⟨_, qs, d, B, b, rfl, .inr ⟨a, ws, rfl, ex_t (e1.trans e2) ht, L2.Paired.mapP p fun v x r => FrV.ex _ _ _ _ (e1.trans e2) r⟩, fine.1, fine.2.1, fine.2.2.1, fine.2.2.2.1, fine.2.2.2.2.1, fun u H3 e3 hu => q u H3 e3 hu⟩
      · subst hy
        exact rv_eqF hx (fW H2) H2 (Ex.refl _) Q fun H3 e3 => q _ H3 e3 rfl
    refine val.go fun v H2 e2 hv => ?_
    rw [hv, ← e]
    exact k H2 (e1.trans e2)
theorem scMeanOf : FnScope ["shares", "some", "share", "one"] ["shares", "some"] (defScope sMeanOf) := ⟨rfl, rfl, rfl, by decide +kernel, rfl, by decide +kernel, by decide +kernel⟩
theorem ok_mean_of (T : Bt mg) (F : Dn K mg "mean_of" sMeanOf ["shares", "some"]) (GT : Fn P w K mg base "times" ["one", "other"] 3 (spFr2 K (· * ·) CY)) (GS : Fn P w K mg base "sum_of" ["some"] 4 (spSum K)) : Fn P w K mg base "mean_of" ["shares", "some"] 5 (spMean K) := by
  refine F.fn scMeanOf (fun vs H Q E h => ?_) (fun f cdv A outer s H vs Q E hr h => ?_)
  · obtain ⟨_, _, _, _, _, _, _, _, _, rfl, _⟩ := h; rfl
  obtain ⟨_, _, xs, ys, d, e, B, C, b, rfl, ⟨a1, ws, rfl, ht, p⟩, ⟨a2, zs, rfl, hu, q⟩, hlen, hx, hy, d0, e0, B0, C0, hde, hBC, hb, k⟩ := h
  have hr3 : Room 3 _ := hr.mono (by decide)
  refine ⟨_, pss_one (ps_ret (pe_fn GS hr (pa_cons (pe_lc (own := [("share", 2), ("one", 3)]) (g := gTup K 2 (gCons (gName 2) (gCons (gName 3) gNil))) (by rfl) scMeanOf.nd (RZ.pi_zipA (by rfl) T.zip (pa_cons (pv 0) (pa_cons (pv 1) pa_nil))) (blkOk_by (own := [("share", 2), ("one", 3)]) (N := ["shares", "some", "share", "one"]) (sc := defScope sMeanOf) (by decide +kernel))
    (fun _ _ _ _ _ => pg_tup (by rfl) (pgs_cons (pg_name (i := 2) scMeanOf.nd rfl (Or.inl rfl)) (pgs_cons (pg_name (i := 3) scMeanOf.nd rfl (Or.inl rfl)) pgs_nil))) (fun _ _ _ _ _ => pts_nil) (fun _ _ _ _ _ => pe_fn GT hr3 (pa_cons (pv 2) (pa_cons (pv 3) pa_nil)))) pa_nil))), ?_⟩
  have l1 : d ≤ d * e := Nat.le_mul_of_pos_right d e0
  have l2 : e ≤ d * e := Nat.le_mul_of_pos_left e d0
  have l3 : B ≤ B * C := Nat.le_mul_of_pos_right B C0
  have l4 : C ≤ B * C := Nat.le_mul_of_pos_left C B0
  have l5 : B * C < 2 ^ b := Nat.lt_of_le_of_lt (by rw [Nat.add_mul]; omega) hBC
  have v0 : ∀ H', Ev (tVar 0) (L2.start ["shares", "some", "share", "one"] [V.ref a1, V.ref a2]) H' (.ref a1) := fun _ => ev_var rfl
  have v1 : ∀ H', Ev (tVar 1) (L2.start ["shares", "some", "share", "one"] [V.ref a1, V.ref a2]) H' (.ref a2) := fun _ => ev_var rfl
  have lc : Gv (tLc (RZ.iZipA K (tCons (tVar 0) (tCons (tVar 1) tNil))) (gTup K 2 (gCons (gName 2) (gCons (gName 3) gNil))) tYes (tCall (spFr2 K (· * ·) CY) [] E0 (tCons (tVar 2) (tCons (tVar 3) tNil))) [2, 3]) (L2.start ["shares", "some", "share", "one"] [V.ref a1, V.ref a2]) H
      (NwL FrV K H ((List.range (min xs.length ys.length)).map fun i => xs.getD i 0 * ys.getD i 0)) := by
    refine gv_lc (gi_zipT (v0 H) (v1 H) ht hu p q FrV.ex FrV.ex).gn (by omega) _ (fun _ _ _ _ eT h => h.mono eT) fun i x H' Q hi e ⟨t, w1, z1, x1, y1, hx1, hT, hxi, hyi, fx, fy⟩ kk => ?_
    refine ⟨t, _, hx1, hT, rfl, w1, _, rfl, z1, _, rfl, rfl, ?_⟩
    refine kk _ H' (Ex.refl _) rfl ?_
    refine gv_call (B := fun vs _ => vs = [w1, z1]) (fun H2 e2 Q q => ea_cons (ev_var (H := H') rfl) (ea_cons (ev_var rfl) ea_nil) H2 e2 Q fun H3 e3 => q _ H3 e3 rfl) fun vs H2 e2 hv Q E q => ?_
    subst hv
    refine ⟨_, _, x1, y1, b, b, rfl, fx.mono (ExT.of e2), fy.mono (ExT.of e2), (hx x1 (List.mem_of_getElem? hxi)).bits d0 (by omega) (by omega), (hy y1 (List.mem_of_getElem? hyi)).bits e0 (by omega) (by omega), by omega, True.intro, fun u H3 e3 hu => q u H3 e3 ?_⟩
    rw [getD_of hxi, getD_of hyi]; exact hu
  rw [zip_range] at lc
  have len : (List.zipWith (· * ·) xs ys).length ≤ xs.length := by rw [List.length_zipWith]; omega
  refine Gv.go (P := fun v H' => FrV K H' v (sumQ (List.zipWith (· * ·) xs ys))) (gv_call (B := fun vs H' => ∃ v, vs = [v] ∧ NwL FrV K H (List.zipWith (· * ·) xs ys) v H') (fun H2 e2 Q q => lc H2 e2 _ fun v H3 e3 hv => q _ H3 e3 ⟨v, rfl, hv⟩) fun vs H2 e2 ⟨v, ev, hv⟩ Q E q => ?_) fun v H2 e2 hv => k v H2 e2 hv
  subst ev
  refine ⟨v, _, d * e, B * C, b, rfl, .inl hv.ls, fun z hz => ?_, Nat.mul_pos d0 e0, hde, Nat.lt_of_le_of_lt (Nat.mul_le_mul_right _ (by omega)) hBC, hb, fun u H3 e3 hu => q u H3 e3 hu⟩
  obtain ⟨i, hi⟩ := List.getElem?_of_mem hz
  rw [List.getElem?_zipWith] at hi
  cases h1 : xs[i]? with
  | none => rw [h1] at hi; cases hi
  | some x1 =>
    cases h2 : ys[i]? with
    | none => rw [h1, h2] at hi; cases hi
    | some y1 =>
      rw [h1, h2] at hi
      cases hi
      exact (hx x1 (List.mem_of_getElem? h1)).mul (hy y1 (List.mem_of_getElem? h2))
end
end Mx
end
section
set_option Elab.async false
set_option linter.all false
set_option maxRecDepth 100000
set_option maxHeartbeats 4000000
/-! is_row, is_matrix, check_matrix. -/
namespace Mx
open PySem L2 Evl Fra
section
variable {K : PySem.W.Frag} {σ : L2.St} {H : Hp} {ta tb tc : TE}
theorem ev_chain {i j k : Int} {g g' : Int → Int → Bool} (ha : Ev ta σ H (.int i)) (hb : Ev tb σ H (.int j)) (hc : Ev tc σ H (.int k)) :
    Ev (tChain (rI0 fun i j => .bl (g i j)) (rI0 fun i j => .bl (g' i j)) ta tb tc) σ H (.bl (g i j && g' j k)) := fun H1 e Q q =>
  ha H1 e _ fun H2 e2 => hb H2 (e.trans e2) _ fun H3 e3 => ⟨i, j, rfl, rfl, g i j, rfl, by
    cases hg : g i j with
    | true =>
      rw [if_pos rfl]
      refine hc H3 ((e.trans e2).trans e3) _ fun H4 e4 => ⟨j, k, rfl, rfl, ?_⟩
      rw [hg] at q
      exact q H4 ((e2.trans e3).trans e4)
    | false =>
      rw [if_neg Bool.false_ne_true]
      rw [hg] at q
      exact q H3 (e2.trans e3)⟩
end
section
variable {P : Program} {w : World} {K : PySem.W.Frag} {mg : Str → Option Value} {base : Heap}
theorem num100 : (100 : Rat).num = 100 ∧ (100 : Rat).den = 1 := ⟨rfl, rfl⟩
theorem bits100 : Bits 100 7 := ⟨by rw [num100.1]; decide, by rw [num100.2]; decide⟩
theorem scIsRow : FnScope ["value", "many", "one"] ["value", "many"] (defScope sIsRow) := ⟨rfl, rfl, rfl, by decide +kernel, rfl, by decide +kernel, by decide +kernel⟩
theorem ok_is_row (T : Bt mg) (C : Gc K mg) (F : Dn K mg "is_row" sIsRow ["value", "many"]) (GF : Fn P w K mg base "is_fraction" ["value"] 2 (spIsFraction K)) (GL : Fn P w K mg base "is_less" ["one", "other"] 1 (spLess K)) : Fn P w K mg base "is_row" ["value", "many"] 3 (spIsRow K) := by
  refine F.fn scIsRow (fun vs H Q E h => ?_) (fun f cdv A outer s H vs Q E hr h => ?_)
  · obtain ⟨_, _, _, rfl, _⟩ := h; rfl
  obtain ⟨v, qs, b, rfl, ⟨a, ws, rfl, ht, p⟩, good, len64, hb, k⟩ := h
  obtain ⟨aM, gM, fM⟩ := C.mostValue
  have hr1 : Room 1 _ := hr.mono (by decide)
  refine ⟨_, pss_cons (ps_if (PW.pt (pw_or (pt_not (pt_val (pe_callB call_isi (by rfl) T.isinstance (by decide +kernel) (pa_cons (pv 0) (pa_cons (pe_bltn (v := .ty "tuple") (by rfl) T.tuple (by decide +kernel) rfl) pa_nil)))))
      (pw_or (pt_cmpR op_ne (pe_callB call_len (by rfl) T.len PySem.boot_len (pa_cons (pv 0) pa_nil)) (pv 1) (nomark _))
      (pw_or1 (pt_not (pt_val (pe_callB (cr_all rfl) (by rfl) T.all (by decide +kernel) (pa_cons (pe_lc (own := [("one", 2)]) (g := gName 2) (by rfl) scIsRow.nd (pi_tup (pv 0)) (blkOk_by (own := [("one", 2)]) (N := ["value", "many", "one"]) (sc := defScope sIsRow) (by decide +kernel))
        (fun _ _ _ _ _ => pg_name (i := 2) scIsRow.nd rfl (Or.inl rfl)) (fun _ _ _ _ _ => pts_nil) (fun _ _ _ _ _ => pe_fn GF hr (pa_cons (pv 2) pa_nil))) pa_nil))))))))
      (pss_one (ps_ret pe_bl)) pss_nil)
    (pss_one (ps_ret (pe_not (pe_callB (cr_any rfl) (by rfl) T.any (by decide +kernel) (pa_cons (pe_lc (own := [("one", 2)]) (g := gName 2) (by rfl) scIsRow.nd (pi_tup (pv 0)) (blkOk_by (own := [("one", 2)]) (N := ["value", "many", "one"]) (sc := defScope sIsRow) (by decide +kernel))
        (fun _ _ _ _ _ => pg_name (i := 2) scIsRow.nd rfl (Or.inl rfl)) (fun _ _ _ _ _ => pts_nil) (fun _ _ _ _ _ => pe_fn GL hr1 (pa_cons (pe_glob (v := .ref aM) rfl gM rfl) (pa_cons (pv 2) pa_nil)))) pa_nil))))), ?_⟩
  generalize hσ : L2.start ["value", "many", "one"] [V.ref a, V.int qs.length] = σ
  have hσ' : σ = [some (.ref a), some (.int qs.length), none] := hσ.symm
  have v0 : ∀ H', Ev (tVar 0) σ H' (.ref a) := fun _ => ev_var (by rw [hσ']; rfl)
  have v1 : ∀ H', Ev (tVar 1) σ H' (.int qs.length) := fun _ => ev_var (by rw [hσ']; rfl)
  have lc : Gv (tLc (iTup K (tVar 0)) (gName 2) tYes (tCall (spIsFraction K) [] E0 (tCons (tVar 2) tNil)) [2]) σ H (NwL BlV K H ((List.range qs.length).map fun i => (fun q : Rat => decide (0 ≤ q)) (qs.getD i 0))) := by
    refine gv_lc (gi_tup (v0 H) ht p FrV.ex).gn (by omega) _ (fun _ _ _ _ _ r => r) fun i x H' Q hi e ⟨q, hq, hx⟩ kk => ?_
    subst hσ'
    show Q [some (.ref a), some (.int qs.length), some x] H'
    have ev1 : Ev (tCall (spIsFraction K) [] E0 (tCons (tVar 2) tNil)) [some (.ref a), some (.int qs.length), some x] H' (.bl (decide (0 ≤ q))) :=
      ev_fn (ea_cons (ev_var rfl) ea_nil) fun H1 e1 Q1 E1 k1 => ⟨_, q, rfl, hx.mono (ExT.of e1), fun H2 e2 => k1 H2 e2⟩
    refine kk _ H' (Ex.refl _) rfl (Gv.imp (Ev.gv ev1) fun v H2 _ ev => ?_)
    rw [getD_of hq]; exact ev
  have lc : Gv (tLc (iTup K (tVar 0)) (gName 2) tYes (tCall (spIsFraction K) [] E0 (tCons (tVar 2) tNil)) [2]) σ H (NwL BlV K H (qs.map fun q => decide (0 ≤ q))) := by
    rw [← map_range qs 0 fun q => decide (0 ≤ q)]; exact lc
  have test := et_or (et_not (et_B (ev_isT (v := .non) (v0 H) ht))) fun _ => et_or (et_neI (ev_lenT (v0 H) ht (Paired.length p)) (v1 H)) fun _ => et_not (et_B (ev_all lc))
  have hall : (qs.map fun q => decide (0 ≤ q)).all id = true := by
    rw [List.all_map, List.all_eq_true]
    exact fun q hq => decide_eq_true (good q hq).1
  rw [hall, decide_eq_true rfl] at test
  refine s_ifret test (fun hb H1 e1 => by cases hb) fun hb H1 e1 => ?_
  have lc2 : Gv (tLc (iTup K (tVar 0)) (gName 2) tYes (tCall (spLess K) [] E0 (tCons (tC (.ref aM)) (tCons (tVar 2) tNil))) [2]) σ H1 (NwL BlV K H1 ((List.range qs.length).map fun i => (fun q : Rat => decide (100 < q)) (qs.getD i 0))) := by
    refine gv_lc (gi_tup (v0 H1) (ex_t e1 ht) (L2.Paired.mapP p fun v x r => FrV.ex _ _ _ _ e1 r) FrV.ex).gn (by omega) _ (fun _ _ _ _ _ r => r) fun i x H' Q hi e ⟨q, hq, hx⟩ kk => ?_
    subst hσ'
    show Q [some (.ref a), some (.int qs.length), some x] H'
    have ev1 : Ev (tCall (spLess K) [] E0 (tCons (tC (.ref aM)) (tCons (tVar 2) tNil))) [some (.ref a), some (.int qs.length), some x] H' (.bl (decide (100 < q))) :=
      ev_fn (ea_cons ev_c (ea_cons (ev_var rfl) ea_nil)) fun H1 e1 Q1 E1 k1 => ⟨_, _, 100, q, 7, b, rfl, fM H1, hx.mono (ExT.of e1), bits100, (good q (List.mem_of_getElem? hq)).2.2, by omega, k1 H1 (Ex.refl _)⟩
    refine kk _ H' (Ex.refl _) rfl (Gv.imp (Ev.gv ev1) fun v H2 _ ev => ?_)
    rw [getD_of hq]; exact ev
  have lc2 : Gv (tLc (iTup K (tVar 0)) (gName 2) tYes (tCall (spLess K) [] E0 (tCons (tC (.ref aM)) (tCons (tVar 2) tNil))) [2]) σ H1 (NwL BlV K H1 (qs.map fun q => decide (100 < q))) := by
    rw [← map_range qs 0 fun q => decide (100 < q)]; exact lc2
  have hany : (qs.map fun q => decide ((100 : Rat) < q)).any id = false := by
    rw [List.any_map, List.any_eq_false]
    intro q hq
    have := (good q hq).2.1
    simp only [Function.comp, id]
    intro z
    have := of_decide_eq_true z
    grind
  have res := ev_notV (ev_any lc2)
  rw [hany] at res
  exact s_ret res fun H2 e2 => k H2 (e1.trans e2)
theorem scIsMatrix : FnScope ["value", "row"] ["value"] (defScope sIsMatrix) := ⟨rfl, rfl, rfl, by decide +kernel, rfl, by decide +kernel, by decide +kernel⟩
theorem ok_is_matrix (T : Bt mg) (C : Gc K mg) (F : Dn K mg "is_matrix" sIsMatrix ["value"]) (GR : Fn P w K mg base "is_row" ["value", "many"] 3 (spIsRow K)) : Fn P w K mg base "is_matrix" ["value"] 4 (spIsMatrix K) := by
  refine F.fn scIsMatrix (fun vs H Q E h => ?_) (fun f cdv A outer s H vs Q E hr h => ?_)
  · obtain ⟨_, _, _, rfl, _⟩ := h; rfl
  obtain ⟨v, m, b, rfl, ⟨a, ws, rfl, ht, p⟩, ⟨m0, ⟨n, n0, mn, hn⟩, good, hb4⟩, k⟩ := h
  obtain ⟨tS, gS⟩ := C.mostSide
  refine ⟨_, pss_cons (ps_if (PW.pt (pw_or (pt_not (pt_val (pe_callB call_isi (by rfl) T.isinstance (by decide +kernel) (pa_cons (pv 0) (pa_cons (pe_bltn (v := .ty "tuple") (by rfl) T.tuple (by decide +kernel) rfl) pa_nil)))))
      (pw_or (pt_not (pt_chain op_le op_le pe_int (pe_callB call_len (by rfl) T.len PySem.boot_len (pa_cons (pv 0) pa_nil)) (pe_glob (v := .int 64) rfl gS ⟨_, rfl⟩)))
      (pw_or1 (pt_not (pt_val (pe_callB call_isi (by rfl) T.isinstance (by decide +kernel) (pa_cons (pe_ix ix_tup (pv 0) pe_int (fun _ _ => rfl)) (pa_cons (pe_bltn (v := .ty "tuple") (by rfl) T.tuple (by decide +kernel) rfl) pa_nil))))))))) 
      (pss_one (ps_ret pe_bl)) pss_nil)
    (pss_cons (ps_if (PW.pt (pw_or (pt_not (pt_chain op_le op_le pe_int (pe_callB call_len (by rfl) T.len PySem.boot_len (pa_cons (pe_ix ix_tup (pv 0) pe_int (fun _ _ => rfl)) pa_nil)) (pe_glob (v := .int 64) rfl gS ⟨_, rfl⟩)))
      (pw_or1 (pt_cmpR op_gt (pe_op op_mul (pe_callB call_len (by rfl) T.len PySem.boot_len (pa_cons (pv 0) pa_nil)) (pe_callB call_len (by rfl) T.len PySem.boot_len (pa_cons (pe_ix ix_tup (pv 0) pe_int (fun _ _ => rfl)) pa_nil))) (pe_glob (v := .int 64) rfl gS ⟨_, rfl⟩) (nomark _)))))
      (pss_one (ps_ret pe_bl)) pss_nil)
    (pss_one (ps_ret (pe_callB (cr_all rfl) (by rfl) T.all (by decide +kernel) (pa_cons (pe_lc (own := [("row", 1)]) (g := gName 1) (by rfl) scIsMatrix.nd (pi_tup (pv 0)) (blkOk_by (own := [("row", 1)]) (N := ["value", "row"]) (sc := defScope sIsMatrix) (by decide +kernel))
        (fun _ _ _ _ _ => pg_name (i := 1) scIsMatrix.nd rfl (Or.inl rfl)) (fun _ _ _ _ _ => pts_nil) (fun _ _ _ _ _ => pe_fn GR hr (pa_cons (pv 1) (pa_cons (pe_callB (r := fun xs H Q => ∃ x n, xs = [x] ∧ LenV K x H n ∧ Q (.int n) H) call_len (by rfl) T.len PySem.boot_len (pa_cons (pe_ix (r := rIxT K) ix_tup (pv 0) pe_int (fun _ _ => rfl)) pa_nil)) pa_nil)))) pa_nil))))), ?_⟩
  generalize hσ : L2.start ["value", "row"] [V.ref a] = σ
  have hσ' : σ = [some (.ref a), none] := hσ.symm
  have v0 : ∀ H', Ev (tVar 0) σ H' (.ref a) := fun _ => ev_var (by rw [hσ']; rfl)
  have ml : ws.length = m.length := Paired.length p
  -- the first row
  cases m with
  | nil => exact absurd m0 (by decide)
  | cons r0 mr =>
  cases p with
  | @cons vr _ wr _ rr pr =>
  obtain ⟨ar, vs0, rfl, hr0, p0⟩ := id rr
  have len0 : vs0.length = n := (Paired.length p0).trans (hn r0 List.mem_cons_self)
  have m64 : (r0 :: mr).length ≤ 64 := Nat.le_trans (Nat.le_mul_of_pos_right _ n0) mn
  have n64 : n ≤ 64 := Nat.le_trans (Nat.le_mul_of_pos_left _ m0) mn
  have i0 : ∀ H', Ex H H' → Ev (tOp (rIxT K) (tVar 0) (tC (.int 0))) σ H' (.ref ar) := fun H' e => ev_op (v0 H') ev_c (rv_ixT (ex_t e ht) at0)
  have l0 : ∀ H', Ex H H' → Ev (tCB (fun xs H Q => ∃ x n, xs = [x] ∧ LenV K x H n ∧ Q (.int n) H) (tCons (tVar 0) tNil)) σ H' (.int (r0 :: mr).length) := fun H' e => ev_lenT (v0 H') (ex_t e ht) ml
  have l1 : ∀ H', Ex H H' → Ev (tCB (fun xs H Q => ∃ x n, xs = [x] ∧ LenV K x H n ∧ Q (.int n) H) (tCons (tOp (rIxT K) (tVar 0) (tC (.int 0))) tNil)) σ H' (.int n) := fun H' e => ev_lenT (i0 H' e) (ex_t e hr0) len0
  have test := et_or (et_not (et_B (ev_isT (v := .non) (v0 H) ht))) fun _ => et_or (et_not (et_test (ev_chain (g := fun i j => decide (i ≤ j)) (g' := fun i j => decide (i ≤ j)) (ev_c (v := .int 1)) (l0 H (Ex.refl _)) (ev_c (v := .int 64))))) fun _ => et_not (et_B (ev_isT (v := .non) (i0 H (Ex.refl _)) hr0))
  have c1 : decide ((1 : Int) ≤ ((r0 :: mr).length : Nat)) = true := decide_eq_true (by omega)
  have c2 : decide (((r0 :: mr).length : Nat) ≤ (64 : Int)) = true := decide_eq_true (by omega)
  rw [c1, c2] at test
  refine s_ifret test (fun hb H1 e1 => by cases hb) fun hb H1 e1 => ?_
  have c3 : decide ((1 : Int) ≤ (n : Nat)) = true := decide_eq_true (by omega)
  have c4 : decide ((n : Nat) ≤ (64 : Int)) = true := decide_eq_true (by omega)
  have test2 := et_or (et_not (et_test (ev_chain (g := fun i j => decide (i ≤ j)) (g' := fun i j => decide (i ≤ j)) (ev_c (v := .int 1)) (l1 H1 e1) (ev_c (v := .int 64))))) fun _ => et_cmp (ev_op (l0 H1 e1) (l1 H1 e1) (rv_I (C := CMul) (g := fun i j => .int (i * j)) (.inl ⟨by omega, by omega⟩))) (ev_c (v := .int 64)) (rv_bi (g := fun i j => decide (j < i)))
  have c5 : decide ((64 : Int) < ((r0 :: mr).length : Nat) * (n : Nat)) = false := decide_eq_false (by
    have : (((r0 :: mr).length * n : Nat) : Int) ≤ 64 := by exact_mod_cast mn
    rw [Int.natCast_mul] at this
    omega)
  rw [c3, c4, c5] at test2
  refine s_ifret test2 (fun hb H1 e1 => by cases hb) fun hb H2 e2 => ?_
  have e12 := e1.trans e2
  have lc : Gv (tLc (iTup K (tVar 0)) (gName 1) tYes (tCall (spIsRow K) [] E0 (tCons (tVar 1) (tCons (tCB (fun xs H Q => ∃ x n, xs = [x] ∧ LenV K x H n ∧ Q (.int n) H) (tCons (tOp (rIxT K) (tVar 0) (tC (.int 0))) tNil)) tNil))) [1]) σ H2 (NwL BlV K H2 ((List.range (r0 :: mr).length).map fun i => (fun _ : List Rat => true) ((r0 :: mr).getD i []))) := by
    refine gv_lc (gi_tup (v0 H2) (ex_t e12 ht) (L2.Paired.mapP (.cons rr pr) fun v x r => RoV.ex _ _ _ _ e12 r) RoV.ex).gn (by omega) _ (fun _ _ _ _ _ r => r) fun i x H' Q hi e ⟨q, hq, hx⟩ kk => ?_
    subst hσ'
    show Q [some (.ref a), some x] H'
    have ar0 : Ev (tCB (fun xs H Q => ∃ x n, xs = [x] ∧ LenV K x H n ∧ Q (.int n) H) (tCons (tOp (rIxT K) (tVar 0) (tC (.int 0))) tNil)) [some (.ref a), some x] H' (.int n) :=
      ev_lenT (ev_op (ev_var rfl) ev_c (rv_ixT (ex_t (e12.trans e) ht) at0)) (ex_t (e12.trans e) hr0) len0
    have mem : q ∈ r0 :: mr := List.mem_of_getElem? hq
    have ev1 : Ev (tCall (spIsRow K) [] E0 (tCons (tVar 1) (tCons (tCB (fun xs H Q => ∃ x n, xs = [x] ∧ LenV K x H n ∧ Q (.int n) H) (tCons (tOp (rIxT K) (tVar 0) (tC (.int 0))) tNil)) tNil))) [some (.ref a), some x] H' (.bl true) :=
      ev_fn (ea_cons (ev_var rfl) (ea_cons ar0 ea_nil)) fun H1 e1 Q1 E1 k1 => ⟨_, q, b, by rw [hn q mem], RoV.ex _ _ _ _ e1 hx, good q mem, by rw [hn q mem]; exact n64, hb4, fun H2 e2 => k1 H2 e2⟩
    exact kk _ H' (Ex.refl _) rfl (Ev.gv ev1)
  have lc : Gv (tLc (iTup K (tVar 0)) (gName 1) tYes (tCall (spIsRow K) [] E0 (tCons (tVar 1) (tCons (tCB (fun xs H Q => ∃ x n, xs = [x] ∧ LenV K x H n ∧ Q (.int n) H) (tCons (tOp (rIxT K) (tVar 0) (tC (.int 0))) tNil)) tNil))) [1]) σ H2 (NwL BlV K H2 ((r0 :: mr).map fun _ => true)) := by
    rw [← map_range (r0 :: mr) [] fun _ => true]; exact lc
  have res := ev_all lc
  have hall : ((r0 :: mr).map fun _ => true).all id = true := by rw [List.all_map, List.all_eq_true]; exact fun _ _ => rfl
  rw [hall] at res
  exact s_ret res fun H3 e3 => k H3 (e12.trans e3)
theorem scCheckMatrix : FnScope ["matrix"] ["matrix"] (defScope sCheckMatrix) := ⟨rfl, rfl, rfl, by decide +kernel, rfl, by decide +kernel, by decide +kernel⟩
theorem ok_check_matrix (F : Dn K mg "check_matrix" sCheckMatrix ["matrix"]) (G : Fn P w K mg base "is_matrix" ["value"] 4 (spIsMatrix K)) : Fn P w K mg base "check_matrix" ["matrix"] 5 (spCheckMatrix K) := by
  refine F.fn scCheckMatrix (fun vs H Q E h => ?_) (fun f cdv A outer s H vs Q E hr h => ?_)
  · obtain ⟨_, _, _, rfl, _⟩ := h; rfl
  obtain ⟨v, m, b, rfl, hm, good, k⟩ := h
  refine ⟨_, pss_one (ps_if (pt_not (pt_val (pe_fn G hr (pa_cons (pv 0) pa_nil)))) (pss_one ps_never) pss_nil), ?_⟩
  have test : EvT (tNot (tB (tCall (spIsMatrix K) [] E0 (tCons (tVar 0) tNil)))) (L2.start ["matrix"] [v]) H (!true) :=
    et_not (et_B (ev_fn (ea_cons (ev_var rfl) ea_nil) fun H1 e1 Q E k1 => ⟨v, m, b, rfl, MaV.mono (ExT.of e1) hm, good, fun H2 e2 => k1 H2 e2⟩))
  exact s_if test (fun hb => by cases hb) fun _ H1 e1 => k H1 e1
end
end Mx
end
section
set_option Elab.async false
set_option linter.all false
set_option maxRecDepth 100000
set_option maxHeartbeats 4000000
/-! less_times; the corner as it stands, entering, columns. -/
namespace Mx
open PySem L2 Evl Fra
open Sx (TF bf Tab lessL divL turnR turnLast enterL)
abbrev sLessTimes : Stmt := top 30
abbrev sEntering : Stmt := inClass (top 29) 1
def spLessTimes (K : PySem.W.Frag) : Sp := fun vs H Q _ => ∃ (v u : V) (row other : List Rat) (s a : Nat), vs = [v, u, .int s] ∧ LsV FrV K H v row ∧ LsV FrV K H u other ∧ s < row.length ∧ row.length ≤ 1000 ∧ (∀ q ∈ row, Bits q a) ∧ (∀ q ∈ other, Bits q a) ∧ a ≤ 2900 ∧ ∀ z H', Ex H H' → NwL FrV K H (lessL row other s) z H' → Q z H'
section
variable {P : Program} {w : World} {K : PySem.W.Frag} {mg : Str → Option Value} {base : Heap}
theorem scLessTimes : FnScope ["row", "other", "column", "often", "one", "two"] ["row", "other", "column"] (defScope sLessTimes) := ⟨rfl, rfl, rfl, by decide +kernel, rfl, by decide +kernel, by decide +kernel⟩
theorem ok_less_times (T : Bt mg) (F : Dn K mg "less_times" sLessTimes ["row", "other", "column"]) (GM : Fn P w K mg base "minus" ["one", "other"] 3 (spFr2 K (· - ·) CY)) (GT : Fn P w K mg base "times" ["one", "other"] 3 (spFr2 K (· * ·) CY)) : Fn P w K mg base "less_times" ["row", "other", "column"] 4 (spLessTimes K) := by
  refine F.fn scLessTimes (fun vs H Q E h => ?_) (fun f cdv A outer s H vs Q E hr h => ?_)
  · obtain ⟨_, _, _, _, _, _, rfl, _⟩ := h; rfl
  obtain ⟨_, _, row, other, c, b, rfl, ⟨a1, ws, rfl, hl, p⟩, ⟨a2, zs, rfl, hm, q⟩, hc, hlen, hb1, hb2, hb, k⟩ := h
  refine ⟨_, pss_cons (ps_set (i := 3) scLessTimes.nd rfl (.inr rfl) (pe_ix ix_list (pv 0) (pv 2) (fun _ _ => rfl)))
    (pss_one (ps_ret (pe_lc (own := [("one", 4), ("two", 5)]) (g := gTup K 2 (gCons (gName 4) (gCons (gName 5) gNil))) (by rfl) scLessTimes.nd (RZ.pi_zipA (by rfl) T.zip (pa_cons (pv 0) (pa_cons (pv 1) pa_nil))) (blkOk_by (own := [("one", 4), ("two", 5)]) (N := ["row", "other", "column", "often", "one", "two"]) (sc := defScope sLessTimes) (by decide +kernel))
    (fun _ _ _ _ _ => pg_tup (by rfl) (pgs_cons (pg_name (i := 4) scLessTimes.nd rfl (Or.inl rfl)) (pgs_cons (pg_name (i := 5) scLessTimes.nd rfl (Or.inl rfl)) pgs_nil))) (fun _ _ _ _ _ => pts_nil)
      (fun _ _ _ _ _ => pe_fn GM hr (pa_cons (pv 4) (pa_cons (pe_fn GT hr (pa_cons (pv 3) (pa_cons (pv 5) pa_nil))) pa_nil)))))), ?_⟩
  obtain ⟨vo, hvo⟩ : ∃ vo, ws[c]? = some vo := ⟨ws[c]'(by rw [Paired.length p]; exact hc), by simp [Paired.length p, hc]⟩
  obtain ⟨qo, hqo, fo⟩ := wk_list.pget p hvo
  have at_c : atI ws (c : Int) = some vo := atI_nat hvo
  refine ⟨_, rfl, _, rfl, a1, ws, c, vo, rfl, rfl, hl, at_c, ?_⟩
  suffices lc : Gv (tLc (RZ.iZipA K (tCons (tVar 0) (tCons (tVar 1) tNil))) (gTup K 2 (gCons (gName 4) (gCons (gName 5) gNil))) tYes (tCall (spFr2 K (· - ·) CY) [] E0 (tCons (tVar 4) (tCons (tCall (spFr2 K (· * ·) CY) [] E0 (tCons (tVar 3) (tCons (tVar 5) tNil))) tNil))) [4, 5]) [some (.ref a1), some (.ref a2), some (.int c), some vo, none, none] H
      (NwL FrV K H ((List.range (min row.length other.length)).map fun i => (fun a b => a - row.getD c 0 * b) (row.getD i 0) (other.getD i 0))) by
    rw [zip_range (fun a b => a - row.getD c 0 * b)] at lc
    exact lc.go fun v H2 e2 hv => k v H2 e2 hv
  refine gv_lc (gi_zipL (ev_var rfl) (ev_var rfl) hl hm p q FrV.ex FrV.ex).gn (by omega) _ (fun _ _ _ _ eT h => h.mono eT) fun i x H' Q hi e ⟨t, w1, z1, x1, y1, hx1, hT, hxi, hyi, fx, fy⟩ kk => ?_
  refine ⟨t, _, hx1, hT, rfl, w1, _, rfl, z1, _, rfl, rfl, ?_⟩
  have m1 := List.mem_of_getElem? hxi
  have m2 := List.mem_of_getElem? hyi
  have mo := List.mem_of_getElem? hqo
  have tms : Gv (tCall (spFr2 K (· * ·) CY) [] E0 (tCons (tVar 3) (tCons (tVar 5) tNil))) [some (.ref a1), some (.ref a2), some (.int c), some vo, some w1, some z1] H' (fun v H2 => FrV K H2 v (qo * y1)) := by
    refine gv_call (B := fun vs _ => vs = [vo, z1]) (fun H2 e2 Q q => ea_cons (ev_var (H := H') rfl) (ea_cons (ev_var rfl) ea_nil) H2 e2 Q fun H3 e3 => q _ H3 e3 rfl) fun vs H2 e2 hv Q E q => ?_
    subst hv
    exact ⟨_, _, qo, y1, b, b, rfl, fo.mono (ExT.of (e.trans e2)), fy.mono (ExT.of e2), hb1 _ mo, hb2 _ m2, by omega, True.intro, fun u H3 e3 hu => q u H3 e3 hu⟩
  refine kk [some (.ref a1), some (.ref a2), some (.int c), some vo, some w1, some z1] H' (Ex.refl _) rfl ?_
  refine gv_call (B := fun vs H2 => ∃ u, vs = [w1, u] ∧ FrV K H2 u (qo * y1)) (fun H2 e2 Q q => ⟨_, rfl, tms H2 e2 _ fun u H3 e3 hu => q _ H3 e3 ⟨u, rfl, hu⟩⟩) fun vs H2 e2 ⟨u, hv, hu⟩ Q E q => ?_
  subst hv
  refine ⟨_, _, x1, qo * y1, b, b + b, rfl, fx.mono (ExT.of e2), hu, hb1 _ m1, (hb1 _ mo).mul (hb2 _ m2), by omega, True.intro, fun u H3 e3 hu => q u H3 e3 ?_⟩
  rw [getD_of hxi, getD_of hyi, getD_of hqo]; exact hu
end
/-! ### the corner at c: what stood in H0 is as it was; its own three lists; its rows -/
def cf (r la ba : Addr) : List (Str × V) := [("rows", V.ref r), ("last", V.ref la), ("base", V.ref ba)]
theorem cf_rows (r la ba : Addr) : (cf r la ba).lookup ("rows" : Str) = some (.ref r) := by
  unfold cf; rw [List.lookup_cons_self]
theorem cf_last (r la ba : Addr) : (cf r la ba).lookup ("last" : Str) = some (.ref la) := by
  unfold cf
  rw [List.lookup_cons, show (("last" : Str) == "rows") = false by decide +kernel]
  exact List.lookup_cons_self
theorem cf_base (r la ba : Addr) : (cf r la ba).lookup ("base" : Str) = some (.ref ba) := by
  unfold cf
  rw [List.lookup_cons, show (("base" : Str) == "rows") = false by decide +kernel]
  show List.lookup ("base" : Str) [("last", V.ref la), ("base", V.ref ba)] = _
  rw [List.lookup_cons, show (("base" : Str) == "last") = false by decide +kernel]
  exact List.lookup_cons_self
/-- a row list that is none of two -/
def RwV (H0 : Hp) (r ba : Addr) (K : PySem.W.Frag) (H : Hp) (v : V) (row : List Rat) : Prop := ∃ a ws, v = .ref a ∧ a ≠ r ∧ a ≠ ba ∧ H0 a = none ∧ H a = some (.lst ws) ∧ Paired (FrV K H) ws row
structure CoV (K : PySem.W.Frag) (C : Addr) (H0 H : Hp) (c : Addr) (R : List (List Rat)) (l : List Rat) (b : List Nat) (dx r la ba : Addr) (rws lws : List V) : Prop where
  ex : Ex H0 H
  c0 : H0 c = none
  r0 : H0 r = none
  l0 : H0 la = none
  b0 : H0 ba = none
  ins : H c = some (.ins C dx (cf r la ba))
  rl : H r = some (.lst rws)
  rp : Paired (RwV H0 r ba K H) rws R
  ll : H la = some (.lst lws)
  lp : Paired (FrV K H) lws l
  bl : H ba = some (.lst (b.map fun i => V.int (i : Nat)))
  rla : r ≠ la
  rba : r ≠ ba
  lba : la ≠ ba
/-- the class's facts -/
structure Ct (K : PySem.W.Frag) (C : Addr) : Prop where
  cl : Cls K C
  nR : NoAttr K C "rows"
  nL : NoAttr K C "last"
  nB : NoAttr K C "base"
theorem CoV.mono {K : PySem.W.Frag} {C : Addr} {H0 H H' : Hp} {c : Addr} {R : List (List Rat)} {l : List Rat} {b : List Nat} {dx r la ba : Addr} {rws lws : List V} (h : CoV K C H0 H c R l b dx r la ba rws lws) (e : Ex H H') : CoV K C H0 H' c R l b dx r la ba rws lws :=
  ⟨h.ex.trans e, h.c0, h.r0, h.l0, h.b0, e _ _ h.ins, e _ _ h.rl, L2.Paired.mapP h.rp fun v x ⟨a, ws, q1, q2, q3, q4, q5, q6⟩ => ⟨a, ws, q1, q2, q3, q4, e _ _ q5, L2.Paired.mapP q6 fun v x r => r.mono (ExT.of e)⟩, e _ _ h.ll, L2.Paired.mapP h.lp fun v x r => r.mono (ExT.of e), e _ _ h.bl, h.rla, h.rba, h.lba⟩
theorem ev_fld {K : PySem.W.Frag} {C : Addr} {H : Hp} {σ : L2.St} {t : TE} {c dx : Addr} {fs : List (Str × V)} {f : Str} {v : V} (h : Ev t σ H (.ref c)) (hi : H c = some (.ins C dx fs)) (cl : Cls K C) (nf : NoAttr K C f) (hf : fs.lookup f = some v) : Ev (tFld K t f) σ H v := fun H1 e Q q =>
  h H1 e _ fun H2 e2 => ⟨c, C, dx, fs, v, rfl, e2 _ _ (e _ _ hi), cl, nf, hf, q H2 e2⟩
def optV : Option Nat → V
  | none => .non
  | some n => .int (n : Nat)
def spEntering (K : PySem.W.Frag) (C : Addr) : Sp := fun vs H Q _ => ∃ (c : Addr) (H0 : Hp) (R : List (List Rat)) (l : List Rat) (b : List Nat) (dx r la ba : Addr) (rws lws : List V) (a : Nat), vs = [.ref c] ∧ CoV K C H0 H c R l b dx r la ba rws lws ∧ l ≠ [] ∧ l.length ≤ 1000 ∧ (∀ q ∈ l, Bits q a) ∧ a ≤ 40000 ∧
  ∀ H', Ex H H' → Q (optV (enterL l)) H'
section
variable {P : Program} {w : World} {K : PySem.W.Frag} {mg : Str → Option Value} {base : Heap} {C : Addr}
theorem cutInit {x : V} {r : List V} : cutV (r ++ [x]) none (some (-1)) = r := by
  unfold cutV
  have h1 : HT.sIx (r ++ [x]).length 0 none = 0 := rfl
  have h2 : HT.sIx (r ++ [x]).length (r ++ [x]).length (some (-1)) = r.length := by
    show (if (-1 : Int) < 0 then ((-1 : Int) + ((r ++ [x]).length : Int)).toNat else min (-1 : Int).toNat (r ++ [x]).length) = r.length
    rw [if_pos (by decide), List.length_append, List.length_singleton]; omega
  rw [h1, h2, List.drop_zero, Nat.sub_zero]
  exact List.take_left
theorem scEntering : FnScope ["self", "found", "at", "one"] ["self"] (defScope sEntering) := ⟨rfl, rfl, rfl, by decide +kernel, rfl, by decide +kernel, by decide +kernel⟩
/-- a method that keeps its promise; where a method of the text stands -/
structure Mn (P : Program) (w : World) (K : PySem.W.Frag) (mg : Str → Option Value) (base : Heap) (C : Addr) (m : Str) (ps : List Str) (k : Nat) (sp : Sp) : Prop where
  ok : ∃ (f : Addr) (fd : FuncData), FnOk P w K mg base CX0 k f fd ps sp ∧ Binds K fd ps [] ∧ Meth K C m f
structure Dm (K : PySem.W.Frag) (C : Addr) (m qual : Str) (st : Stmt) (ps : List Str) : Prop where
  ok : ∃ (f : Addr) (fd : FuncData), Fun K m qual st f fd ∧ Binds K fd ps [] ∧ Meth K C m f
theorem Dm.fn {m qual : Str} {st : Stmt} {N ps : List Str} {k : Nat} {sp : Sp} (F : Dm K C m qual st ps) (S : FnScope N ps (defScope st)) (len : ∀ vs H Q E, sp vs H Q E → vs.length = ps.length)
    (hbody : ∀ (f : Addr) (cdv : Value) (A : Around) (outer : List Env) (s : Shared) (H : Hp) (vs : List V) (Q : VK) (E : XK), Room k (A.deeper (PyProof.Rows.envOfC qual (defScope st) s.heap.objs.size f cdv)) → sp vs H Q E →
      ∃ t, PSs (cxOf CX0 P w K mg base N qual (defScope st) f cdv A outer s H E).nox (defBody st) t ∧ t { nx := fun _ H' => Q .non H', rt := Q } (start N vs) H) : Mn P w K mg base C m ps (k + 1) sp := by
  obtain ⟨f, fd, F, b, g⟩ := F.ok
  exact ⟨f, fd, F.ok S len (fun cdv A outer s H vs Q E hr h => hbody f cdv A outer s H vs Q E hr h), b, g⟩
/-- found != [] of a list of ints -/
theorem nat_dpAll {H : Hp} (is : List Nat) : DpAll K H (is.map fun i => V.int (i : Nat)) (is.map fun i => PyData.int (i : Nat)) := by
  induction is with
  | nil => exact .nil
  | cons i r ih => exact .cons (.int _) ih
theorem nat_canLay (is : List Nat) : PyData.canLayAll0 (is.map fun i => PyData.int (i : Nat)) = true := by
  induction is with
  | nil => rfl
  | cons i r ih => rw [List.map_cons]; unfold PyData.canLayAll0; rw [ih]; rfl
theorem nat_depth (is : List Nat) : PyData.depthAll (is.map fun i => PyData.int (i : Nat)) = 0 := by
  induction is with
  | nil => rfl
  | cons i r ih => rw [List.map_cons]; unfold PyData.depthAll; rw [ih]; rfl
end
end Mx
end
section
set_option Elab.async false
set_option linter.all false
set_option maxRecDepth 100000
set_option maxHeartbeats 4000000
/-! entering. -/
namespace Mx
open PySem L2 Evl Fra
open Sx (TF bf Tab lessL divL turnR turnLast enterL)
def NtV (_ : PySem.W.Frag) (_ : Hp) (v : V) (i : Nat) : Prop := v = .int (i : Nat)
theorem NtV.map {K : PySem.W.Frag} {H : Hp} {vs : List V} {is : List Nat} (p : Paired (NtV K H) vs is) : vs = is.map fun i => V.int (i : Nat) := by
  induction p with
  | nil => rfl
  | cons r _ ih => rw [List.map_cons, ih]; cases r; rfl
theorem nt_paired {K : PySem.W.Frag} {H : Hp} (is : List Nat) : Paired (NtV K H) (is.map fun i => V.int (i : Nat)) is := by
  induction is with
  | nil => exact .nil
  | cons i r ih => exact .cons rfl ih
section
variable {K : PySem.W.Frag} {σ : L2.St} {H : Hp} {t : TE}
theorem gn_enum {α : Type} {R : PySem.W.Frag → Hp → V → α → Prop} {xs : List α} (ht : Gv t σ H (fun v H' => LsV R K H' v xs)) (mR : ∀ H1 H2 v x, Ex H1 H2 → R K H1 v x → R K H2 v x) :
    Gn (iEnum K (tCons t tNil)) σ H xs.length (fun i H' v => ∃ T w x, v = .ref T ∧ SqT K H' T [.int i, w] ∧ xs[i]? = some x ∧ R K H' w x) := fun H1 e1 R' k => ht H1 e1 _ fun v H2 e2 ⟨a, vs, ev, hl, p⟩ => ⟨a, vs, by rw [ev], hl, k _ H2 e2 (wk_enum hl p mR)⟩
theorem gi_enum {α : Type} {R : PySem.W.Frag → Hp → V → α → Prop} {a : Addr} {vs : List V} {xs : List α} (ht : Ev t σ H (.ref a)) (hl : SqL K H a vs) (p : Paired (R K H) vs xs) (mR : ∀ H1 H2 v x, Ex H1 H2 → R K H1 v x → R K H2 v x) :
    Gi (iEnum K (tCons t tNil)) σ H xs.length (fun i H' v => ∃ T w x, v = .ref T ∧ SqT K H' T [.int i, w] ∧ xs[i]? = some x ∧ R K H' w x) := fun H1 e1 R' k => ht H1 e1 _ fun H2 e2 => ⟨a, vs, rfl, ex_l (e1.trans e2) hl, k _ H2 e2 (wk_enum hl p mR)⟩
/-- a slice of a list: a new list -/
theorem gv_slice {α : Type} {R : PySem.W.Frag → Hp → V → α → Prop} {a : Addr} {vs ws : List V} {ys : List α} {tl th : TO} {lo hi : Option Int} (h : Ev t σ H (.ref a)) (h1 : EvO tl σ H lo) (h2 : EvO th σ H hi) (hs : SqL K H a vs) (hc : cutV vs lo hi = ws) (p : Paired (R K H) ws ys) (mR : ∀ H1 H2 v x, Ex H1 H2 → R K H1 v x → R K H2 v x) :
    Gv (tSl (rSlL K) t tl th) σ H (NwL R K H ys) := fun H1 e Q q =>
  el_sl h h1 h2 hs H1 e Q fun D H2 hD e2 h2 => q _ H2 e2 ⟨D, ws, rfl, fresh_back e hD, by rw [← hc]; exact h2, L2.Paired.mapP p fun v x r => mR _ _ _ _ (e.trans e2) r⟩
theorem paired_snoc {α β : Type} {F : α → β → Prop} : ∀ {l : List α} {m : List β}, Paired F l m → m ≠ [] → ∃ l' x m' y, l = l' ++ [x] ∧ m = m' ++ [y] ∧ Paired F l' m' ∧ F x y
  | _, _, .nil, h => absurd rfl h
  | _, _, @Paired.cons _ _ _ a b l m r t, _ => by
    cases m with
    | nil => cases t; exact ⟨[], a, [], b, rfl, rfl, .nil, r⟩
    | cons c m =>
      obtain ⟨l', x, m', y, e1, e2, p, q⟩ := paired_snoc t (by simp)
      exact ⟨a :: l', x, b :: m', y, by rw [e1]; rfl, by rw [e2]; rfl, .cons r p, q⟩
end
section
variable {P : Program} {w : World} {K : PySem.W.Frag} {mg : Str → Option Value} {base : Heap} {C : Addr}
theorem ok_entering (T : Bt mg) (G : Gc K mg) (Y : Ct K C) (F : Dm K C "entering" "Corner.entering" sEntering ["self"]) (GL : Fn P w K mg base "is_less" ["one", "other"] 1 (spLess K)) : Mn P w K mg base C "entering" ["self"] 2 (spEntering K C) := by
  refine F.fn scEntering (fun vs H Q E h => ?_) (fun f cdv A outer s H vs Q E hr h => ?_)
  · obtain ⟨_, _, _, _, _, _, _, _, _, _, _, _, rfl, _⟩ := h; rfl
  obtain ⟨c, H0, R, l, b, dx, r, la, ba, rws, lws, a, rfl, cv, l0, llen, hb, ha, k⟩ := h
  obtain ⟨aN, gN, fN⟩ := G.nothing
  refine ⟨_, pss_cons (ps_setLc (i := 1) (own := [("at", 2), ("one", 3)]) (g := gTup K 2 (gCons (gName 2) (gCons (gName 3) gNil))) (tt := tB (tCall (spLess K) [] E0 (tCons (tVar 3) (tCons (tC (.ref aN)) tNil)))) (by rfl) scEntering.nd rfl rfl (sw_true rfl rfl rfl (by decide +kernel))
      (pi_enum (by rfl) T.enumerate (pa_cons (pe_slice sl_list (pe_fld (pv 0) rfl) po_none (po_some (pe_un un_neg pe_int))) pa_nil)) (blkOk_by (own := [("at", 2), ("one", 3)]) (N := ["self", "found", "at", "one"]) (sc := defScope sEntering) (by decide +kernel))
      (fun _ _ _ _ _ => pg_tup (by rfl) (pgs_cons (pg_name (i := 2) scEntering.nd rfl (Or.inl rfl)) (pgs_cons (pg_name (i := 3) scEntering.nd rfl (Or.inl rfl)) pgs_nil)))
      (fun _ _ _ _ _ => pts_one (pt_val (pe_fn GL hr (pa_cons (pv 3) (pa_cons (pe_glob (v := .ref aN) rfl gN rfl) pa_nil))))) (fun _ _ _ _ _ => pv 2))
    (pss_one (ps_ret (pe_ifExp (pt_cmpR (op_neD hr.units) (pv 1) (pe_lst pa_nil) (nomark _)) (pe_ix ix_list (pv 1) pe_int (fun _ _ => rfl)) pe_non))), ?_⟩
  obtain ⟨lw', wl, l', ql, elw, el, pl, _⟩ := paired_snoc cv.lp l0
  subst elw el
  have llen' : l'.length ≤ 1000 := by simp at llen; omega
  have sl : Gv (tSl (rSlL K) (tFld K (tVar 0) "last") tNoPart (tPart (tUn (rU fun i => .int (-i)) (tC (.int 1))))) [some (.ref c), none, none, none] H (NwL FrV K H l') :=
    gv_slice (ev_fld (ev_var rfl) cv.ins Y.cl Y.nL (cf_last r la ba)) eo_none (eo_some (i := -1) (ev_un ev_c ru_neg)) (sq_of cv.ll) cutInit pl FrV.ex
  have lc := gv_lcIf (R := NtV) (K := K) (g := gTup K 2 (gCons (gName 2) (gCons (gName 3) gNil))) (tt := tB (tCall (spLess K) [] E0 (tCons (tVar 3) (tCons (tC (.ref aN)) tNil)))) (te := tVar 2) (vs := [2, 3]) (gn_enum (sl.imp fun v H' _ h => h.ls) FrV.ex) (Nat.le_trans llen' (by decide)) (fun i => i) (fun i => decide ((l' ++ [ql]).getD i 0 < 0)) (fun _ _ _ _ _ r => r)
    (fun i x H' Q hi e ⟨t, w1, x1, hx1, hT, hxi, fx⟩ kk => by
      refine ⟨t, _, hx1, hT, rfl, .int i, _, rfl, w1, _, rfl, rfl, ?_⟩
      have eg : (l' ++ [ql]).getD i 0 = x1 := by rw [List.getD_eq_getElem?_getD, List.getElem?_append_left (by simpa using hi), hxi]; rfl
      have mem : x1 ∈ l' ++ [ql] := List.mem_append_left _ (List.mem_of_getElem? hxi)
      refine kk [some (.ref c), none, some (.int i), some w1] H' (Ex.refl _) rfl ?_ fun _ => gv_var rfl fun _ _ => rfl
      refine et_B (ev_fn (ea_cons (ev_var rfl) (ea_cons ev_c ea_nil)) fun H1 e1 Q1 E1 k1 => ?_)
      refine ⟨_, _, x1, 0, a, a, rfl, fx.mono (ExT.of e1), fN H1, hb _ mem, ⟨by simpa using Nat.two_pow_pos a, ?_⟩, by omega, ?_⟩
      · have := (hb _ mem).2
        have h1 : x1.den ≠ 0 := x1.den_nz
        show 1 < 2 ^ a
        omega
      · rw [eg] at k1; exact k1 H1 (Ex.refl _))
  refine sq (lc.go fun v H1 e1 ⟨D, vs, ev, hD, hDl, p⟩ => ?_)
  subst ev
  have evs := NtV.map p
  rw [List.map_id'] at evs
  generalize hfl : (List.range l'.length).filter (fun i => decide ((l' ++ [ql]).getD i 0 < 0)) = fl at *
  have een : enterL (l' ++ [ql]) = fl.head? := by
    unfold enterL; rw [← hfl]
    simp only [List.length_append, List.length_singleton, Nat.add_sub_cancel]
  have v1 : ∀ H', Ev (tVar 1) [some (.ref c), some (.ref D), none, none] H' (.ref D) := fun _ => ev_var rfl
  have test : EvT (tTest (tOp (rNeD K) (tVar 1) (tLst tNil))) [some (.ref c), some (.ref D), none, none] H1 (!decide (fl = [])) := by
    refine et_test (ev_opL (v1 H1) (el_lst ea_nil (by decide)) fun q H2 hq e2 => fun H3 e3 Q k3 => ?_)
    refine ⟨.list (fl.map fun i => PyData.int (i : Nat)), .list [], .lst (sq_of (by rw [← evs]; exact e3 _ _ (e2 _ _ hDl))) (nat_dpAll fl), .lst (sq_of (e3 _ _ hq)) .nil, ?_, rfl, ?_⟩
    · unfold SeqAt.shaped PyData.canLay0 PyData.depth
      rw [nat_canLay, nat_depth]; rfl
    · have : PyData.eqv (.list (fl.map fun i => PyData.int (i : Nat))) (.list []) = decide (fl = []) := by
        cases fl with
        | nil => rfl
        | cons i r => rfl
      rw [this]; exact k3 H3 (Ex.refl _)
  have fin : Ev (tIf (tTest (tOp (rNeD K) (tVar 1) (tLst tNil))) (tOp (rIxL K) (tVar 1) (tC (.int 0))) (tC .non)) [some (.ref c), some (.ref D), none, none] H1 (optV (enterL (l' ++ [ql]))) := by
    rw [een]
    cases fl with
    | nil => exact ev_if test (fun z => by cases z) fun _ => ev_c
    | cons i r =>
      refine ev_if test (fun _ => ev_op (v1 H1) ev_c (rv_ixL (sq_of hDl) ?_)) fun z => by cases z
      rw [evs]; exact at0
  have fin2 := s_ret (D := { nx := fun _ H' => Q .non H', rt := Q }) fin (fun H2 e2 => k H2 (e1.trans e2))
  exact fin2
end
end Mx
end
section
set_option Elab.async false
set_option linter.all false
set_option maxRecDepth 100000
set_option maxHeartbeats 4000000
/-! leaving. -/
namespace Mx
open PySem L2 Evl Fra
open Sx (TF bf Tab lessL divL turnR turnLast enterL)
/-- a pair of ints -/
def PrV (K : PySem.W.Frag) (H : Hp) (v : V) (x : Int × Int) : Prop := ∃ t, v = .ref t ∧ SqT K H t [.int x.1, .int x.2]
theorem PrV.dp {K : PySem.W.Frag} {H : Hp} {v : V} {x : Int × Int} (h : PrV K H v x) : Dp K H v (PySem.W.Datum.toD x) := by
  obtain ⟨t, rfl, h⟩ := h
  exact .tup h (.cons (.int _) (.cons (.int _) .nil))
theorem PrV.mono {K : PySem.W.Frag} {H H' : Hp} {v : V} {x : Int × Int} (e : ExT H H') (h : PrV K H v x) : PrV K H' v x := by
  obtain ⟨t, ev, h⟩ := h
  exact ⟨t, ev, e.t h⟩
theorem PrV.dpAll {K : PySem.W.Frag} {H : Hp} {vs : List V} {xs : List (Int × Int)} (p : Paired (PrV K H) vs xs) : DpAll K H vs (xs.map PySem.W.Datum.toD) := by
  induction p with
  | nil => exact .nil
  | cons r _ ih => exact .cons r.dp ih
def lexLe (a b : Int × Int) : Prop := a.1 < b.1 ∨ (a.1 = b.1 ∧ a.2 ≤ b.2)
theorem lt_lex (a b : Int × Int) : PySem.W.DatumOrd.lt a b = true ↔ ¬ lexLe b a := by
  show (if a.1 = b.1 then decide (a.2 < b.2) else decide (a.1 < b.1)) = true ↔ _
  unfold lexLe
  by_cases h : a.1 = b.1
  · rw [if_pos h, decide_eq_true_eq]; omega
  · rw [if_neg h, decide_eq_true_eq]; omega
theorem minOf_spec (x : Int × Int) (xs : List (Int × Int)) : PySem.W.minOf x xs ∈ x :: xs ∧ ∀ y ∈ x :: xs, lexLe (PySem.W.minOf x xs) y := by
  unfold PySem.W.minOf
  induction xs generalizing x with
  | nil => exact ⟨List.mem_cons_self, fun y hy => by rw [List.mem_singleton] at hy; subst hy; exact .inr ⟨rfl, Int.le_refl _⟩⟩
  | cons z zs ih =>
    rw [List.foldl_cons]
    obtain ⟨h1, h2⟩ := ih (if PySem.W.DatumOrd.lt z x = true then z else x)
    by_cases c : PySem.W.DatumOrd.lt z x = true
    · rw [if_pos c] at h1 h2 ⊢
      refine ⟨List.mem_cons_of_mem _ h1, fun y hy => ?_⟩
      have hz := h2 z List.mem_cons_self
      rcases List.mem_cons.mp hy with e | hy
      · subst e
        have c2 := (lt_lex z y).mp c
        unfold lexLe at *
        omega
      · exact h2 y hy
    · rw [if_neg c] at h1 h2 ⊢
      have hx := h2 x List.mem_cons_self
      refine ⟨?_, fun y hy => ?_⟩
      · rcases List.mem_cons.mp h1 with e | h1
        · rw [e]; exact List.mem_cons_self
        · exact List.mem_cons_of_mem _ (List.mem_cons_of_mem _ h1)
      · rcases List.mem_cons.mp hy with e | hy
        · subst e; exact hx
        · rcases List.mem_cons.mp hy with e | hy
          · subst e
            have c2 : lexLe x y := Classical.byContradiction fun z => c ((lt_lex y x).mpr z)
            unfold lexLe at *
            omega
          · exact h2 y (List.mem_cons_of_mem _ hy)
/-- min(l), l a list of pairs of ints: an item of it -/
def rMinP (K : PySem.W.Frag) : List V → Hp → VK → Prop := fun vs H Q => ∃ (a : Addr) (ps : List V) (xs : List (Int × Int)), vs = [.ref a] ∧ SqL K H a ps ∧ Paired (PrV K H) ps xs ∧ xs ≠ [] ∧
  ∀ v m, PrV K H v m → m ∈ xs → (∀ y ∈ xs, lexLe m y) → Q v H
theorem call_minP {X : Cx} (hc : X.calm = true) (hu : X.A.units + 64 < cLine) : CallR X (.builtin "min") (rMinP X.K) := by
  intro pins s σ H vs us Q I r h
  obtain ⟨a, ps, xs, rfl, hs, hp, ne, q⟩ := h
  obtain ⟨its, rv, hl, _⟩ := I.list hs
  rw [Vals.ref1 r]
  cases xs with
  | nil => exact absurd rfl ne
  | cons x xs =>
    obtain ⟨as, hr⟩ := Dp.readsAll I _ ps its (PrV.dpAll hp) rv
    refine PySem.W.min_list_datum (x := x) (xs := xs) (I.ok.hd hc) hl.isList ⟨as, hr⟩ ?_ fun i v h' tk hi ⟨bs, hv⟩ hk => ?_
    · show X.A.units + 1 + (max 0 0 + 1) < cLine
      simp only [Nat.max_self]
      omega
    · rw [show its.toArray[i]? = its[i]? by simp] at hi
      -- which it is
      have : ∃ v0, ps[i]? = some v0 ∧ RelV v0 v := back rv hi
      obtain ⟨v0, h0, rel⟩ := this
      obtain ⟨m, hm, pm⟩ := wk_list.pget hp h0
      obtain ⟨cs, rd⟩ := Dp.reads I _ v0 v pm.dp rel
      have eq := (PyProof.Rows.Reads.keeps hk rd).unique _ _ hv
      have em : m = PySem.W.minOf x xs := by
        have := PySem.W.Datum.eqv m (PySem.W.minOf x xs)
        rw [eq.1, PySem.W.Datum.eqv] at this
        exact of_decide_eq_true (by rw [← this]; exact decide_eq_true rfl)
      obtain ⟨h1, h2⟩ := minOf_spec x xs
      exact ⟨v0, H, I.kept hk, rel, q v0 m pm (by rw [em]; exact h1) (fun y hy => by rw [em]; exact h2 y hy)⟩
where
  back : ∀ {ps : List V} {its : List Value} {i : Nat} {v : Value}, Vals ps its → its[i]? = some v → ∃ v0, ps[i]? = some v0 ∧ RelV v0 v
    | _, _, _, _, .nil, e => by simp at e
    | _, _, 0, _, .cons r _, e => by simp at e; subst e; exact ⟨_, rfl, r⟩
    | _, _, i + 1, _, .cons _ t, e => by simpa using back (i := i) t (by simpa using e)

/-! ### readings -/
section
variable {K : PySem.W.Frag} {σ : L2.St} {H : Hp} {D : Ends} {t ta te : TE} {P : V → Hp → Prop}
theorem atI_m1 {α : Type} {xs : List α} {v : α} (h : xs[xs.length - 1]? = some v) : atI xs (-1) = some v := by
  have hj : xs.length - 1 < xs.length := (List.getElem?_eq_some_iff.mp h).1
  unfold atI ixN
  rw [if_neg (by decide)]
  rw [if_pos (by omega)]
  show xs[((-1 : Int) + (xs.length : Int)).toNat]? = some v
  rw [show ((-1 : Int) + (xs.length : Int)).toNat = xs.length - 1 by omega]
  exact h
theorem s_appG {l : Addr} {xs : List V} (hl : H l = some (.lst xs)) (ha : Ev ta σ H (.ref l)) (h : Gv te σ H P) (hz : xs.length < 100000) (k : ∀ v H1, Ex H H1 → P v H1 → D.nx σ (upd H1 l (.lst (xs ++ [v])))) :
    tDrop (tBM K "list" rAppend ta (tCons te tNil)) D σ H := ha H (Ex.refl H) _ fun H1 e1 =>
  ⟨Or.inl ⟨rfl, xs, sq_of (e1 l _ hl)⟩, h H1 e1 _ fun v H2 e2 p => ⟨l, xs, v, rfl, rfl, e2 l _ (e1 l _ hl), sz_lt hz, k v H2 (e1.trans e2) p⟩⟩
theorem gv_tup {tA : TA} {B : List V → Hp → Prop} (h : Ga tA σ H B) (hz : ∀ vs H', B vs H' → vs.length ≤ 100000) : Gv (tTup tA) σ H (fun v H' => ∃ p vs H1, v = .ref p ∧ H p = none ∧ H' p = some (.tup vs) ∧ Ex H1 H' ∧ B vs H1) := fun H1 e Q q =>
  h H1 e _ fun vs H2 e2 b => ⟨sz_of (hz vs H2 b), fun p hp => q _ _ (e2.trans (Ex.new hp)) ⟨p, vs, H2, rfl, fresh_back (e.trans e2) hp, upd_same, Ex.new hp, b⟩⟩
/-- found, of a fraction, a number of the base, a place -/
def TrV (K : PySem.W.Frag) (H : Hp) (v : V) (x : Rat × Nat × Nat) : Prop := ∃ t f, v = .ref t ∧ SqT K H t [f, .int (x.2.1 : Nat), .int (x.2.2 : Nat)] ∧ FrV K H f x.1
theorem TrV.mono {v : V} {x : Rat × Nat × Nat} {H' : Hp} (e : ExT H H') (h : TrV K H v x) : TrV K H' v x := by
  obtain ⟨t, f, ev, h, g⟩ := h
  exact ⟨t, f, ev, e.t h, g.mono e⟩
theorem TrV.ex : ∀ H1 H2 v x, Ex H1 H2 → TrV K H1 v x → TrV K H2 v x := fun _ _ _ _ e h => h.mono (ExT.of e)
theorem RwV.ex {H0 : Hp} {r ba : Addr} : ∀ H1 H2 v x, Ex H1 H2 → RwV H0 r ba K H1 v x → RwV H0 r ba K H2 v x := fun H1 H2 v x e ⟨a, ws, q1, q2, q3, q4, q5, q6⟩ => ⟨a, ws, q1, q2, q3, q4, e _ _ q5, L2.Paired.mapP q6 fun v x r => r.mono (ExT.of e)⟩
end
abbrev sLeaving : Stmt := inClass (top 29) 2
/-- the row that goes out -/
structure Out (R : List (List Rat)) (b : List Nat) (n N s i : Nat) : Prop where
  lt : i < n
  pos : 0 < (R.getD i []).getD s 0
  least : ∀ j, j < n → 0 < (R.getD j []).getD s 0 → (R.getD i []).getD N 0 / (R.getD i []).getD s 0 ≤ (R.getD j []).getD N 0 / (R.getD j []).getD s 0
  tie : ∀ j, j < n → 0 < (R.getD j []).getD s 0 → (R.getD i []).getD N 0 / (R.getD i []).getD s 0 = (R.getD j []).getD N 0 / (R.getD j []).getD s 0 → b.getD i 0 ≤ b.getD j 0
def spLeaving (K : PySem.W.Frag) (C : Addr) : Sp := fun vs H Q _ => ∃ (c : Addr) (H0 : Hp) (R : List (List Rat)) (l : List Rat) (b : List Nat) (dx r la ba : Addr) (rws lws : List V) (s n N a : Nat), vs = [.ref c, .int s] ∧ CoV K C H0 H c R l b dx r la ba rws lws ∧ Tab n N R l b ∧ n ≤ 1000 ∧ s ≤ N ∧
  (∀ row ∈ R, ∀ q ∈ row, Bits q a) ∧ a ≤ 2900 ∧ (∃ i, i < n ∧ 0 < (R.getD i []).getD s 0) ∧ ∀ i H', Ex H H' → Out R b n N s i → Q (.int (i : Nat)) H'
section
variable {P : Program} {w : World} {K : PySem.W.Frag} {mg : Str → Option Value} {base : Heap} {C : Addr}
theorem scLeaving : FnScope ["self", "column", "found", "place", "row", "least", "one"] ["self", "column"] (defScope sLeaving) := ⟨rfl, rfl, rfl, by decide +kernel, rfl, by decide +kernel, by decide +kernel⟩
theorem ok_leaving (T : Bt mg) (G : Gc K mg) (Y : Ct K C) (F : Dm K C "leaving" "Corner.leaving" sLeaving ["self", "column"]) (GL : Fn P w K mg base "is_less" ["one", "other"] 1 (spLess K)) (GD : Fn P w K mg base "divided" ["one", "other"] 3 (spFr2 K (· / ·) fun _ q => q ≠ 0))
    (GM : Fn P w K mg base "least_of" ["some"] 2 (spLeast K leastQ)) : Mn P w K mg base C "leaving" ["self", "column"] 4 (spLeaving K C) := by
  refine F.fn scLeaving (fun vs H Q E h => ?_) (fun f cdv A outer s0 H vs Q E hr h => ?_)
  · obtain ⟨_, _, _, _, _, _, _, _, _, _, _, _, _, _, _, rfl, _⟩ := h; rfl
  obtain ⟨c, H0, R, l, b, dx, r, la, ba, rws, lws, s, n, N, a, rfl, cv, tb, hn, hs, hb, ha, hex, k⟩ := h
  obtain ⟨aN, gN, fN⟩ := G.nothing
  refine ⟨_, pss_cons (ps_set (i := 2) scLeaving.nd rfl (.inl rfl) (pe_lst pa_nil))
    (pss_cons (ps_for PassesOwn.never rfl (pi_enum (by rfl) T.enumerate (pa_cons (pe_fld (pv 0) rfl) pa_nil)) (pg_tup (by rfl) (pgs_cons (pg_name (i := 3) scLeaving.nd rfl (Or.inl rfl)) (pgs_cons (pg_name (i := 4) scLeaving.nd rfl (Or.inl rfl)) pgs_nil)))
      (pss_one (ps_if (pt_val (pe_fn GL (hr.mono (by decide)) (pa_cons (pe_glob (v := .ref aN) rfl gN rfl) (pa_cons (pe_ix ix_list (pv 4) (pv 1) (fun _ _ => rfl)) pa_nil))))
        (pss_one (ps_expr (pe_bm PySem.F.plainAttrs_list PySem.F.slot_list_append PySem.F.type_list_append mt_append (pv 2) (pa_cons (pe_tup (pa_cons (pe_fn GD hr (pa_cons (pe_ix ix_list (pv 4) (pe_un un_neg pe_int) (fun _ _ => rfl)) (pa_cons (pe_ix ix_list (pv 4) (pv 1) (fun _ _ => rfl)) pa_nil)))
          (pa_cons (pe_ix ix_list (pe_fld (pv 0) rfl) (pv 3) (fun _ _ => rfl)) (pa_cons (pv 3) pa_nil)))) pa_nil)))) pss_nil)))
    (pss_cons (ps_set (i := 5) scLeaving.nd rfl (.inr rfl) (pe_fn GM (hr.mono (by decide)) (pa_cons (pe_lc (own := [("one", 6)]) (g := gName 6) (by rfl) scLeaving.nd (pi_list (pv 2)) (blkOk_by (own := [("one", 6)]) (N := ["self", "column", "found", "place", "row", "least", "one"]) (sc := defScope sLeaving) (by decide +kernel))
        (fun _ _ _ _ _ => pg_name (i := 6) scLeaving.nd rfl (Or.inl rfl)) (fun _ _ _ _ _ => pts_nil) (fun _ _ _ _ _ => pe_ix (r := rIxT K) ix_tup (pv 6) pe_int (fun _ _ => rfl))) pa_nil)))
    (pss_one (ps_ret (pe_ix ix_tup (pe_callB (call_minP rfl hr.units) (by rfl) T.min (by decide +kernel) (pa_cons (pe_lc (own := [("one", 6)]) (g := gName 6) (by rfl) scLeaving.nd (pi_list (pv 2)) (blkOk_by (own := [("one", 6)]) (N := ["self", "column", "found", "place", "row", "least", "one"]) (sc := defScope sLeaving) (by decide +kernel))
        (fun _ _ _ _ _ => pg_name (i := 6) scLeaving.nd rfl (Or.inl rfl)) (fun _ _ _ _ _ => pts_one (pt_cmpR (r := rEqD K) (op_eqD hr.units) (pe_ix (r := rIxT K) ix_tup (pv 6) pe_int (fun _ _ => rfl)) (pv 5) (nomark _))) (fun _ _ _ _ _ => pe_slice (r := rSlT K) sl_tup (pv 6) (po_some pe_int) po_none)) pa_nil)) pe_int (fun _ _ => rfl)))))), ?_⟩
  have rlen : R.length = n := tb.rows
  have row : ∀ i, i < n → (R.getD i []).length = N + 1 := fun i hi => tb.row hi
  refine sq (s_asgL (el_lst ea_nil (by decide)) fun D H1 hD e1 hDl => ?_)
  refine sq (s_for0 (H0 := H) (n := R.length) (gi_enum (R := RwV H0 r ba) (ev_fld (ev_var rfl) cv.ins Y.cl Y.nR (cf_rows r la ba)) (sq_of cv.rl) cv.rp RwV.ex) e1
    (fun i σ' H' => Ex H H' ∧ ∃ o3 o4 ws, σ' = [some (.ref c), some (.int s), some (.ref D), o3, o4, none, none] ∧ H' D = some (.lst ws) ∧ ws.length ≤ i ∧
      Paired (TrV K H') ws (((List.range i).filter fun i => decide (0 < (R.getD i []).getD s 0)).map fun i => ((R.getD i []).getD N 0 / (R.getD i []).getD s 0, b.getD i 0, i)))
    (fun H2 e2 => ⟨e1.trans e2, none, none, [], rfl, e2 _ _ hDl, Nat.le_refl _, .nil⟩) (fun _ _ _ p => p.1) ?_ ?_)
  · rintro i x σ' H' H'' hi ⟨e, o3, o4, ws, rfl, hws, wlen, hp⟩ e2 ⟨t, w1, row1, rfl, hT, hri, ⟨ra, rs, rfl, _, _, _, hra, hrp⟩⟩
    have hin : i < n := by rw [← rlen]; exact hi
    have er : R.getD i [] = row1 := getD_of hri
    have memr : row1 ∈ R := List.mem_of_getElem? hri
    have rl1 : row1.length = N + 1 := tb.each _ memr
    have len1 : rs.length = row1.length := Paired.length hrp
    obtain ⟨vs, hvs⟩ : ∃ vs, rs[s]? = some vs := ⟨rs[s]'(by omega), by simp [show s < rs.length by omega]⟩
    obtain ⟨qs, hqs, fs⟩ := wk_list.pget hrp hvs
    obtain ⟨vN, hvN⟩ : ∃ vs, rs[rs.length - 1]? = some vs := ⟨rs[rs.length - 1]'(by omega), by simp [show rs.length - 1 < rs.length by omega]⟩
    obtain ⟨qN, hqN, fN'⟩ := wk_list.pget hrp hvN
    have eN : rs.length - 1 = N := by omega
    rw [eN] at hqN
    have es : row1.getD s 0 = qs := getD_of hqs
    have eqN : row1.getD N 0 = qN := getD_of hqN
    have bs := hb _ memr qs (List.mem_of_getElem? hqs)
    have bN := hb _ memr qN (List.mem_of_getElem? hqN)
    refine ⟨t, _, rfl, hT, rfl, _, _, rfl, _, _, rfl, rfl, ?_⟩
    have ee := e.trans e2
    have vrow : ∀ H4, Ex H'' H4 → SqL K H4 ra rs := fun H4 e4 => sq_of (e4 _ _ hra)
    have ixs : ∀ H4, Ex H'' H4 → Ev (tOp (rIxL K) (tVar 4) (tVar 1)) [some (.ref c), some (.int s), some (.ref D), some (.int i), some (.ref ra), none, none] H4 vs := fun H4 e4 => ev_op (ev_var rfl) (ev_var rfl) (rv_ixL (vrow H4 e4) (atI_nat hvs))
    have test : EvT (tB (tCall (spLess K) [] E0 (tCons (tC (.ref aN)) (tCons (tOp (rIxL K) (tVar 4) (tVar 1)) tNil)))) [some (.ref c), some (.int s), some (.ref D), some (.int i), some (.ref ra), none, none] H'' (decide ((0 : Rat) < qs)) := by
      refine et_B (ev_fn (ea_cons ev_c (ea_cons (ixs _ (Ex.refl _)) ea_nil)) fun H4 e4 Q1 E1 k1 => ?_)
      refine ⟨_, _, 0, qs, a, a, rfl, fN H4, fs.mono (ExT.of e4), ⟨by simpa using Nat.two_pow_pos a, ?_⟩, bs, by omega, k1 H4 (Ex.refl _)⟩
      have := bs.2
      have h1 : qs.den ≠ 0 := qs.den_nz
      show 1 < 2 ^ a
      omega
    refine s_when test (fun yes H4 e4 => ?_) fun no H4 e4 => ?_
    · have pos : (0 : Rat) < qs := of_decide_eq_true yes
      have hws4 : H4 D = some (.lst ws) := e4 _ _ (e2 _ _ hws)
      have dv : Gv (tCall (spFr2 K (· / ·) fun _ q => q ≠ 0) [] E0 (tCons (tOp (rIxL K) (tVar 4) (tUn (rU fun i => .int (-i)) (tC (.int 1)))) (tCons (tOp (rIxL K) (tVar 4) (tVar 1)) tNil))) [some (.ref c), some (.int s), some (.ref D), some (.int i), some (.ref ra), none, none] H4 (fun v H5 => FrV K H5 v (qN / qs)) := by
        refine gv_call (B := fun vs' _ => vs' = [vN, vs]) (fun H5 e5 Q q => ea_cons (ev_op (ev_var (H := H4) rfl) (ev_un ev_c ru_neg) (rv_ixL (vrow _ e4) (atI_m1 hvN))) (ea_cons (ixs _ e4) ea_nil) H5 e5 Q fun H6 e6 => q _ H6 e6 rfl) fun vs' H5 e5 hv Q E q => ?_
        subst hv
        exact ⟨_, _, qN, qs, a, a, rfl, fN'.mono (ExT.of (e4.trans e5)), fs.mono (ExT.of (e4.trans e5)), bN, bs, by omega, fun z => by rw [z] at pos; exact absurd pos (by decide), fun u H6 e6 hu => q u H6 e6 hu⟩
      have hbl : atI (b.map fun i => V.int (i : Nat)) (i : Int) = some (.int (b.getD i 0 : Nat)) := by
        have hib : i < b.length := by rw [tb.base]; exact hin
        exact atI_nat (by rw [List.getElem?_map, List.getD_eq_getElem?_getD]; simp [hib])
      have tup := gv_tup (ga_cons dv (ga_cons (Ev.gv (ev_op (ev_fld (ev_var (i := 0) rfl) (e4 _ _ (ee _ _ cv.ins)) Y.cl Y.nB (cf_base r la ba)) (ev_var (i := 3) rfl) (rv_ixL (K := K) (sq_of (e4 _ _ (ee _ _ cv.bl))) hbl))) (ga_cons (gv_var1 (i := 3) (v := .int (i : Nat)) rfl) ga_nil (fun _ _ _ _ h => h)) (fun _ _ _ _ h => h)) (fun _ _ _ e h => FrV.ex _ _ _ _ e h)) (fun vs' H' ⟨v, r, e1, _, v2, r2, e2, _, v3, r3, e3, _, e5⟩ => by rw [e1, e2, e3, e5]; show 3 ≤ 100000; decide)
      refine s_appG hws4 (ev_var rfl) tup (by omega) fun v H5 e5 ⟨p, vs', H6, ev, hp0, hp1, e6, v1, r1, ev1, f1, v2, r2, ev2, ev3, v3, r3, ev4, ev5, ev6⟩ => ?_
      subst ev ev1 ev2 ev3 ev4 ev5 ev6
      have hws5 : H5 D = some (.lst ws) := e5 _ _ hws4
      have up : ExT H5 (upd H5 D (.lst (ws ++ [.ref p]))) := (ExT.refl H5).put (fun xs z => by rw [hws5] at z; cases z) (fun o u z => by rw [hws5] at z; cases z)
      refine ⟨((ee.trans e4).trans e5).mut hD, _, _, ws ++ [.ref p], rfl, upd_same, by rw [List.length_append, List.length_singleton]; omega, ?_⟩
      rw [range_filter_succ, er, es, if_pos (by rw [decide_eq_true_eq]; exact pos), List.map_append]
      refine paired_append (L2.Paired.mapP hp fun v x r => r.mono ((ExT.of ((e2.trans e4).trans e5)).trans up)) (.cons ?_ .nil)
      refine ⟨p, v1, rfl, up.t (st_of hp1), ?_⟩
      show FrV K _ v1 ((R.getD i []).getD N 0 / (R.getD i []).getD s 0)
      rw [er, es, eqN]
      exact (f1.mono (ExT.of e6)).mono up
    · have neg : ¬ (0 : Rat) < qs := of_decide_eq_false no
      refine ⟨ee.trans e4, _, _, ws, rfl, e4 _ _ (e2 _ _ hws), by omega, ?_⟩
      rw [range_filter_succ, er, es, if_neg (by rw [decide_eq_true_eq]; exact neg), List.append_nil]
      exact L2.Paired.mapP hp fun v x r => TrV.ex _ _ _ _ (e2.trans e4) r
  · rintro σ' H' ⟨e, o3, o4, ws, rfl, hws, wlen, hp⟩
    generalize hcnd : (fun i => decide (0 < (R.getD i []).getD s 0)) = cnd at hp
    generalize hf : (fun i => ((R.getD i []).getD N 0 / (R.getD i []).getD s 0, b.getD i 0, i)) = fq at hp
    rw [rlen] at hp
    generalize hxs : ((List.range n).filter cnd).map fq = xs at hp
    have wl : ws.length = xs.length := Paired.length hp
    have ne : xs ≠ [] := by
      obtain ⟨i, hi, pos⟩ := hex
      intro z
      have : fq i ∈ xs := by
        rw [← hxs]
        exact List.mem_map_of_mem (List.mem_filter.mpr ⟨List.mem_range.mpr hi, by rw [← hcnd]; exact decide_eq_true pos⟩)
      rw [z] at this
      cases this
    have xin : ∀ x ∈ xs, ∃ i, i < n ∧ 0 < (R.getD i []).getD s 0 ∧ x = ((R.getD i []).getD N 0 / (R.getD i []).getD s 0, b.getD i 0, i) := by
      intro x hx
      rw [← hxs, List.mem_map] at hx
      obtain ⟨i, hi, rfl⟩ := hx
      obtain ⟨h1, h2⟩ := List.mem_filter.mp hi
      rw [← hcnd] at h2
      exact ⟨i, List.mem_range.mp h1, of_decide_eq_true h2, by rw [← hf]⟩
    have inx : ∀ i, i < n → 0 < (R.getD i []).getD s 0 → ((R.getD i []).getD N 0 / (R.getD i []).getD s 0, b.getD i 0, i) ∈ xs := by
      intro i hi pos
      rw [← hxs]
      have := List.mem_map_of_mem (f := fq) (List.mem_filter.mpr ⟨List.mem_range.mpr hi, by rw [← hcnd]; exact decide_eq_true pos⟩ : i ∈ (List.range n).filter cnd)
      rw [← hf] at this ⊢
      exact this
    have bits : ∀ x ∈ xs, Bits x.1 (a + a) := by
      intro x hx
      obtain ⟨i, hi, pos, rfl⟩ := xin x hx
      have mem : R.getD i [] ∈ R := by
        have e : R[i]? = some (R[i]'(by rw [rlen]; exact hi)) := by simp
        rw [List.getD_eq_getElem?_getD, e]
        exact List.getElem_mem _
      have at_ : ∀ j, j ≤ N → Bits ((R.getD i []).getD j 0) a := fun j hj => by
        have hjl : j < (R.getD i []).length := by rw [row i hi]; omega
        have e : (R.getD i [])[j]? = some ((R.getD i [])[j]) := by simp [hjl]
        rw [getD_of e]
        exact hb _ mem _ (List.getElem_mem _)
      exact (at_ N (Nat.le_refl _)).div (at_ s hs) (fun z => by rw [z] at pos; exact absurd pos (by decide))
    have xlen : xs.length ≤ 1000 := by
      have : xs.length ≤ n := by
        rw [← hxs, List.length_map]
        exact Nat.le_trans (List.length_filter_le _ _) (by rw [List.length_range]; exact Nat.le_refl _)
      omega
    have xget : ∀ i, i < xs.length → ∀ x, xs[i]? = some x → xs.getD i (0, 0, 0) = x := fun i _ x h => getD_of h
    have lc1 := gv_lc (R := FrV) (K := K) (g := gName 6) (te := tOp (rIxT K) (tVar 6) (tC (.int 0))) (vs := [6]) (σ := [some (.ref c), some (.int s), some (.ref D), o3, o4, none, none]) (gi_list (K := K) (ev_var (i := 2) rfl) (sq_of hws) hp TrV.ex).gn (by omega) (fun i => (xs.getD i (0, 0, 0)).1) (fun _ _ _ _ e r => r.mono e)
      (fun i x H2 Q1 hi e2 ⟨y, hy, t, fv, ev, ht, hfv⟩ kk => by
        subst ev
        refine kk [some (.ref c), some (.int s), some (.ref D), o3, o4, none, some (.ref t)] H2 (Ex.refl _) rfl ?_
        rw [getD_of hy]
        exact gv_of (ev_ixT0 (w := .non) (ev_var (i := 6) rfl) ht) fun H3 e3 => hfv.mono (ExT.of e3))
    rw [map_range xs (0, 0, 0) (fun x => x.1)] at lc1
    obtain ⟨x0, xr, exs⟩ : ∃ x0 xr, xs = x0 :: xr := by
      cases xs with
      | nil => exact absurd rfl ne
      | cons x xr => exact ⟨x, xr, rfl⟩
    have lo : Gv (tCall (spLeast K leastQ) [] E0 (tCons (tLc (iList K (tVar 2)) (gName 6) tYes (tOp (rIxT K) (tVar 6) (tC (.int 0))) [6]) tNil)) [some (.ref c), some (.int s), some (.ref D), o3, o4, none, none] H' (fun v H2 => FrV K H2 v (leastQ x0.1 (xr.map (·.1)))) := by
      refine gv_call (ga_cons lc1 ga_nil (fun v H1 H2 e ⟨D2, vs, ev, h1, h2, h3⟩ => ⟨D2, vs, ev, h1, e _ _ h2, L2.Paired.mapP h3 fun v x r => FrV.ex _ _ _ _ e r⟩)) fun vs' H2 e2 ⟨v, r', ev, hv, er⟩ Q1 E1 k1 => ?_
      subst ev er
      have hv' := hv.ls
      rw [exs] at hv'
      refine ⟨v, x0.1, xr.map (·.1), a + a, rfl, hv', fun q hq => ?_, by omega, fun u H3 e3 hu => k1 u H3 e3 hu⟩
      have hq' : q ∈ xs.map (·.1) := by rw [exs]; exact hq
      obtain ⟨x, hx, rfl⟩ := List.mem_map.mp hq'
      exact bits x hx
    generalize hlo : leastQ x0.1 (xr.map (·.1)) = lo_ at lo
    have lo_le : ∀ x ∈ xs, lo_ ≤ x.1 := fun x hx => by
      rw [← hlo]
      exact leastQ_le _ _ _ (by have := List.mem_map_of_mem (f := fun y : Rat × Nat × Nat => y.1) hx; rw [exs] at this; exact this)
    have lo_mem : ∃ x ∈ xs, x.1 = lo_ := by
      have := leastQ_mem x0.1 (xr.map (·.1))
      rw [hlo] at this
      have h2 : lo_ ∈ xs.map (·.1) := by rw [exs]; exact this
      obtain ⟨x, hx, e⟩ := List.mem_map.mp h2
      exact ⟨x, hx, e⟩
    refine sq (lo.go fun v H1 e1' hv => ?_)
    have hws1 : H1 D = some (.lst ws) := e1' _ _ hws
    have hp1 : Paired (TrV K H1) ws xs := L2.Paired.mapP hp fun v x r => TrV.ex _ _ _ _ e1' r
    have lc2 := gv_lcIf (R := PrV) (K := K) (g := gName 6) (tt := tTest (tOp (rEqD K) (tOp (rIxT K) (tVar 6) (tC (.int 0))) (tVar 5))) (te := tSl (rSlT K) (tVar 6) (tPart (tC (.int 1))) tNoPart) (vs := [6]) (σ := [some (.ref c), some (.int s), some (.ref D), o3, o4, some v, none]) (gi_list (K := K) (ev_var (i := 2) rfl) (sq_of hws1) hp1 TrV.ex).gn (by omega)
      (fun i => (((xs.getD i (0, 0, 0)).2.1 : Int), ((xs.getD i (0, 0, 0)).2.2 : Int))) (fun i => decide ((xs.getD i (0, 0, 0)).1 = lo_)) (fun _ _ _ _ e r => r.mono e)
      (fun i x H2 Q1 hi e2 ⟨y, hy, t, fv, ev, ht, hfv⟩ kk => by
        subst ev
        have ey := getD_of (d := (0, 0, 0)) hy
        refine kk [some (.ref c), some (.int s), some (.ref D), o3, o4, some v, some (.ref t)] H2 (Ex.refl _) rfl ?_ fun _ => ?_
        · refine et_cmp (ev_ixT0 (w := .non) (ev_var rfl) ht) (ev_var rfl) ?_
          rw [ey]
          exact rv_eqF hfv (hv.mono (ExT.of e2))
        · rw [ey]
          intro H3 e3 Q3 q3
          refine ⟨_, rfl, _, rfl, t, _, rfl, ex_t e3 ht, fun z => ?_, fun p hp => ?_⟩
          · exact absurd (show (1 : Nat) = 0 from z.1) (by decide)
          · rw [cut1]
            exact q3 _ _ (Ex.new hp) ⟨p, rfl, st_of upd_same⟩)
    -- the pairs of the least
    have fin : Gv (tCB (rMinP K) (tCons (tLc (iList K (tVar 2)) (gName 6) (tTest (tOp (rEqD K) (tOp (rIxT K) (tVar 6) (tC (.int 0))) (tVar 5))) (tSl (rSlT K) (tVar 6) (tPart (tC (.int 1))) tNoPart) [6]) tNil)) [some (.ref c), some (.int s), some (.ref D), o3, o4, some v, none] H1
        (fun v H2 => ∃ t i, v = .ref t ∧ SqT K H2 t [.int (b.getD i 0 : Nat), .int (i : Nat)] ∧ Out R b n N s i) := by
      refine gv_cb (ga_cons lc2 ga_nil (fun v H1 H2 e ⟨D2, vs, ev, h1, h2, h3⟩ => ⟨D2, vs, ev, h1, e _ _ h2, L2.Paired.mapP h3 fun v x r => r.mono (ExT.of e)⟩)) fun vs' H2 e2 ⟨v, r', ev, ⟨D2, vs2, ev2, h1, h2, h3⟩, er⟩ Q1 k1 => ?_
      subst ev er ev2
      have of_mem : ∀ m ∈ (((List.range xs.length).filter fun i => decide ((xs.getD i (0, 0, 0)).1 = lo_)).map fun i => (((xs.getD i (0, 0, 0)).2.1 : Int), ((xs.getD i (0, 0, 0)).2.2 : Int))), ∃ x ∈ xs, x.1 = lo_ ∧ m = ((x.2.1 : Int), (x.2.2 : Int)) := by
        intro m hm
        obtain ⟨i, hi, rfl⟩ := List.mem_map.mp hm
        obtain ⟨h1, h2⟩ := List.mem_filter.mp hi
        have hi' := List.mem_range.mp h1
        have e : xs[i]? = some xs[i] := by simp [hi']
        rw [getD_of e] at h2 ⊢
        exact ⟨_, List.getElem_mem hi', of_decide_eq_true h2, rfl⟩
      have mem_of : ∀ x ∈ xs, x.1 = lo_ → ((x.2.1 : Int), (x.2.2 : Int)) ∈ (((List.range xs.length).filter fun i => decide ((xs.getD i (0, 0, 0)).1 = lo_)).map fun i => (((xs.getD i (0, 0, 0)).2.1 : Int), ((xs.getD i (0, 0, 0)).2.2 : Int))) := by
        intro x hx ex
        obtain ⟨i, hi, e⟩ := List.getElem_of_mem hx
        have e' : xs[i]? = some x := by simp [hi, e]
        refine List.mem_map.mpr ⟨i, List.mem_filter.mpr ⟨List.mem_range.mpr hi, ?_⟩, ?_⟩
        · rw [getD_of e']; exact decide_eq_true ex
        · rw [getD_of e']
      refine ⟨D2, vs2, _, rfl, sq_of h2, h3, fun z => ?_, fun v m pm hm hall => ?_⟩
      · obtain ⟨x, hx, ex⟩ := lo_mem
        have := mem_of x hx ex
        rw [z] at this
        cases this
      · obtain ⟨x, hx, ex, rfl⟩ := of_mem m hm
        obtain ⟨i, hi, pos, rfl⟩ := xin x hx
        obtain ⟨t, ev, ht⟩ := pm
        refine k1 v H2 (Ex.refl _) ⟨t, i, ev, ht, hi, pos, fun j hj pj => ?_, fun j hj pj eq => ?_⟩
        · have := lo_le _ (inx j hj pj)
          rw [← ex] at this
          exact this
        · have := hall _ (mem_of _ (inx j hj pj) (by rw [← ex]; exact eq.symm))
          unfold lexLe at this
          simp only at this
          omega
    refine fin.go fun v2 H2 e2 ⟨t, i, ev, ht, ho⟩ => ?_
    subst ev
    exact ⟨t, _, 1, _, rfl, rfl, ht, at1, k i H2 ((e.trans e1').trans e2) ho⟩
end
end Mx
end
section
set_option Elab.async false
set_option linter.all false
set_option maxRecDepth 100000
set_option maxHeartbeats 4000000
/-! turn. -/
namespace Mx
open PySem L2 Evl Fra
open Sx (TF bf Tab lessL divL turnR turnLast enterL)
abbrev sTurn : Stmt := inClass (top 29) 3
theorem putF_last (r la la2 ba : Addr) : putF ("last" : Str) (.ref la2) (cf r la ba) = cf r la2 ba := by
  unfold cf
  have h1 : ¬ (("rows" : Str) = "last") := by decide +kernel
  show (if ("rows" : Str) = "last" then _ else _) = _
  rw [if_neg h1]
  show _ :: (if ("last" : Str) = "last" then _ else _) = _
  rw [if_pos rfl]
section
variable {K : PySem.W.Frag} {C : Addr} {H0 H : Hp} {c : Addr} {R : List (List Rat)} {l : List Rat} {b : List Nat} {dx r la ba : Addr} {rws lws : List V}
theorem RwV.up {H' : Hp} {v : V} {x : List Rat} (h : RwV H0 r ba K H v x) (e : ExT H H') (hk : ∀ a, a ≠ r → a ≠ ba → H a ≠ none → ∀ ws, H a = some (.lst ws) → H' a = some (.lst ws)) : RwV H0 r ba K H' v x := by
  obtain ⟨a, ws, q1, q2, q3, q4, q5, q6⟩ := h
  exact ⟨a, ws, q1, q2, q3, q4, hk a q2 q3 (by rw [q5]; exact nofun) ws q5, L2.Paired.mapP q6 fun v x r => r.mono e⟩
theorem ext_set {xs : List V} {o : HO} (h : H r = some (.lst xs)) : ExT H (upd H r o) := (ExT.refl H).put (fun _ z => by rw [h] at z; cases z) (fun _ _ z => by rw [h] at z; cases z)
theorem paired_set {α β : Type} {F : α → β → Prop} : ∀ {l : List α} {m : List β} {i : Nat} {a : α} {b : β}, Paired F l m → F a b → Paired F (l.set i a) (m.set i b)
  | _, _, _, _, _, .nil, _ => .nil
  | _, _, 0, _, _, .cons _ t, h => .cons h t
  | _, _, i + 1, _, _, .cons r t, h => .cons r (paired_set t h)
/-- a row that is set anew -/
theorem CoV.setRow (h : CoV K C H0 H c R l b dx r la ba rws lws) (i : Nat) {D : Addr} {ws : List V} {row : List Rat} (hD : H D = some (.lst ws)) (h0 : H0 D = none) (hr : D ≠ r) (hb : D ≠ ba) (hp : Paired (FrV K H) ws row) :
    CoV K C H0 (upd H r (.lst (rws.set i (.ref D)))) c (R.set i row) l b dx r la ba (rws.set i (.ref D)) lws := by
  have e : ExT H (upd H r (.lst (rws.set i (.ref D)))) := ext_set h.rl
  have cr : c ≠ r := fun z => by have := h.ins; rw [z, h.rl] at this; cases this
  refine ⟨h.ex.mut h.r0, h.c0, h.r0, h.l0, h.b0, ?_, upd_same, ?_, ?_, L2.Paired.mapP h.lp fun v x r => r.mono e, ?_, h.rla, h.rba, h.lba⟩
  · rw [upd_ne cr]; exact h.ins
  · refine paired_set (L2.Paired.mapP h.rp fun v x q => q.up e fun a n1 n2 _ ws hw => by rw [upd_ne n1]; exact hw) ?_
    exact ⟨D, ws, rfl, hr, hb, h0, by rw [upd_ne hr]; exact hD, L2.Paired.mapP hp fun v x r => r.mono e⟩
  · rw [upd_ne h.rla.symm]; exact h.ll
  · rw [upd_ne h.rba.symm]; exact h.bl
/-- the base that is set anew -/
theorem CoV.setBase (h : CoV K C H0 H c R l b dx r la ba rws lws) (i s : Nat) :
    CoV K C H0 (upd H ba (.lst ((b.map fun i => V.int (i : Nat)).set i (.int (s : Nat))))) c R l (b.set i s) dx r la ba rws lws := by
  have e : ExT H (upd H ba (.lst ((b.map fun i => V.int (i : Nat)).set i (.int (s : Nat))))) := ext_set h.bl
  have cr : c ≠ ba := fun z => by have := h.ins; rw [z, h.bl] at this; cases this
  refine ⟨h.ex.mut h.b0, h.c0, h.r0, h.l0, h.b0, ?_, ?_, ?_, ?_, L2.Paired.mapP h.lp fun v x r => r.mono e, ?_, h.rla, h.rba, h.lba⟩
  · rw [upd_ne cr]; exact h.ins
  · rw [upd_ne h.rba]; exact h.rl
  · exact L2.Paired.mapP h.rp fun v x q => q.up e fun a n1 n2 _ ws hw => by rw [upd_ne n2]; exact hw
  · rw [upd_ne h.lba]; exact h.ll
  · rw [upd_same, List.map_set]
/-- the last row that is set anew -/
theorem CoV.setLast (h : CoV K C H0 H c R l b dx r la ba rws lws) {D : Addr} {ws : List V} {row : List Rat} (hD : H D = some (.lst ws)) (h0 : H0 D = none) (hr : D ≠ r) (hb : D ≠ ba) (hp : Paired (FrV K H) ws row) :
    CoV K C H0 (upd H c (.ins C dx (cf r D ba))) c R row b dx r D ba rws ws := by
  have e : ExT H (upd H c (.ins C dx (cf r D ba))) := (ExT.refl H).put (fun _ z => by rw [h.ins] at z; cases z) (fun _ _ z => by rw [h.ins] at z; cases z)
  have ne : ∀ a ws, H a = some (.lst ws) → a ≠ c := fun a ws ha z => by rw [z, h.ins] at ha; cases ha
  refine ⟨h.ex.mut h.c0, h.c0, h.r0, h0, h.b0, upd_same, ?_, ?_, ?_, L2.Paired.mapP hp fun v x r => r.mono e, ?_, hr.symm, h.rba, hb⟩
  · rw [upd_ne (ne _ _ h.rl)]; exact h.rl
  · exact L2.Paired.mapP h.rp fun v x q => q.up e fun a n1 n2 _ ws hw => by rw [upd_ne (ne _ _ hw)]; exact hw
  · rw [upd_ne (ne _ _ hD)]; exact hD
  · rw [upd_ne (ne _ _ h.bl)]; exact h.bl
end
section
variable {K : PySem.W.Frag} {C : Addr} {H0 H : Hp} {c : Addr} {R : List (List Rat)} {l : List Rat} {b : List Nat} {dx r la ba : Addr} {rws lws : List V} {σ : L2.St}
theorem paired_at {α β : Type} {F : α → β → Prop} {l : List α} {m : List β} {i : Nat} {y : β} (h : Paired F l m) (e : m[i]? = some y) : ∃ x, l[i]? = some x ∧ F x y := by
  have hl : l.length = m.length := Paired.length h
  have hi : i < m.length := (List.getElem?_eq_some_iff.mp e).1
  have e1 : l[i]? = some (l[i]'(by omega)) := by simp [show i < l.length by omega]
  obtain ⟨y', h1, h2⟩ := wk_list.pget h e1
  rw [e] at h1
  cases h1
  exact ⟨_, e1, h2⟩
theorem some_getD {α : Type} {l : List α} {i : Nat} {d : α} (h : i < l.length) : l[i]? = some (l.getD i d) := by
  rw [List.getD_eq_getElem?_getD]; simp [h]
theorem gn_range {ta : TA} {n : Nat} (h : EvA ta σ H [.int (n : Nat)]) (hn : n ≤ 100000) : Gn (iRng1 ta) σ H n (fun i _ v => v = .int (0 + (i : Int))) := fun H1 e1 R k => h H1 e1 _ fun H2 e2 =>
  ⟨n, rfl, by omega, by omega, by show R (Itr 0 (n : Int).toNat) H2; rw [Int.toNat_natCast]; exact k _ H2 e2 wk_range⟩
theorem ev_lenL {ta : TE} {a : Addr} {xs : List V} {n : Nat} (h : Ev ta σ H (.ref a)) (hs : SqL K H a xs) (hn : xs.length = n) : Ev (tCB (fun xs H Q => ∃ x n, xs = [x] ∧ LenV K x H n ∧ Q (.int n) H) (tCons ta tNil)) σ H (.int n) :=
  ev_cb (ea_cons h ea_nil) fun H1 e Q q => ⟨_, _, rfl, .inl ⟨_, ex_l e hs, hn.symm⟩, q H1 (Ex.refl H1)⟩
theorem CoV.row (h : CoV K C H0 H c R l b dx r la ba rws lws) {i : Nat} (hi : i < R.length) : ∃ a ws, rws[i]? = some (.ref a) ∧ H a = some (.lst ws) ∧ Paired (FrV K H) ws (R.getD i []) := by
  have e : R[i]? = some R[i] := by simp [hi]
  obtain ⟨v, h1, ⟨a, ws, rfl, _, _, _, q5, q6⟩⟩ := paired_at h.rp e
  exact ⟨a, ws, h1, q5, by rw [getD_of e]; exact q6⟩
theorem CoV.evRows (h : CoV K C H0 H c R l b dx r la ba rws lws) (Y : Ct K C) (hc : σ[0]? = some (some (.ref c))) : Ev (tFld K (tVar 0) "rows") σ H (.ref r) := ev_fld (ev_var hc) h.ins Y.cl Y.nR (cf_rows r la ba)
theorem CoV.evLast (h : CoV K C H0 H c R l b dx r la ba rws lws) (Y : Ct K C) (hc : σ[0]? = some (some (.ref c))) : Ev (tFld K (tVar 0) "last") σ H (.ref la) := ev_fld (ev_var hc) h.ins Y.cl Y.nL (cf_last r la ba)
theorem CoV.evBase (h : CoV K C H0 H c R l b dx r la ba rws lws) (Y : Ct K C) (hc : σ[0]? = some (some (.ref c))) : Ev (tFld K (tVar 0) "base") σ H (.ref ba) := ev_fld (ev_var hc) h.ins Y.cl Y.nB (cf_base r la ba)
theorem CoV.evRow (h : CoV K C H0 H c R l b dx r la ba rws lws) (Y : Ct K C) (hc : σ[0]? = some (some (.ref c))) {j i : Nat} {a : Addr} (hj : σ[j]? = some (some (.int (i : Nat)))) (ha : rws[i]? = some (.ref a)) : Ev (tOp (rIxL K) (tFld K (tVar 0) "rows") (tVar j)) σ H (.ref a) :=
  ev_op (h.evRows Y hc) (ev_var hj) (rv_ixL (sq_of h.rl) (atI_nat ha))
/-- xs[i] = e, e told by what it is -/
theorem s_setG {D : Ends} {ta tb te : TE} {P : V → Hp → Prop} {l : Addr} {xs : List V} {j : Nat} (hl : H l = some (.lst xs)) (h : Gv te σ H P) (mP : ∀ v H1 H2, Ex H1 H2 → P v H1 → P v H2) (ho : Ev ta σ H (.ref l)) (hi : Ev tb σ H (.int (j : Int))) (hj : j < xs.length) (k : ∀ v H1, Ex H H1 → P v H1 → D.nx σ (upd H1 l (.lst (xs.set j v)))) :
    tAsg te (gSub ta tb rSetL) D σ H := h H (Ex.refl H) _ fun v H1 e1 p => ho H1 e1 _ fun H2 e2 => hi H2 (e1.trans e2) _ fun H3 e3 =>
  ⟨l, xs, (j : Int), j, rfl, rfl, ((e1.trans e2).trans e3) l _ hl, ixN_nat hj, k v H3 ((e1.trans e2).trans e3) (mP _ _ _ (e2.trans e3) p)⟩
theorem s_forNG {D : Ends} {t : TE} {g : TG} {tb : TS} {P : V → Hp → Prop} (h : Gv t σ H P) (k : ∀ v H1, Ex H H1 → P v H1 → ∃ a xs, v = .ref a ∧ H1 a = some (.lst xs) ∧ ∃ Pv : Nat → L2.St → Hp → Prop, Pv 0 σ H1 ∧ (∀ i σ' H', i ≤ xs.length → Pv i σ' H' → SqL K H' a xs) ∧
    (∀ i x σ' H', xs[i]? = some x → Pv i σ' H' → g x σ' H' fun σ2 H2 => tb { D with nx := Pv (i + 1), ct := Pv (i + 1), bk := D.nx } σ2 H2) ∧ (∀ σ' H', Pv xs.length σ' H' → D.nx σ' H')) : tFor (iList K t) g tb D σ H :=
  h.go fun v H1 e p => by
    obtain ⟨a, xs, ev, hl, Pv, h0, h1, h2, h3⟩ := k v H1 e p
    exact ⟨a, ev, ⟨xs, sq_of hl⟩, for_list Pv h0 h1 h2 h3⟩
theorem NwL.mono {α : Type} {F : PySem.W.Frag → Hp → V → α → Prop} {xs : List α} {v : V} {H1 H2 : Hp} (mR : ∀ H1 H2 v x, Ex H1 H2 → F K H1 v x → F K H2 v x) (e : Ex H1 H2) (h : NwL F K H xs v H1) : NwL F K H xs v H2 := by
  obtain ⟨D, vs, ev, h1, h2, h3⟩ := h
  exact ⟨D, vs, ev, h1, e _ _ h2, L2.Paired.mapP h3 fun v x r => mR _ _ _ _ e r⟩
end
def spTurn (K : PySem.W.Frag) (C : Addr) : Sp := fun vs H Q _ => ∃ (c : Addr) (H0 : Hp) (R : List (List Rat)) (l : List Rat) (b : List Nat) (dx r la ba : Addr) (rws lws : List V) (p s n N a : Nat), vs = [.ref c, .int p, .int s] ∧ CoV K C H0 H c R l b dx r la ba rws lws ∧ Tab n N R l b ∧ n ≤ 900 ∧ N ≤ 900 ∧ p < n ∧ s ≤ N ∧
  (∀ row ∈ R, ∀ q ∈ row, Bits q a) ∧ (∀ q ∈ l, Bits q a) ∧ (∀ q ∈ divL (R.getD p []) ((R.getD p []).getD s 0), Bits q a) ∧ (R.getD p []).getD s 0 ≠ 0 ∧ a ≤ 2900 ∧
  ∀ la' rws' lws' H', CoV K C H0 H' c (turnR R p s) (turnLast R l p s) (b.set p s) dx r la' ba rws' lws' → Q .non H'
section
variable {P : Program} {w : World} {K : PySem.W.Frag} {mg : Str → Option Value} {base : Heap} {C : Addr}
theorem scTurn : FnScope ["self", "place", "column", "head", "other", "one", "at"] ["self", "place", "column"] (defScope sTurn) := ⟨rfl, rfl, rfl, by decide +kernel, rfl, by decide +kernel, by decide +kernel⟩
theorem ok_turn (T : Bt mg) (Y : Ct K C) (F : Dm K C "turn" "Corner.turn" sTurn ["self", "place", "column"]) (GD : Fn P w K mg base "divided" ["one", "other"] 3 (spFr2 K (· / ·) fun _ q => q ≠ 0))
    (GT : Fn P w K mg base "less_times" ["row", "other", "column"] 4 (spLessTimes K)) : Mn P w K mg base C "turn" ["self", "place", "column"] 5 (spTurn K C) := by
  refine F.fn scTurn (fun vs H Q E h => ?_) (fun f cdv A outer s0 H vs Q E hr h => ?_)
  · obtain ⟨_, _, _, _, _, _, _, _, _, _, _, _, _, _, _, _, rfl, _⟩ := h; rfl
  obtain ⟨c, H0, R, l, b, dx, r, la, ba, rws, lws, p, s, n, N, a, rfl, cv, tb, hn, hN, hp, hs, hb, hbl, hbd, h0, ha, k⟩ := h
  refine ⟨_, pss_cons (ps_set (i := 3) scTurn.nd rfl (.inr rfl) (pe_ix ix_list (pe_ix ix_list (pe_fld (pv 0) rfl) (pv 1) (fun _ _ => rfl)) (pv 2) (fun _ _ => rfl)))
    (pss_cons (ps_asg (pe_lc (own := [("one", 5)]) (g := gName 5) (by rfl) scTurn.nd (pi_list (pe_ix ix_list (pe_fld (pv 0) rfl) (pv 1) (fun _ _ => rfl))) (blkOk_by (own := [("one", 5)]) (N := ["self", "place", "column", "head", "other", "one", "at"]) (sc := defScope sTurn) (by decide +kernel))
        (fun _ _ _ _ _ => pg_name (i := 5) scTurn.nd rfl (Or.inl rfl)) (fun _ _ _ _ _ => pts_nil) (fun _ _ _ _ _ => pe_fn GD (hr.mono (by decide)) (pa_cons (pv 5) (pa_cons (pv 3) pa_nil)))) (pg_sub (pe_fld (pv 0) rfl) (pv 1) set_list))
    (pss_cons (ps_for PassesOwn.never rfl (pi_list (pe_lc (own := [("at", 6)]) (g := gName 6) (by rfl) scTurn.nd (pi_range1 (by rfl) T.range (pa_cons (pe_callB call_len (by rfl) T.len PySem.boot_len (pa_cons (pe_fld (pv 0) rfl) pa_nil)) pa_nil)) (blkOk_by (own := [("at", 6)]) (N := ["self", "place", "column", "head", "other", "one", "at"]) (sc := defScope sTurn) (by decide +kernel))
        (fun _ _ _ _ _ => pg_name (i := 6) scTurn.nd rfl (Or.inl rfl)) (fun _ _ _ _ _ => pts_one (pt_cmpR op_ne (pv 6) (pv 1) (nomark _))) (fun _ _ _ _ _ => pv 6))) (pg_name (i := 4) scTurn.nd rfl (Or.inl rfl))
      (pss_one (ps_asg (pe_fn GT hr (pa_cons (pe_ix ix_list (pe_fld (pv 0) rfl) (pv 4) (fun _ _ => rfl)) (pa_cons (pe_ix ix_list (pe_fld (pv 0) rfl) (pv 1) (fun _ _ => rfl)) (pa_cons (pv 2) pa_nil)))) (pg_sub (pe_fld (pv 0) rfl) (pv 4) set_list))))
    (pss_cons (ps_fld (pv 0) (pe_fn GT hr (pa_cons (pe_fld (pv 0) rfl) (pa_cons (pe_ix ix_list (pe_fld (pv 0) rfl) (pv 1) (fun _ _ => rfl)) (pa_cons (pv 2) pa_nil)))) rfl)
    (pss_one (ps_asg (pv 2) (pg_sub (pe_fld (pv 0) rfl) (pv 1) set_list)))))), ?_⟩
  have rlen : R.length = n := tb.rows
  have row : ∀ i, i < n → (R.getD i []).length = N + 1 := fun i hi => tb.row hi
  have rmem : ∀ i, i < n → R.getD i [] ∈ R := fun i hi => by
    have e : R[i]? = some (R[i]'(by omega)) := by simp [show i < R.length by omega]
    rw [getD_of e]; exact List.getElem_mem _
  obtain ⟨ap, wp, hap, hapl, hpp⟩ := cv.row (i := p) (by omega)
  have rp : (R.getD p []).length = N + 1 := row p hp
  have hsp : (R.getD p [])[s]? = some ((R.getD p []).getD s 0) := some_getD (by omega)
  obtain ⟨hv, hhv, fhv⟩ := paired_at hpp hsp
  generalize hq : (R.getD p []).getD s 0 = q at *
  generalize hdv : divL (R.getD p []) q = dv at *
  have dvl : dv.length = N + 1 := by rw [← hdv, Sx.divL_len]; exact rp
  -- head
  refine sq (s_asg (v := hv) (ev_op (cv.evRow Y rfl (i := p) rfl hap) (ev_var rfl) (rv_ixL (sq_of hapl) (atI_nat hhv))) fun H1 e1 => ?_)
  have cv1 := cv.mono e1
  -- the row of the place
  have lc := gv_lc (R := FrV) (K := K) (g := gName 5) (te := tCall (spFr2 K (· / ·) fun _ q => q ≠ 0) [] E0 (tCons (tVar 5) (tCons (tVar 3) tNil))) (vs := [5]) (σ := [some (.ref c), some (.int p), some (.int s), some hv, none, none, none]) (H := H1)
    (gi_list (K := K) (cv1.evRow Y rfl (j := 1) (i := p) rfl hap) (sq_of (e1 _ _ hapl)) (L2.Paired.mapP hpp fun v x r => FrV.ex _ _ _ _ e1 r) FrV.ex).gn (by omega) (fun i => (R.getD p []).getD i 0 / q) (fun _ _ _ _ e r => r.mono e)
    (fun i x H2 Q1 hi e2 ⟨y, hy, fy⟩ kk => by
      refine kk [some (.ref c), some (.int p), some (.int s), some hv, none, some x, none] H2 (Ex.refl _) rfl ?_
      rw [getD_of hy]
      refine gv_call (B := fun vs' _ => vs' = [x, hv]) (fun H5 e5 Q q => ea_cons (ev_var (H := H2) rfl) (ea_cons (ev_var rfl) ea_nil) H5 e5 Q fun H6 e6 => q _ H6 e6 rfl) fun vs' H5 e5 hv' Q E q' => ?_
      subst hv'
      exact ⟨_, _, y, q, a, a, rfl, fy.mono (ExT.of e5), fhv.mono (ExT.of ((e1.trans e2).trans e5)), hb _ (rmem p hp) _ (List.mem_of_getElem? hy), hb _ (rmem p hp) _ (List.mem_of_getElem? hsp), by omega, h0, fun u H6 e6 hu => q' u H6 e6 hu⟩)
  rw [map_range (R.getD p []) 0 (fun x => x / q), show (R.getD p []).map (fun x => x / q) = dv from hdv] at lc
  have rwl : rws.length = n := by rw [← rlen]; exact Paired.length cv.rp
  refine sq (s_setG (j := p) cv1.rl lc (fun v H1 H2 e p => p.mono FrV.ex e) (cv1.evRows Y rfl) (ev_var rfl) (by omega) fun v H2 e2 ⟨D, wd, ev, hD, hDl, hdp⟩ => ?_)
  subst ev
  have h00 : ∀ a, H1 a = none → H0 a = none := fun a h => fresh_back cv1.ex h
  have cv2 := (cv1.mono e2).setRow p hDl (h00 D hD) (fun z => by rw [z, cv1.rl] at hD; cases hD) (fun z => by rw [z, cv1.bl] at hD; cases hD) hdp
  obtain ⟨H3, hH3⟩ : ∃ H3, upd H2 r (.lst (rws.set p (.ref D))) = H3 := ⟨_, rfl⟩
  rw [hH3] at cv2 ⊢
  -- the others
  have lc2 := gv_lcIf (R := NtV) (K := K) (g := gName 6) (tt := tTest (tOp rNe (tVar 6) (tVar 1))) (te := tVar 6) (vs := [6]) (σ := [some (.ref c), some (.int p), some (.int s), some hv, none, none, none]) (H := H3) (n := n)
    (wi := iRng1 (tCons (tCB (fun xs H Q => ∃ x n, xs = [x] ∧ LenV K x H n ∧ Q (.int n) H) (tCons (tFld K (tVar 0) "rows") tNil)) tNil)) (B := fun i _ v => v = .int (0 + (i : Int)))
    (gn_range (ea_cons (ev_lenL (cv2.evRows Y rfl) (sq_of cv2.rl) (by rw [List.length_set]; exact rwl)) ea_nil) (by omega)) (by omega) (fun i => i) (fun i => decide (i ≠ p)) (fun _ _ _ _ _ r => r)
    (fun i x H4 Q1 hi e2 hx kk => by
      subst hx
      refine kk [some (.ref c), some (.int p), some (.int s), some hv, none, none, some (.int (0 + (i : Int)))] H4 (Ex.refl _) rfl ?_ fun _ => ?_
      · have := et_neI (σ := [some (V.ref c), some (.int p), some (.int s), some hv, none, none, some (.int (0 + (i : Int)))]) (H := H4) (ta := tVar 6) (tb := tVar 1) (ev_var rfl) (ev_var rfl)
        refine et_is this ?_
        by_cases z : i = p
        · subst z; simp
        · rw [decide_eq_true z, decide_eq_false (by omega)]; rfl
      · exact gv_var rfl fun _ _ => by show V.int _ = V.int _; rw [Int.zero_add])
  rw [List.map_id'] at lc2
  generalize his : (List.range n).filter (fun i => decide (i ≠ p)) = is at lc2
  have isin : ∀ i ∈ is, i < n ∧ i ≠ p := fun i hi => by
    rw [← his] at hi
    obtain ⟨h1, h2⟩ := List.mem_filter.mp hi
    exact ⟨List.mem_range.mp h1, of_decide_eq_true h2⟩
  have inis : ∀ i, i < n → i ≠ p → i ∈ is := fun i hi h => by
    rw [← his]; exact List.mem_filter.mpr ⟨List.mem_range.mpr hi, decide_eq_true h⟩
  have nod : is.Nodup := by rw [← his]; exact List.Pairwise.filter _ List.nodup_range
  have c0 : ∀ H', Ex H3 H' → CoV K C H0 H' c (R.set p dv) l b dx r la ba (rws.set p (.ref D)) lws := fun H' e => cv2.mono e
  dsimp only
  refine sq (s_forNG lc2 fun v H4 e4 ⟨D5, vs5, ev5, h51, h52, h53⟩ => ?_)
  have := NtV.map h53
  subst this
  have D5r : D5 ≠ r := fun z => by rw [z, cv2.rl] at h51; cases h51
  refine ⟨D5, _, ev5, h52, fun j σ' H' => ∃ o4 R' rws', σ' = [some (.ref c), some (.int p), some (.int s), some hv, o4, none, none] ∧ CoV K C H0 H' c R' l b dx r la ba rws' lws ∧ R'.length = n ∧
    (∀ i, i < n → R'.getD i [] = if i = p then dv else if i ∈ is.take j then lessL (R.getD i []) dv s else R.getD i []) ∧ H' D5 = some (.lst (is.map fun i => V.int (i : Nat))), ?_, ?_, ?_, ?_⟩
  · refine ⟨none, _, _, rfl, cv2.mono e4, by rw [List.length_set]; exact rlen, fun i hi => ?_, h52⟩
    by_cases z : i = p
    · rw [if_pos z, z, List.getD_eq_getElem?_getD, List.getElem?_set_self (by omega)]; rfl
    · rw [if_neg z, if_neg (by simp), List.getD_eq_getElem?_getD, List.getElem?_set_ne (fun q => z q.symm), ← List.getD_eq_getElem?_getD]
  · rintro i σ' H' _ ⟨o4, R', rws', rfl, cv', len', rows', hl'⟩
    exact sq_of hl'
  · rintro j x σ' H' hx ⟨o4, R', rws', rfl, cv', len', rows', hl'⟩
    have hx' : (is.map fun i => V.int (i : Nat))[j]? = some x := hx
    rw [List.getElem?_map] at hx'
    obtain ⟨i, hij, rfl⟩ : ∃ i, is[j]? = some i ∧ V.int (i : Nat) = x := by
      cases h : is[j]? with
      | none => rw [h] at hx'; cases hx'
      | some i => rw [h] at hx'; exact ⟨i, rfl, by simpa using hx'⟩
    obtain ⟨hin, hip⟩ := isin i (List.mem_of_getElem? hij)
    have notin : i ∉ is.take j := by
      intro hm
      obtain ⟨j2, h1, h2⟩ := List.getElem_of_mem hm
      rw [List.getElem_take] at h2
      have hj2 : j2 < j := by rw [List.length_take] at h1; omega
      have hjl : j < is.length := (List.getElem?_eq_some_iff.mp hij).1
      have e3 : is[j] = i := (List.getElem?_eq_some_iff.mp hij).2
      have := (List.pairwise_iff_getElem.mp nod) j2 j (by omega) hjl hj2
      exact this (by rw [h2, e3])
    have ri : R'.getD i [] = R.getD i [] := by rw [rows' i hin, if_neg hip, if_neg notin]
    have rpp : R'.getD p [] = dv := by rw [rows' p hp, if_pos rfl]
    obtain ⟨ai, wi, hai, hail, hip2⟩ := cv'.row (i := i) (by omega)
    obtain ⟨ap2, wp2, hap2, hapl2, hpp2⟩ := cv'.row (i := p) (by omega)
    rw [ri] at hip2
    rw [rpp] at hpp2
    have lt : Gv (tCall (spLessTimes K) [] E0 (tCons (tOp (rIxL K) (tFld K (tVar 0) "rows") (tVar 4)) (tCons (tOp (rIxL K) (tFld K (tVar 0) "rows") (tVar 1)) (tCons (tVar 2) tNil)))) [some (.ref c), some (.int p), some (.int s), some hv, some (.int i), none, none] H' (NwL FrV K H' (lessL (R.getD i []) dv s)) := by
      refine gv_call (B := fun vs' _ => vs' = [.ref ai, .ref ap2, .int s]) (fun H5 e5 Q q => ea_cons (cv'.evRow Y rfl (i := i) rfl hai) (ea_cons (cv'.evRow Y rfl (i := p) rfl hap2) (ea_cons (ev_var rfl) ea_nil)) H5 e5 Q fun H6 e6 => q _ H6 e6 rfl) fun vs' H5 e5 hv' Q E q' => ?_
      subst hv'
      refine ⟨_, _, R.getD i [], dv, s, a, rfl, ⟨ai, wi, rfl, sq_of (e5 _ _ hail), L2.Paired.mapP hip2 fun v x r => FrV.ex _ _ _ _ e5 r⟩, ⟨ap2, wp2, rfl, sq_of (e5 _ _ hapl2), L2.Paired.mapP hpp2 fun v x r => FrV.ex _ _ _ _ e5 r⟩, by rw [row i hin]; omega, by rw [row i hin]; omega, hb _ (rmem i hin), hbd, ha, fun z H6 e6 ⟨D6, w6, q1, q2, q3, q4⟩ => q' z H6 e6 ⟨D6, w6, q1, fresh_back e5 q2, q3, q4⟩⟩
    have rl' : rws'.length = n := by rw [← len']; exact Paired.length cv'.rp
    have h00' : ∀ a, H' a = none → H0 a = none := fun a h => fresh_back cv'.ex h
    refine s_setG (j := i) cv'.rl lt (fun v H1 H2 e p => p.mono FrV.ex e) (cv'.evRows Y rfl) (ev_var rfl) (by omega) fun v H5 e5 ⟨D6, w6, ev6, q2, q3, q4⟩ => ?_
    subst ev6
    refine ⟨some (.int i), R'.set i (lessL (R.getD i []) dv s), _, rfl, (cv'.mono e5).setRow i q3 (h00' D6 q2) (fun z => by rw [z, cv'.rl] at q2; cases q2) (fun z => by rw [z, cv'.bl] at q2; cases q2) q4, by rw [List.length_set]; exact len', fun i2 hi2 => ?_, by rw [upd_ne D5r]; exact e5 _ _ hl'⟩
    have tk : is.take (j + 1) = is.take j ++ [i] := by rw [List.take_add_one, hij]; rfl
    by_cases z : i2 = i
    · rw [if_neg (by rw [z]; exact hip), if_pos (by rw [tk, z]; simp), z, List.getD_eq_getElem?_getD, List.getElem?_set_self (by omega)]; rfl
    · rw [List.getD_eq_getElem?_getD, List.getElem?_set_ne (fun q => z q.symm), ← List.getD_eq_getElem?_getD, rows' i2 hi2, tk]
      by_cases z2 : i2 = p
      · rw [if_pos z2, if_pos z2]
      · rw [if_neg z2, if_neg z2]
        by_cases z3 : i2 ∈ is.take j
        · rw [if_pos z3, if_pos (by simp [z3])]
        · rw [if_neg z3, if_neg (by simp [z3, z])]
  · rintro σ' H' ⟨o4, R', rws', rfl, cv', len', rows', hl'⟩
    rw [List.length_map, List.take_length] at rows'
    have er : R' = turnR R p s := by
      have lt : (turnR R p s).length = n := by unfold turnR; rw [List.length_map, List.length_range]; exact rlen
      apply List.ext_getElem?
      intro i
      by_cases hi : i < n
      · rw [some_getD (d := []) (by omega : i < R'.length), some_getD (d := []) (by omega : i < (turnR R p s).length), Sx.turnR_get (by omega), rows' i hi, hq, hdv]
        by_cases z : i = p
        · rw [if_pos z, if_pos z]
        · rw [if_neg z, if_neg z, if_pos (inis i hi z)]
      · rw [List.getElem?_eq_none (by omega), List.getElem?_eq_none (by omega)]
    have rpp : R'.getD p [] = dv := by rw [rows' p hp, if_pos rfl]
    obtain ⟨ap2, wp2, hap2, hapl2, hpp2⟩ := cv'.row (i := p) (by omega)
    rw [rpp] at hpp2
    have lt : Gv (tCall (spLessTimes K) [] E0 (tCons (tFld K (tVar 0) "last") (tCons (tOp (rIxL K) (tFld K (tVar 0) "rows") (tVar 1)) (tCons (tVar 2) tNil)))) [some (.ref c), some (.int p), some (.int s), some hv, o4, none, none] H' (NwL FrV K H' (lessL l dv s)) := by
      refine gv_call (B := fun vs' _ => vs' = [.ref la, .ref ap2, .int s]) (fun H5 e5 Q q => ea_cons (cv'.evLast Y rfl) (ea_cons (cv'.evRow Y rfl (i := p) rfl hap2) (ea_cons (ev_var rfl) ea_nil)) H5 e5 Q fun H6 e6 => q _ H6 e6 rfl) fun vs' H5 e5 hv' Q E q' => ?_
      subst hv'
      refine ⟨_, _, l, dv, s, a, rfl, ⟨la, lws, rfl, sq_of (e5 _ _ cv'.ll), L2.Paired.mapP cv'.lp fun v x r => FrV.ex _ _ _ _ e5 r⟩, ⟨ap2, wp2, rfl, sq_of (e5 _ _ hapl2), L2.Paired.mapP hpp2 fun v x r => FrV.ex _ _ _ _ e5 r⟩, by rw [tb.last]; omega, by rw [tb.last]; omega, hbl, hbd, ha, fun z H6 e6 ⟨D6, w6, q1, q2, q3, q4⟩ => q' z H6 e6 ⟨D6, w6, q1, fresh_back e5 q2, q3, q4⟩⟩
    refine sq (lt.go fun v H5 e5 ⟨D6, w6, ev6, q2, q3, q4⟩ => ?_)
    subst ev6
    have h00' : ∀ a, H' a = none → H0 a = none := fun a h => fresh_back cv'.ex h
    have cv5 := (cv'.mono e5).setLast q3 (h00' D6 q2) (fun z => by rw [z, cv'.rl] at q2; cases q2) (fun z => by rw [z, cv'.bl] at q2; cases q2) q4
    refine ⟨_, rfl, c, C, dx, _, rfl, e5 _ _ cv'.ins, Y.cl, Y.nL, (by show 3 < 1000; decide), ?_⟩
    rw [putF_last]
    have bl : b.length = n := tb.base
    refine s_setL (j := p) cv5.bl (ev_var rfl) (cv5.evBase Y rfl) (ev_var rfl) (by rw [List.length_map]; omega) fun H6 e6 => ?_
    have cv6 := (cv5.mono e6).setBase p s
    rw [er] at cv6
    refine k D6 rws' w6 _ ?_
    show CoV K C H0 _ c (turnR R p s) (lessL l (divL (R.getD p []) ((R.getD p []).getD s 0)) s) (b.set p s) dx r D6 ba rws' w6
    rw [hq, hdv]
    exact cv6
end
end Mx
end
section
set_option Elab.async false
set_option linter.all false
set_option maxRecDepth 100000
set_option maxHeartbeats 4000000
/-! go. -/
namespace Mx
open PySem L2 Evl Fra
open Sx (TF bf Tab lessL divL turnR turnLast enterL)
abbrev sGo : Stmt := inClass (top 29) 4
/-- the call of a method that keeps its promise -/
theorem pe_mn {X : Cx} {C : Addr} {m : Str} {ps : List Str} {k : Nat} {sp : Sp} {o e : Expr} {es : List Expr} {ta : TE} {t : TA} {apos pos : Pos} {pl : Sem Bool} (G : Mn X.prog X.w X.K X.mg X.base C m ps k sp) (c : Cls X.K C) (hr : Room k X.A) (he : PE X o ta) (ha : PA X (e :: es) t)
    (hst : starEach (e :: es) X.env = (false, eval e X.env) :: starEach es X.env := by rfl) (hpl : (backTo pos (starEach es X.env)).any (·.1) = false := by rfl)
    (ht : eval (.Call (.Attribute o m apos) (e :: es) [] pos) X.env = (do
      let ov ← eval o X.env
      standAt apos.atName
      let (f, first) ← holding [ov] (getMethod ov m pl)
      callWith pos f first (backTo pos (starEach (e :: es) X.env)) (backToKw pos (keywordEach [] X.env))) := by rfl) :
    PE X (.Call (.Attribute o m apos) (e :: es) [] pos) (tMeth C m sp [] E0 ta t) := by
  obtain ⟨f, fd, F, b, hm⟩ := G.ok
  exact pe_meth (pl := pl) he c hm F hr b .nil pass0 ha hst hpl ht
theorem pe_mn0 {X : Cx} {C : Addr} {m : Str} {ps : List Str} {k : Nat} {sp : Sp} {o : Expr} {ta : TE} {apos pos : Pos} {pl : Sem Bool} (G : Mn X.prog X.w X.K X.mg X.base C m ps k sp) (c : Cls X.K C) (hr : Room k X.A) (he : PE X o ta)
    (ht : eval (.Call (.Attribute o m apos) [] [] pos) X.env = (do
      let ov ← eval o X.env
      standAt apos.atName
      let (f, first) ← holding [ov] (getMethod ov m pl)
      callWith pos f first (backTo pos (starEach [] X.env)) (backToKw pos (keywordEach [] X.env))) := by rfl) :
    PE X (.Call (.Attribute o m apos) [] [] pos) (tMeth C m sp [] E0 ta tNil) := by
  obtain ⟨f, fd, F, b, hm⟩ := G.ok
  exact pe_meth0 (pl := pl) he c hm F hr b .nil pass0 ht
theorem cf_none (r la ba : Addr) {m : Str} (h1 : (m == ("rows" : Str)) = false) (h2 : (m == ("last" : Str)) = false) (h3 : (m == ("base" : Str)) = false) : (cf r la ba).lookup m = none := by
  unfold cf
  rw [List.lookup_cons, h1]
  show List.lookup m [("last", V.ref la), ("base", V.ref ba)] = none
  rw [List.lookup_cons, h2]
  show List.lookup m [("base", V.ref ba)] = none
  rw [List.lookup_cons, h3]
  rfl
def BitsAll (R : List (List Rat)) (l : List Rat) (a : Nat) : Prop := (∀ row ∈ R, ∀ q ∈ row, Bits q a) ∧ ∀ q ∈ l, Bits q a
def spGo (K : PySem.W.Frag) (C : Addr) : Sp := fun vs H Q _ => ∃ (c : Addr) (H0 : Hp) (R : List (List Rat)) (l : List Rat) (b : List Nat) (dx r la ba : Addr) (rws lws : List V) (n m a : Nat) (M : Nat → Nat → Rat), vs = [.ref c] ∧ CoV K C H0 H c R l b dx r la ba rws lws ∧ Tab n (m + n) R l b ∧ n ≤ 100 ∧ m ≤ 100 ∧
  Sx.First (TF R l) M n m ∧ (∀ i, i < n → bf b i = m + i) ∧ (∀ R' l' b', Sx.Lot (TF R l) n m (TF R' l') (bf b') → Tab n (m + n) R' l' b' → BitsAll R' l' a) ∧ a ≤ 2900 ∧
  ∀ R' l' b' la' rws' lws' H', CoV K C H0 H' c R' l' b' dx r la' ba rws' lws' → Tab n (m + n) R' l' b' → Sx.Lot (TF R l) n m (TF R' l') (bf b') → Sx.Feas n (m + n) (TF R' l') → (∀ j, j < m + n → 0 ≤ TF R' l' n j) → Q .non H'
section
variable {P : Program} {w : World} {K : PySem.W.Frag} {mg : Str → Option Value} {base : Heap} {C : Addr}
theorem ev_entering {H0 H : Hp} {σ : L2.St} {c : Addr} {R : List (List Rat)} {l : List Rat} {b : List Nat} {dx r la ba : Addr} {rws lws : List V} {a : Nat} (cv : CoV K C H0 H c R l b dx r la ba rws lws) (hc : σ[0]? = some (some (.ref c))) (l0 : l ≠ []) (ll : l.length ≤ 1000) (hb : ∀ q ∈ l, Bits q a) (ha : a ≤ 2900) :
    Ev (tMeth C "entering" (spEntering K C) [] E0 (tVar 0) tNil) σ H (optV (enterL l)) := fun H1 e Q q =>
  ⟨_, hc, c, dx, _, rfl, (cv.mono e).ins, cf_none r la ba (by decide +kernel) (by decide +kernel) (by decide +kernel), c, H0, R, l, b, dx, r, la, ba, rws, lws, a, rfl, cv.mono e, l0, ll, hb, by omega, fun H2 e2 => q H2 e2⟩
theorem Out.goes {R : List (List Rat)} {l : List Rat} {b : List Nat} {n m s p : Nat} (tb : Tab n (m + n) R l b) (h : Out R b n (m + n) s p) (e : enterL l = some s) : Sx.Goes n (m + n) (TF R l) (bf b) p s := by
  obtain ⟨h1, h2, h3⟩ := Sx.enterL_some e
  have hl : l.length - 1 = m + n := by rw [tb.last]; rfl
  have top : ∀ i j, i < n → TF R l i j = (R.getD i []).getD j 0 := fun i j hi => by unfold TF; rw [if_pos (by rw [tb.rows]; exact hi)]
  have bot : ∀ j, TF R l n j = l.getD j 0 := fun j => by unfold TF; rw [if_neg (by rw [tb.rows]; omega)]
  refine ⟨by omega, h.lt, ?_, fun j hj => ?_, ?_, fun i hi hp => ?_, fun i hi hp q => ?_⟩
  · rw [bot]; exact h2
  · rw [bot]; exact h3 j hj
  · rw [top p s h.lt]; exact h.pos
  · rw [top i s hi] at hp ⊢
    rw [top p _ h.lt, top p _ h.lt, top i _ hi]
    exact h.least i hi hp
  · rw [top i s hi] at hp q
    rw [top p _ h.lt, top p _ h.lt, top i _ hi] at q
    exact h.tie i hi hp q
theorem turn_row {R : List (List Rat)} {p s : Nat} (hp : p < R.length) : divL (R.getD p []) ((R.getD p []).getD s 0) ∈ turnR R p s := by
  have e := Sx.turnR_get (r := p) (s := s) hp
  rw [if_pos rfl] at e
  rw [← e]
  have lt : p < (turnR R p s).length := by unfold turnR; rw [List.length_map, List.length_range]; exact hp
  have e2 := some_getD (d := []) lt
  exact List.mem_of_getElem? e2
theorem scGo : FnScope ["self", "column"] ["self"] (defScope sGo) := ⟨rfl, rfl, rfl, by decide +kernel, rfl, by decide +kernel, by decide +kernel⟩
theorem ok_go (T : Bt mg) (Y : Ct K C) (F : Dm K C "go" "Corner.go" sGo ["self"]) (GE : Mn P w K mg base C "entering" ["self"] 2 (spEntering K C)) (GL : Mn P w K mg base C "leaving" ["self", "column"] 4 (spLeaving K C))
    (GT : Mn P w K mg base C "turn" ["self", "place", "column"] 5 (spTurn K C)) : Mn P w K mg base C "go" ["self"] 6 (spGo K C) := by
  refine F.fn scGo (fun vs H Q E h => ?_) (fun f cdv A outer s0 H vs Q E hr h => ?_)
  · obtain ⟨_, _, _, _, _, _, _, _, _, _, _, _, _, _, _, rfl, _⟩ := h; rfl
  obtain ⟨c, H0, R, l, b, dx, r, la, ba, rws, lws, n, m, a, M, rfl, cv, tb, hn, hm, fst, hbf, hbits, ha, k⟩ := h
  refine ⟨_, pss_cons (ps_set (i := 1) scGo.nd rfl (.inl rfl) (pe_mn0 GE Y.cl (hr.mono (by decide)) (pv 0)))
    (pss_one (ps_while PassesOwn.never (pt_cmpR op_notN1 (pv 1) pe_non (nomark _))
      (pss_cons (ps_expr (pe_mn GT Y.cl hr (pv 0) (pa_cons (pe_mn GL Y.cl (hr.mono (by decide)) (pv 0) (pa_cons (pv 1) pa_nil)) (pa_cons (pv 1) pa_nil))))
        (pss_one (ps_set (i := 1) scGo.nd rfl (.inl rfl) (pe_mn0 GE Y.cl (hr.mono (by decide)) (pv 0))))))), ?_⟩
  have hl : ∀ R' l' b', Tab n (m + n) R' l' b' → l'.length = m + n + 1 := fun R' l' b' t => t.last
  have ent : ∀ R' l' b' la' rws' lws' H' σ, CoV K C H0 H' c R' l' b' dx r la' ba rws' lws' → Tab n (m + n) R' l' b' → BitsAll R' l' a → σ[0]? = some (some (V.ref c)) → Ev (tMeth C "entering" (spEntering K C) [] E0 (tVar 0) tNil) σ H' (optV (enterL l')) := fun R' l' b' la' rws' lws' H' σ cv' tb' hb' hc =>
    ev_entering cv' hc (fun z => by have := tb'.last; rw [z] at this; cases this) (by rw [tb'.last]; omega) hb'.2 ha
  have lot0 : Sx.Lot (TF R l) n m (TF R l) (bf b) := fst.begin.lot.base hbf
  refine sq (s_asg (v := optV (enterL l)) (ent R l b la rws lws H _ cv tb (hbits R l b lot0 tb) rfl) fun H1 e1 => ?_)
  refine s_while (fun μ σ' H' => ∃ (g : Nat → Sx.St) (j : Nat) (R' : List (List Rat)) (l' : List Rat) (b' : List Nat) (la' : Addr) (rws' lws' : List V), σ' = [some (.ref c), some (optV (enterL l'))] ∧ CoV K C H0 H' c R' l' b' dx r la' ba rws' lws' ∧ Tab n (m + n) R' l' b' ∧
    Sx.Chain (TF R l) n m g j ∧ g j = (TF R' l', bf b') ∧ μ = (m + n) ^ n - j) ((m + n) ^ n) ?_ ?_
  · exact ⟨fun _ => (TF R l, bf b), 0, R, l, b, la, rws, lws, rfl, cv.mono e1, tb, ⟨rfl, hbf, fun i hi => by omega⟩, rfl, rfl⟩
  rintro μ σ' H' ⟨g, j, R', l', b', la', rws', lws', rfl, cv', tb', ch, eg, rfl⟩
  have lot' : Sx.Lot (TF R l) n m (TF R' l') (bf b') := by have := ch.lot fst.begin j (Nat.le_refl j); rw [eg] at this; exact this
  have feas' : Sx.Feas n (m + n) (TF R' l') := by have := ch.feas fst.feas j (Nat.le_refl j); rw [eg] at this; exact this
  have bits' := hbits R' l' b' lot' tb'
  have most := ch.most fst.begin fst.feas
  refine ⟨!decide (optV (enterL l') = .non), et_cmp (ev_var rfl) ev_c (fun H4 _ Q4 q4 => ⟨rfl, q4 H4 (Ex.refl _)⟩), fun yes H2 e2 => ?_, fun no H2 e2 => ?_⟩
  · obtain ⟨s, es⟩ : ∃ s, enterL l' = some s := by
      cases z : enterL l' with
      | none => rw [z] at yes; cases yes
      | some s => exact ⟨s, rfl⟩
    have cv2 := cv'.mono e2
    obtain ⟨h1, h2, h3⟩ := Sx.enterL_some es
    have hls : l'.length - 1 = m + n := by rw [tb'.last]; rfl
    have top : ∀ i j, i < n → TF R' l' i j = (R'.getD i []).getD j 0 := fun i j hi => by unfold TF; rw [if_pos (by rw [tb'.rows]; exact hi)]
    obtain ⟨ip, hip, pos⟩ := fst.some_pos lot' (s := s) (by omega)
    refine ⟨fun σ2 H2 => ∃ m', m' < (m + n) ^ n - j ∧ ∃ (g : Nat → Sx.St) (j : Nat) (R' : List (List Rat)) (l' : List Rat) (b' : List Nat) (la' : Addr) (rws' lws' : List V), σ2 = [some (.ref c), some (optV (enterL l'))] ∧ CoV K C H0 H2 c R' l' b' dx r la' ba rws' lws' ∧ Tab n (m + n) R' l' b' ∧
      Sx.Chain (TF R l) n m g j ∧ g j = (TF R' l', bf b') ∧ m' = (m + n) ^ n - j, fun _ _ h => h, ?_⟩
    have vcol : optV (enterL l') = .int (s : Nat) := by rw [es]; rfl
    rw [vcol]
    refine sq (⟨_, rfl, c, dx, _, rfl, cv2.ins, cf_none r la' ba (by decide +kernel) (by decide +kernel) (by decide +kernel), _, rfl, c, dx, _, rfl, cv2.ins, cf_none r la' ba (by decide +kernel) (by decide +kernel) (by decide +kernel), _, rfl, ?_⟩)
    refine ⟨c, H0, R', l', b', dx, r, la', ba, rws', lws', s, n, m + n, a, rfl, cv2, tb', by omega, by omega, bits'.1, ha, ⟨ip, hip, by rw [← top ip s hip]; exact pos⟩, fun p H3 e3 out => ?_⟩
    have goes := out.goes tb' es
    have hp : p < n := out.lt
    obtain ⟨g2, ch2, eg2⟩ := ch.more (x := (Sx.pv (TF R' l') p s, Sx.pb (bf b') p s)) ⟨p, s, by rw [eg]; exact goes, by rw [eg]⟩
    have tbt : Tab n (m + n) (turnR R' p s) (turnLast R' l' p s) (b'.set p s) := tb'.turn hp s
    have egt : g2 (j + 1) = (TF (turnR R' p s) (turnLast R' l' p s), bf (b'.set p s)) := by
      rw [eg2, tb'.TF_turn hp s, tb'.bf_turn hp s]
    have lott : Sx.Lot (TF R l) n m (TF (turnR R' p s) (turnLast R' l' p s)) (bf (b'.set p s)) := by have := ch2.lot fst.begin (j + 1) (Nat.le_refl _); rw [egt] at this; exact this
    have bitst := hbits _ _ _ lott tbt
    have most2 := ch2.most fst.begin fst.feas
    have cv3 := cv2.mono e3
    refine ⟨_, rfl, ?_⟩
    refine ⟨c, H0, R', l', b', dx, r, la', ba, rws', lws', p, s, n, m + n, a, rfl, cv3, tb', by omega, by omega, hp, by omega, bits'.1, bits'.2, fun q hq => bitst.1 _ (turn_row (by rw [tb'.rows]; exact hp)) q hq, fun z => by have := out.pos; rw [z] at this; exact absurd this (by decide), ha, fun la2 rws2 lws2 H4 cv4 => ?_⟩
    refine s_asg (v := optV (enterL (turnLast R' l' p s))) (ent _ _ _ la2 rws2 lws2 H4 _ cv4 tbt bitst rfl) fun H5 e5 => ?_
    exact ⟨(m + n) ^ n - (j + 1), by omega, g2, j + 1, _, _, _, la2, rws2, lws2, rfl, cv4.mono e5, tbt, ch2, egt, rfl⟩
  · have en : enterL l' = none := by
      cases z : enterL l' with
      | none => rfl
      | some s => rw [z] at no; cases no
    refine k R' l' b' la' rws' lws' H2 (cv'.mono e2) tb' lot' feas' fun j hj => ?_
    have := Sx.enterL_none en j (by rw [tb'.last]; omega)
    unfold TF
    rw [if_neg (by rw [tb'.rows]; omega)]
    exact this
end
end Mx
end
section
set_option Elab.async false
set_option linter.all false
set_option maxRecDepth 100000
set_option maxHeartbeats 4000000
/-! columns. -/
namespace Mx
open PySem L2 Evl Fra
open Sx (TF bf Tab lessL divL turnR turnLast enterL)
abbrev sColumns : Stmt := inClass (top 29) 5
def lastQ (row : List Rat) : Rat := row.getD (row.length - 1) 0
def colQ (R : List (List Rat)) (b : List Nat) (j : Nat) : Rat := ((b.zip R).map fun p => (p.1, lastQ p.2)).foldl (fun q p => if p.1 = j then p.2 else q) 0
/-- a number of the base and a fraction -/
def PaV (K : PySem.W.Frag) (H : Hp) (v : V) (x : Nat × Rat) : Prop := ∃ t w, v = .ref t ∧ SqT K H t [.int (x.1 : Nat), w] ∧ FrV K H w x.2
theorem PaV.mono {K : PySem.W.Frag} {H H' : Hp} {v : V} {x : Nat × Rat} (e : ExT H H') (h : PaV K H v x) : PaV K H' v x := by
  obtain ⟨t, w, ev, h, g⟩ := h
  exact ⟨t, w, ev, e.t h, g.mono e⟩
theorem pav_split {K : PySem.W.Frag} {H : Hp} {vs : List V} {xs : List (Nat × Rat)} (p : Paired (PaV K H) vs xs) : ∃ (ps : List Addr) (kvs : List (L2.Key × V)), vs = ps.map V.ref ∧ Paired (fun p kv => SqT K H p [kV kv.1, kv.2]) ps kvs ∧ Paired (fun (kv : L2.Key × V) (x : Nat × Rat) => kv.1 = Sum.inl (x.1 : Int) ∧ FrV K H kv.2 x.2) kvs xs := by
  induction p with
  | nil => exact ⟨[], [], rfl, .nil, .nil⟩
  | cons r _ ih =>
    obtain ⟨ps, kvs, e, h1, h2⟩ := ih
    obtain ⟨t, w, ev, h, g⟩ := r
    exact ⟨t :: ps, (Sum.inl _, w) :: kvs, by rw [ev, e]; rfl, .cons h h1, .cons ⟨rfl, g⟩ h2⟩
/-- what a look tells -/
def Lk (K : PySem.W.Frag) (H : Hp) (o : Option V) (q : Rat) : Prop := (o = none ∧ q = 0) ∨ ∃ v, o = some v ∧ FrV K H v q
theorem look {K : PySem.W.Frag} {H : Hp} {kvs : List (L2.Key × V)} {xs : List (Nat × Rat)} (p : Paired (fun (kv : L2.Key × V) (x : Nat × Rat) => kv.1 = Sum.inl (x.1 : Int) ∧ FrV K H kv.2 x.2) kvs xs) (j : Nat) :
    ∀ acc q, Lk K H (valV acc (Sum.inl (j : Int))) q → Lk K H (valV (mergeK acc kvs) (Sum.inl (j : Int))) (xs.foldl (fun q p => if p.1 = j then p.2 else q) q) := by
  induction p with
  | nil => intro acc q h; exact h
  | @cons kv x kvs xs r _ ih =>
    intro acc q h
    rw [List.foldl_cons]
    show Lk K H (valV (mergeK (putK acc kv.1 kv.2) kvs) _) _
    refine ih _ _ ?_
    rw [valV_put, r.1]
    by_cases e : x.1 = j
    · rw [if_pos e, if_pos (by rw [e])]
      exact .inr ⟨_, rfl, r.2⟩
    · rw [if_neg e, if_neg (fun z => e (by have := Sum.inl.inj z; omega))]
      exact h
def spColumns (K : PySem.W.Frag) (C : Addr) : Sp := fun vs H Q _ => ∃ (c : Addr) (H0 : Hp) (R : List (List Rat)) (l : List Rat) (b : List Nat) (dx r la ba : Addr) (rws lws : List V) (wide : Nat), vs = [.ref c, .int wide] ∧ CoV K C H0 H c R l b dx r la ba rws lws ∧ b.length = R.length ∧ (∀ row ∈ R, row ≠ []) ∧ R.length ≤ 1000 ∧ wide ≤ 1000 ∧
  ∀ v H', Ex H H' → NwL FrV K H ((List.range wide).map (colQ R b)) v H' → Q v H'
section
variable {P : Program} {w : World} {K : PySem.W.Frag} {mg : Str → Option Value} {base : Heap} {C : Addr}
theorem scColumns : FnScope ["self", "wide", "known", "base", "row", "column"] ["self", "wide"] (defScope sColumns) := ⟨rfl, rfl, rfl, by decide +kernel, rfl, by decide +kernel, by decide +kernel⟩
theorem ok_columns (T : Bt mg) (G : Gc K mg) (Y : Ct K C) (F : Dm K C "columns" "Corner.columns" sColumns ["self", "wide"]) : Mn P w K mg base C "columns" ["self", "wide"] 1 (spColumns K C) := by
  refine F.fn scColumns (fun vs H Q E h => ?_) (fun f cdv A outer s0 H vs Q E hr h => ?_)
  · obtain ⟨_, _, _, _, _, _, _, _, _, _, _, _, rfl, _⟩ := h; rfl
  obtain ⟨c, H0, R, l, b, dx, r, la, ba, rws, lws, wide, rfl, cv, hbl, hne, hR, hw, k⟩ := h
  obtain ⟨aN, gN, fN⟩ := G.nothing
  refine ⟨_, pss_cons (ps_set (i := 2) scColumns.nd rfl (.inr rfl) (pe_callTy (call_dictP rfl) (by rfl) T.dict (by decide +kernel) (pa_cons (pe_lc (own := [("base", 3), ("row", 4)]) (g := gTup K 2 (gCons (gName 3) (gCons (gName 4) gNil))) (by rfl) scColumns.nd (RZ.pi_zipA (by rfl) T.zip (pa_cons (pe_fld (pv 0) rfl) (pa_cons (pe_fld (pv 0) rfl) pa_nil))) (blkOk_by (own := [("base", 3), ("row", 4)]) (N := ["self", "wide", "known", "base", "row", "column"]) (sc := defScope sColumns) (by decide +kernel))
      (fun _ _ _ _ _ => pg_tup (by rfl) (pgs_cons (pg_name (i := 3) scColumns.nd rfl (Or.inl rfl)) (pgs_cons (pg_name (i := 4) scColumns.nd rfl (Or.inl rfl)) pgs_nil))) (fun _ _ _ _ _ => pts_nil) (fun _ _ _ _ _ => pe_tup (pa_cons (pv 3) (pa_cons (pe_ix (r := rIxL K) ix_list (pv 4) (pe_un un_neg pe_int) (fun _ _ => rfl)) pa_nil)))) pa_nil)))
    (pss_one (ps_ret (pe_lc (own := [("column", 5)]) (g := gName 5) (by rfl) scColumns.nd (pi_range1 (by rfl) T.range (pa_cons (pv 1) pa_nil)) (blkOk_by (own := [("column", 5)]) (N := ["self", "wide", "known", "base", "row", "column"]) (sc := defScope sColumns) (by decide +kernel))
      (fun _ _ _ _ _ => pg_name (i := 5) scColumns.nd rfl (Or.inl rfl)) (fun _ _ _ _ _ => pts_nil) (fun _ _ _ _ _ => pe_dget2 (Nat.lt_of_le_of_lt (Nat.add_le_add_left (by decide : 1 ≤ 64) _) hr.units) (pv 2) (pv 5) (pe_glob (v := .ref aN) rfl gN rfl) ⟨by rfl, by rfl, by rfl, by rfl⟩)))), ?_⟩
  have hp : Paired (NtV K H) (b.map fun i => V.int (i : Nat)) b := nt_paired b
  have hmin : min b.length R.length = (b.zip R).length := by rw [List.length_zip]
  have lc := gv_lc (R := PaV) (K := K) (g := gTup K 2 (gCons (gName 3) (gCons (gName 4) gNil))) (te := tTup (tCons (tVar 3) (tCons (tOp (rIxL K) (tVar 4) (tUn (rU fun i => .int (-i)) (tC (.int 1)))) tNil))) (vs := [3, 4]) (σ := [some (.ref c), some (.int wide), none, none, none, none]) (H := H)
    (gi_zipL (K := K) (cv.evBase Y rfl) (cv.evRows Y rfl) (sq_of cv.bl) (sq_of cv.rl) hp cv.rp (fun _ _ _ _ _ h => h) RwV.ex).gn (by omega) (fun i => ((b.zip R).map fun p => (p.1, lastQ p.2)).getD i (0, 0)) (fun _ _ _ _ e r => r.mono e)
    (fun i x H2 Q1 hi e2 ⟨t, w1, z1, x1, y1, hx1, hT, hxi, hyi, fx, ⟨ra, rs, ez, _, _, _, hra, hrp⟩⟩ kk => by
      subst hx1 ez
      cases fx
      refine ⟨t, _, rfl, hT, rfl, _, _, rfl, _, _, rfl, rfl, ?_⟩
      refine kk [some (.ref c), some (.int wide), none, some (.int (x1 : Nat)), some (.ref ra), none] H2 (Ex.refl _) rfl ?_
      have ey : ((b.zip R).map fun p => (p.1, lastQ p.2)).getD i (0, 0) = (x1, lastQ y1) := by
        refine getD_of ?_
        rw [List.getElem?_map, List.getElem?_zip_eq_some (z := (x1, y1)) |>.mpr ⟨hxi, hyi⟩]; rfl
      rw [ey]
      have y0 : y1 ≠ [] := hne _ (List.mem_of_getElem? hyi)
      have yl : 0 < y1.length := List.length_pos_iff.mpr y0
      have rl : rs.length = y1.length := Paired.length hrp
      obtain ⟨v, hv, fv⟩ := paired_at hrp (some_getD (d := 0) (by omega : y1.length - 1 < y1.length))
      rw [← rl] at hv
      have tup := gv_tup (ga_cons (gv_var1 (σ := [some (.ref c), some (.int wide), none, some (.int (x1 : Nat)), some (.ref ra), none]) (H := H2) (i := 3) (v := .int (x1 : Nat)) rfl) (ga_cons (Ev.gv (ev_op (ev_var (i := 4) rfl) (ev_un ev_c ru_neg) (rv_ixL (K := K) (sq_of hra) (atI_m1 hv)))) ga_nil (fun _ _ _ _ h => h)) (fun _ _ _ _ h => h)) (fun vs' H' ⟨v, r, e1, _, v2, r2, e2, _, e5⟩ => by rw [e1, e2, e5]; show 2 ≤ 100000; decide)
      exact tup.imp fun v' H' e' ⟨p, vs', H6, ev, hp0, hp1, e6, v1, r1, ev1, f1, v2, r2, ev2, ev3, ev4⟩ => by
        subst ev ev1 ev2 ev3 ev4 f1
        exact ⟨p, _, rfl, st_of hp1, fv.mono (ExT.of e')⟩)
  rw [hmin, ← List.length_map (as := b.zip R) (fun p => (p.1, lastQ p.2)), map_range _ (0, 0) (fun x => x), List.map_id'] at lc
  have dk : Gv (tCB (fun xs H Q => ∃ (a : Addr) (ps : List Addr) (kvs : List (L2.Key × V)), xs = [.ref a] ∧ SqL K H a (ps.map V.ref) ∧ Paired (fun p kv => SqT K H p [kV kv.1, kv.2]) ps kvs ∧ ∀ p, H p = none → Q (.ref p) (upd H p (.dK (mergeK [] kvs)))) (tCons (tLc (RZ.iZipA K (tCons (tFld K (tVar 0) "base") (tCons (tFld K (tVar 0) "rows") tNil))) (gTup K 2 (gCons (gName 3) (gCons (gName 4) gNil))) tYes (tTup (tCons (tVar 3) (tCons (tOp (rIxL K) (tVar 4) (tUn (rU fun i => .int (-i)) (tC (.int 1)))) tNil))) [3, 4]) tNil)) [some (.ref c), some (.int wide), none, none, none, none] H
      (fun v H' => ∃ p kvs, v = .ref p ∧ H' p = some (.dK kvs) ∧ ∀ j : Nat, Lk K H' (valV kvs (Sum.inl (j : Int))) (colQ R b j)) := by
    refine gv_cb (ga_cons lc ga_nil (fun v H1 H2 e ⟨D2, vs, ev, h1, h2, h3⟩ => ⟨D2, vs, ev, h1, e _ _ h2, L2.Paired.mapP h3 fun v x r => r.mono (ExT.of e)⟩)) fun vs' H2 e2 ⟨v, r', ev, ⟨D2, vs2, ev2, h1, h2, h3⟩, er⟩ Q1 k1 => ?_
    subst ev er ev2
    obtain ⟨ps, kvs, eps, q1, q2⟩ := pav_split h3
    subst eps
    refine ⟨D2, ps, kvs, rfl, sq_of h2, q1, fun p hp => k1 _ _ (Ex.new hp) ⟨p, _, rfl, upd_same, fun j => ?_⟩⟩
    rcases look q2 j [] 0 (.inl ⟨rfl, rfl⟩) with ⟨h1, h2⟩ | ⟨v, h1, h2⟩
    · exact .inl ⟨h1, h2⟩
    · exact .inr ⟨v, h1, h2.mono (ExT.of (Ex.new hp))⟩
  refine sq (dk.go fun v H1 e1 ⟨p, kvs, ev, hpd, hlk⟩ => ?_)
  subst ev
  have lc2 := gv_lc (R := FrV) (K := K) (g := gName 5) (te := tDGet2 (tVar 2) (tVar 5) (tC (.ref aN))) (vs := [5]) (σ := [some (.ref c), some (.int wide), some (.ref p), none, none, none]) (H := H1) (n := wide)
    (wi := iRng1 (tCons (tVar 1) tNil)) (B := fun i _ v => v = .int (0 + (i : Int))) (gn_range (ea_cons (ev_var rfl) ea_nil) (by omega)) (by omega) (fun i => colQ R b i) (fun _ _ _ _ e r => r.mono e)
    (fun i x H4 Q1 hi e2 hx kk => by
      subst hx
      refine kk [some (.ref c), some (.int wide), some (.ref p), none, none, some (.int (0 + (i : Int)))] H4 (Ex.refl _) rfl ?_
      intro H5 e5 Q5 q5
      have hp5 : H5 p = some (.dK kvs) := e5 _ _ (e2 _ _ hpd)
      refine ⟨_, rfl, p, rfl, .inl ⟨kvs, .inl hp5⟩, _, rfl, ?_⟩
      have g : DGet H5 p (.int (0 + (i : Int))) (valV kvs (Sum.inl (i : Int))) := .inl ⟨kvs, Sum.inl (i : Int), .inl hp5, by rw [Int.zero_add]; rfl, rfl⟩
      refine ⟨_, g, ?_⟩
      rcases hlk i with ⟨h1, h2⟩ | ⟨v, h1, h2⟩
      · rw [h1]; exact q5 _ H5 (Ex.refl _) (show FrV K H5 _ (colQ R b i) by rw [h2]; exact fN H5)
      · rw [h1]; exact q5 _ H5 (Ex.refl _) (h2.mono (ExT.of (e2.trans e5))))
  have fin := lc2.go (Q := Q) fun v H2 e2 ⟨D, vs, ev, hD, hDl, hp⟩ => k v H2 (e1.trans e2) ⟨D, vs, ev, fresh_back e1 hD, hDl, hp⟩
  exact fin
end
end Mx
end
section
set_option Elab.async false
set_option linter.all false
set_option maxRecDepth 100000
set_option maxHeartbeats 4000000
/-! enumerate over a tuple. -/
namespace Mx
open PySem PySem.Spec PyProof.Rows L2
open PySem.Sem (wp)
open AutoSeq1 (wpAny_loadPart')
theorem meets_enumerate_newT (l : Addr) (items : Array Value) (n : Nat) (dct : Option Addr) (sl : Array (Option Value)) :
    Meets (Builtin.«enumerate.__new__» ⟨[.type "enumerate", .ref l], []⟩) (fun _ R s => s.heap.get? l = some { cls := .type "tuple", dict := dct, data := .seq items n, slots := sl } ∧
      R (.ok (.ret (.ref (s.heap.push { cls := .type "tuple_iterator", data := .fields #[.ref l, .int 0 0] }).objs.size)))
        { s with heap := (s.heap.push { cls := .type "tuple_iterator", data := .fields #[.ref l, .int 0 0] }).push { cls := .type "enumerate", data := .fields #[.none, .bool false, .ref s.heap.objs.size, rawInt 0, .none, .none] } }) :=
  .of_wp fun prog w A R s h => by
    obtain ⟨hp, g, d, tk, os⟩ := s; obtain ⟨hl, h⟩ := h
    have hsub := sub_enumerate
    have hL : Heap.IsTuple (Shared.heap ⟨hp, g, d, tk, os⟩) l items := ⟨_, hl, rfl, n, rfl⟩
    wp_walk using wpAny_loadPart' hl
    refine wpAny_stack_any fun st => wpAny_pure ?_
    split
    · rename_i c _ _ _ _ _
      cases (c == Value.type "enumerate")
      · wp_walk using wpAny_loadPart' hl, wpAny_pyIter_tuple hL
        exact ⟨_, rfl, h⟩
      · wp_walk using wpAny_loadPart' hl, wpAny_pyIter_tuple hL
        exact ⟨_, rfl, h⟩
    · wp_walk using wpAny_loadPart' hl, wpAny_pyIter_tuple hL
      exact ⟨_, rfl, h⟩
section
variable {prog : Program} {w : World} {A : Around} {E : Value → Shared → Prop} {s : Shared}
theorem call_enumerate_tuple {l : Addr} {items : Array Value} {Q : Value → Shared → Prop} (hL : s.heap.IsTuple l items)
    (h : ∀ h', IsEnum h' (s.heap.objs.size + 1) s.heap.objs.size 0 .none → h'.IsTupleIter s.heap.objs.size l 0 → h'.objs.size = s.heap.objs.size + 2 →
      (∀ b o, s.heap.get? b = some o → h'.get? b = some o) → Q (.ref (s.heap.objs.size + 1)) { s with heap := h' }) :
    wpAny (model prog w) A (call (.type "enumerate") [.ref l]) Q E s := by
  obtain ⟨⟨c, dct, dt, sl⟩, hl, hc, n, hd⟩ := hL
  replace hc : c = .type "tuple" := hc
  replace hd : dt = .seq items n := hd
  subst hc hd
  refine callType_new F.called_enumerate (by decide) (F.typeCall_enumerate_1 _) (F.newCall_enumerate_1 _) (fun obj => F.args_object_init_2 obj _) F.entry_enumerate_new
    (meets_enumerate_newT l items n dct sl) ⟨hl, ?_⟩
  have hz : (s.heap.push { cls := .type "tuple_iterator", data := .fields #[.ref l, .int 0 0] }).objs.size = s.heap.objs.size + 1 := Heap.size_push ..
  show _ ∧ _
  rw [hz]
  have he : IsEnum ((s.heap.push { cls := .type "tuple_iterator", data := .fields #[.ref l, .int 0 0] }).push
      { cls := .type "enumerate", data := .fields #[.none, .bool false, .ref s.heap.objs.size, rawInt 0, .none, .none] }) (s.heap.objs.size + 1) s.heap.objs.size 0 .none := by
    have := Heap.get?_push_size (s.heap.push { cls := .type "tuple_iterator", data := .fields #[.ref l, .int 0 0] })
      (o := { cls := .type "enumerate", data := .fields #[.none, .bool false, .ref s.heap.objs.size, rawInt 0, .none, .none] }) rfl
    rw [hz] at this; exact this
  refine ⟨⟨_, he, rfl⟩, h _ he ⟨_, Heap.get?_push_of_some _ (Heap.get?_push_size _ rfl), rfl, rfl⟩ (by rw [Heap.size_push, hz]) fun b o x => Heap.get?_push_of_some _ (Heap.get?_push_of_some _ x)⟩
theorem enum_tuple_end {e it l : Addr} {i : Nat} {items : Array Value} {old : Value} {Q : Option Value → Shared → Prop} (hh : A.handled = none)
    (he : IsEnum s.heap e it i old) (hit : s.heap.IsTupleIter it l i) (hl : s.heap.IsTuple l items) (hx : items[i]? = none)
    (hQ : ∀ h', Heap.ExtBut it s.heap h' → Q none { s with heap := h' }) : wpAny (model prog w) A (pyNext (.ref e)) Q E s := by
  have hT : s.TypeIs (.ref e) "enumerate" := ⟨_, he, rfl⟩
  unfold pyNext
  refine wpAny_bind (wpAny_attempt (wpAny_callSpecial?_slot (name := Str.ofString "__next__") hT F.slot_enumerate_next
    (wpAny_call_entry F.slot_enumerate_next hT F.entry_enumerate_next ?_ (F.args_enumerate_next_1 _))))
  show wpAny _ _ (field (.ref e) 2 >>= _) _ _ _
  refine wpAny_bind (wpAny_field he rfl (x := .ref it) rfl ?_)
  refine wpAny_bind (wpAny_nextOf_tuple_end hh hit hl hx fun h' x he' hx' => ?_)
  obtain ⟨o, ho, hc⟩ := hx'
  refine wpAny_bind (wpAny_isInstance (T := "StopIteration") (b := true) ⟨o, ho, hc⟩ isSubtype_stop ?_)
  exact wpAny_pure (hQ _ he')
end
/-- the tuple at a, each item in a new pair -/
def IteT (K : PySem.W.Frag) (a : Addr) : It :=
  ⟨fun i H => ∃ (xs : List V) (x : V), SqT K H a xs ∧ xs[i]? = some x, fun i H v H' => ∃ T x, v = .ref T ∧ H T = none ∧ H' = upd H T (.tup [.int (i : Nat), x]) ∧ ∀ xs, SqT K H a xs → xs[i]? = some x, fun i H => ∃ xs : List V, SqT K H a xs ∧ xs.length ≤ i⟩
theorem turn_enumT {P : Program} {w : World} {K : PySem.W.Frag} {elts : List Expr} {kk : Nat} {tpos : Pos} (a e it : Addr) :
    Turn P w K (.Tuple elts kk tpos) (IteT K a) [e, it] e (fun i h => (∃ old, IsEnum h e it ((i : Nat) : Int) old) ∧ h.IsTupleIter it a i ∧ e ≠ it ∧ a ≠ it ∧ e ≠ a) where
  mem := by simp
  obj := fun i h st b hb => by
    obtain ⟨⟨old, he⟩, ⟨o, ho, hc, hd⟩, _⟩ := st
    have e' : b = e ∨ b = it := by simpa using hb
    rcases e' with z | z
    · rw [z]; exact ⟨_, he, fun v q => nomatch q⟩
    · rw [z]; exact ⟨o, ho, fun v q => by rw [hd] at q; cases q⟩
  keep := fun i h h' st k => let ⟨⟨old, he⟩, hi, hne⟩ := st; ⟨⟨old, k e (by simp) _ he⟩, hi.at fun o q => k it (by simp) o q, hne⟩
  item := by
    intro X hP hw hK hc i pins s σ H E I hf st hg
    subst hP hw hK
    obtain ⟨⟨old, he⟩, hit, hne, hne2, hne3⟩ := st
    obtain ⟨xs, x, hq, hx⟩ := hg
    obtain ⟨its, rv, p, hz⟩ := I.tuple hq
    obtain ⟨u, hu, ru⟩ := rv.get hx
    have hel : e < s.heap.objs.size := Heap.lt_size he
    have hil : it < s.heap.objs.size := by obtain ⟨_, q, _⟩ := hit; exact Heap.lt_size q
    have hlt : i < its.toArray.size := by have := (List.getElem?_eq_some_iff.mp hu).1; simpa using this
    refine wpAny_pyNext_enum_itemD (Draws.tuple (prog := X.prog) (w := X.w) (A := X.A.in1) (I.ok.hd hc) it a hne2 its.toArray) he ⟨hit, p⟩ hlt hne (by simp [hne, hne3]) fun x' h' tk hPx ho hit' hT hsz hk => ?_
    have ex : x' = u := by
      have h1 : its.toArray[i]? = some x' := hPx
      rw [show its.toArray[i]? = its[i]? by simp, hu] at h1
      exact (Option.some.inj h1).symm
    subst ex
    refine ⟨_, rfl, wpAny_letOwnedTupleGo_enum (s := { s with heap := h', toks := tk + 1 }) ho fun h'' he' sb => ?_⟩
    have hT2 : h''.get? s.heap.objs.size = some { cls := .type "tuple", data := .seq #[.int i tk, x'] } := (sb.2 _ (Nat.ne_of_gt hel)).trans hT
    have new : ObjOk X.prog X.w (upd H s.heap.objs.size (.tup [.int (i : Nat), x])) h'' s.heap.objs.size (.tup [.int (i : Nat), x]) :=
      ⟨by show 2 ≤ sizeLine; decide, [.int i tk, x'], .cons ⟨_, rfl⟩ (.cons ru .nil), ⟨_, hT2, rfl, _, rfl⟩⟩
    have I1 : Inv X pins σ (upd H s.heap.objs.size (.tup [.int (i : Nat), x])) { s with heap := h'', toks := tk + 1 } :=
      I.turnedNew (ch := [e, it]) (fun b ob hb q => (sb.2 b (fun z => hb (by simp [z]))).trans (hk b ob (fun z => hb (by simp [z])) (fun z => hb (by simp [z])) q)) hf (Nat.le_refl _) new
    refine ⟨.ref s.heap.objs.size, _, I1, rfl, ⟨_, x, rfl, I.hok.fresh (Nat.le_refl _), rfl, fun ys hy => by rw [I.tuple_inj hy hq]; exact hx⟩, ⟨⟨x', ?_⟩, hit'.1.at fun o q => (sb.2 it (Ne.symm hne)).trans q, hne, hne2, hne3⟩, fun b hb => ?_⟩
    · have e1 : ((i + 1 : Nat) : Int) = (i : Int) + 1 := by omega
      rw [e1]; exact he'
    · have hb' : b < s.heap.objs.size := by
        have e' : b = e ∨ b = it := by simpa using hb
        rcases e' with z | z
        · rw [z]; exact hel
        · rw [z]; exact hil
      rw [upd_ne (Nat.ne_of_lt hb')]
      exact (hf b hb).1
  done := by
    intro X hP hw hK hc i pins s σ H E I hf st hg
    subst hP hw hK
    obtain ⟨⟨old, he⟩, hit, hne, hne2, hne3⟩ := st
    obtain ⟨xs, hq, hx⟩ := hg
    obtain ⟨its, rv, p, hz⟩ := I.tuple hq
    obtain ⟨f0, f1, f2, f3, f4, f5⟩ := hf it (by simp)
    have hl := rv.length
    exact enum_tuple_end (I.ok.hd hc) he hit (show s.heap.IsTuple a its.toArray from p) (by simp; omega) fun h' eb => ⟨rfl, I.turned (t' := s.toks) (fun b o hb q => eb b o hb q) f0 f1 f3 f4 f5⟩
  self := fun A i s Q E st h => let ⟨⟨_, he⟩, _⟩ := st; wpAny_pyIter_enum he h
def iEnumT (K : PySem.W.Frag) (ta : TA) : TI := fun σ H R => ta σ H fun vs H1 => ∃ a xs, vs = [.ref a] ∧ SqT K H1 a xs ∧ R (IteT K a) H1
theorem pi_enumT {X : Cx} {e : Expr} {ta : TA} {p pos tpos : Pos} {elts : List Expr} {kk : Nat} (hg : Gl X "enumerate") (hm : X.mg "enumerate" = none) (ha : PA X [e] ta) (hs : starEach [e] X.env = [(false, eval e X.env)] := by rfl) :
    PI X (.Tuple elts kk tpos) (.Call (.Name "enumerate" p) [e] [] pos) (iEnumT X.K ta) := by
  refine ⟨fun pins s σ H R I h => ?_⟩
  refine Call_ (ld_blt I hg hm boot_enumerate (PyProof.Rows.callWith_type1 (thn (ha.run pos pins s σ H _ I h) fun us s1 ⟨vs, H1, I1, r1, q1⟩ => ?_) hs rfl))
  obtain ⟨a, xs, ex, hq, q⟩ := q1
  subst ex
  cases r1 with
  | cons r rr =>
    cases rr
    cases r
    obtain ⟨its, rv, p', hz⟩ := I1.tuple hq
    have hal : a < s1.heap.objs.size := by obtain ⟨_, q, _⟩ := id p'; exact Heap.lt_size q
    refine call_enumerate_tuple (show s1.heap.IsTuple a its.toArray from p') fun h' he hit hsz hk => wpAny_pyIter_enum he ?_
    have I2 : Inv X pins σ H1 { s1 with heap := h' } := I1.kept (t' := s1.toks) hk
    refine ⟨s1.heap.objs.size + 1, [s1.heap.objs.size + 1, s1.heap.objs.size], _, _, H1, rfl, I2, turn_enumT a (s1.heap.objs.size + 1) s1.heap.objs.size, ⟨⟨.none, he⟩, hit, Nat.succ_ne_self _, Nat.ne_of_lt hal, fun z => absurd hal (by rw [← z]; exact Nat.not_lt.mpr (Nat.le_succ _))⟩, fun b hb => ?_, q⟩
    have e' : b = s1.heap.objs.size + 1 ∨ b = s1.heap.objs.size := by simpa using hb
    have hle : s1.heap.objs.size ≤ b := by
      rcases e' with z | z
      · rw [z]; exact Nat.le_add_right _ _
      · rw [z]; exact Nat.le_refl _
    exact I1.fpOk hle (I1.hok.fresh hle)
end Mx
end
section
set_option Elab.async false
set_option linter.all false
set_option maxRecDepth 100000
set_option maxHeartbeats 4000000
/-! __init__. -/
namespace Mx
open PySem L2 Evl Fra
open Sx (TF bf Tab lessL divL turnR turnLast enterL rowOf rows0 last0 base0 Mat ent)
abbrev sInit : Stmt := inClass (top 29) 0
/-- a list as it stands -/
def LtV {α : Type} (R : PySem.W.Frag → Hp → V → α → Prop) (K : PySem.W.Frag) (H : Hp) (v : V) (xs : List α) : Prop := ∃ D vs, v = .ref D ∧ H D = some (.lst vs) ∧ Paired (R K H) vs xs
section
variable {K : PySem.W.Frag} {σ : L2.St} {H : Hp} {D : Ends} {t ta tb te : TE} {α : Type} {R : PySem.W.Frag → Hp → V → α → Prop} {xs ys : List α}
theorem NwL.lt {H' : Hp} {v : V} (h : NwL R K H xs v H') : LtV R K H' v xs := by
  obtain ⟨D, vs, e, _, h, p⟩ := h
  exact ⟨D, vs, e, h, p⟩
theorem LtV.ls {v : V} (h : LtV R K H v xs) : LsV R K H v xs := by
  obtain ⟨D, vs, e, h, p⟩ := h
  exact ⟨D, vs, e, sq_of h, p⟩
theorem LtV.mono {v : V} {H' : Hp} (mR : ∀ H1 H2 v x, Ex H1 H2 → R K H1 v x → R K H2 v x) (e : Ex H H') (h : LtV R K H v xs) : LtV R K H' v xs := by
  obtain ⟨D, vs, ev, h, p⟩ := h
  exact ⟨D, vs, ev, e _ _ h, L2.Paired.mapP p fun v x r => mR _ _ _ _ e r⟩
theorem gv_cat (ha : Gv ta σ H (fun v H' => LtV R K H' v xs)) (hb : Gv tb σ H (fun v H' => LtV R K H' v ys)) (hz : xs.length + ys.length ≤ 100000) (mR : ∀ H1 H2 v x, Ex H1 H2 → R K H1 v x → R K H2 v x) : Gv (tOp rCat ta tb) σ H (NwL R K H (xs ++ ys)) :=
  gv_op ha hb (fun v H1 H2 e h => h.mono mR e) fun x y H1 e ⟨a, vs, ea, hla, pa⟩ ⟨b, ws, eb, hlb, pb⟩ Q q =>
    ⟨a, b, vs, ws, ea, eb, hla, hlb, by rw [Paired.length pa, Paired.length pb]; exact sz_of hz, fun p hp => q _ _ (Ex.new hp) ⟨p, _, rfl, fresh_back e hp, upd_same, paired_append (L2.Paired.mapP pa fun v x r => mR _ _ _ _ (Ex.new hp) r) (L2.Paired.mapP pb fun v x r => mR _ _ _ _ (Ex.new hp) r)⟩⟩
theorem paired_flat {β γ : Type} {F : β → γ → Prop} {l : List β} {m : List γ} (p : Paired F l m) (k : Nat) : Paired F (List.replicate k l).flatten (List.replicate k m).flatten := by
  induction k with
  | zero => exact .nil
  | succ k ih => rw [List.replicate_succ, List.replicate_succ, List.flatten_cons, List.flatten_cons]; exact paired_append p ih
theorem gv_rep {k : Nat} (ha : Gv ta σ H (fun v H' => LtV R K H' v xs)) (hb : ∀ H', Ex H H' → Ev tb σ H' (.int (k : Nat))) (hz : xs.length * k ≤ 100000) (hk : k ≤ 100000) (mR : ∀ H1 H2 v x, Ex H1 H2 → R K H1 v x → R K H2 v x) : Gv (tOp rRep ta tb) σ H (NwL R K H (List.replicate k xs).flatten) := fun H1 e Q q =>
  ha H1 e _ fun v H2 e2 ⟨a, vs, ea, hla, pa⟩ => hb H2 (e.trans e2) H2 (Ex.refl _) _ fun H3 e3 =>
    ⟨a, k, vs, ea, rfl, e3 _ _ hla, by omega, by omega, by rw [Int.toNat_natCast, Paired.length pa]; exact sz_of hz, fun p hp => by
      rw [Int.toNat_natCast]
      exact q _ _ ((e2.trans e3).trans (Ex.new hp)) ⟨p, _, rfl, fresh_back ((e.trans e2).trans e3) hp, upd_same, paired_flat (L2.Paired.mapP pa fun v x r => mR _ _ _ _ (e3.trans (Ex.new hp)) r) k⟩⟩
theorem gv_lst1 {x : α} (h : Gv te σ H (fun v H' => R K H' v x)) (mR : ∀ H1 H2 v x, Ex H1 H2 → R K H1 v x → R K H2 v x) : Gv (tLst (tCons te tNil)) σ H (NwL R K H [x]) := fun H1 e Q q =>
  h H1 e _ fun v H2 e2 r => ⟨by show 1 ≤ sizeLine; decide, fun p hp => q _ _ (e2.trans (Ex.new hp)) ⟨p, _, rfl, fresh_back (e.trans e2) hp, upd_same, .cons (mR _ _ _ _ (Ex.new hp) r) .nil⟩⟩
theorem flat_one (k : Nat) (x : α) : (List.replicate k [x]).flatten = List.replicate k x := by
  induction k with
  | zero => rfl
  | succ k ih => rw [List.replicate_succ, List.flatten_cons, ih]; rfl
theorem wk_enumT {a : Addr} {vs : List V} (hl : SqT K H a vs) (p : Paired (R K H) vs xs) (mR : ∀ H1 H2 v x, Ex H1 H2 → R K H1 v x → R K H2 v x) :
    Wk (IteT K a) xs.length H (fun i H' v => ∃ T w x, v = .ref T ∧ SqT K H' T [.int i, w] ∧ xs[i]? = some x ∧ R K H' w x) := by
  have len : vs.length = xs.length := Paired.length p
  refine ⟨fun H' => SqT K H' a vs, ?_, fun H3 e => ex_t e hl⟩
  rw [← len]
  have base : Walk (IteT K a) vs.length (fun H => SqT K H a vs) (YPair (fun i => some (.int (i : Nat))) (fun i => vs[i]?)) := by
    refine ⟨fun i _ hi q => ⟨vs, vs[i], q, by simp [hi]⟩, fun _ q => ⟨vs, q, Nat.le_refl _⟩, fun i H v H' hi q y => ?_⟩
    obtain ⟨T, x, h1, h2, h3, h4⟩ := y
    exact ⟨T, _, x, h1, h2, h3, rfl, h4 vs q⟩
  refine base.mono (fun _ q => q) fun i H1 x H2 hi _ y => ?_
  obtain ⟨e12, T, z, w, rfl, hT, hz, hw⟩ := ypair y
  refine ⟨e12, fun e => ?_⟩
  cases hz
  obtain ⟨u, hu, r⟩ := wk_list.pget p hw
  exact ⟨T, w, u, rfl, st_of hT, hu, mR _ _ _ _ (e.trans e12) r⟩
theorem gi_enumT {a : Addr} {vs : List V} (ht : Ev t σ H (.ref a)) (hl : SqT K H a vs) (p : Paired (R K H) vs xs) (mR : ∀ H1 H2 v x, Ex H1 H2 → R K H1 v x → R K H2 v x) :
    Gi (iEnumT K (tCons t tNil)) σ H xs.length (fun i H' v => ∃ T w x, v = .ref T ∧ SqT K H' T [.int i, w] ∧ xs[i]? = some x ∧ R K H' w x) := fun H1 e1 R' k => ht H1 e1 _ fun H2 e2 => ⟨a, vs, rfl, ex_t (e1.trans e2) hl, k _ H2 e2 (wk_enumT hl p mR)⟩
theorem s_fldG {C c dx : Addr} {fs : List (Str × V)} {f : Str} {P : V → Hp → Prop} (h : Gv te σ H P) (mP : ∀ v H1 H2, Ex H1 H2 → P v H1 → P v H2) (ho : Ev ta σ H (.ref c)) (hi : H c = some (.ins C dx fs)) (cl : Cls K C) (nf : NoAttr K C f) (hl : fs.length < 1000) (k : ∀ v H1, Ex H H1 → P v H1 → D.nx σ (upd H1 c (.ins C dx (putF f v fs)))) :
    sFld K ta te f D σ H := h H (Ex.refl H) _ fun v H1 e1 p => ho H1 e1 _ fun H2 e2 => ⟨c, C, dx, fs, rfl, (e1.trans e2) _ _ hi, cl, nf, hl, k v H2 (e1.trans e2) (mP _ _ _ e2 p)⟩
theorem et_eqI {i j : Int} (ha : Ev ta σ H (.int i)) (hb : Ev tb σ H (.int j)) : EvT (tTest (tOp rEq ta tb)) σ H (decide (i = j)) := by
  have := et_cmp ha hb (rv_eq (by rfl))
  have e : decide (V.int i = V.int j) = decide (i = j) := by
    by_cases q : i = j
    · rw [q]; simp
    · rw [decide_eq_false q, decide_eq_false (fun z => q (V.int.inj z))]
  rw [e] at this
  exact this
/-- a row list that is none of one -/
def RwW (H0 : Hp) (r : Addr) (K : PySem.W.Frag) (H : Hp) (v : V) (row : List Rat) : Prop := ∃ a ws, v = .ref a ∧ a ≠ r ∧ H0 a = none ∧ H a = some (.lst ws) ∧ Paired (FrV K H) ws row
theorem putF_last2 (r la : Addr) : putF ("last" : Str) (.ref la) ([("rows", V.ref r)] : List (Str × V)) = ([("rows", V.ref r), ("last", V.ref la)] : List (Str × V)) := by
  have h1 : ¬ (("rows" : Str) = "last") := by decide +kernel
  show (if ("rows" : Str) = "last" then _ else _) = _
  rw [if_neg h1]; rfl
theorem putF_base (r la ba : Addr) : putF ("base" : Str) (.ref ba) ([("rows", V.ref r), ("last", V.ref la)] : List (Str × V)) = cf r la ba := by
  have h1 : ¬ (("rows" : Str) = "base") := by decide +kernel
  have h2 : ¬ (("last" : Str) = "base") := by decide +kernel
  show (if ("rows" : Str) = "base" then _ else _) = _
  rw [if_neg h1]
  show _ :: (if ("last" : Str) = "base" then _ else _) = _
  rw [if_neg h2]; rfl
end
def spInit (K : PySem.W.Frag) (C : Addr) : Sp := fun vs H Q _ => ∃ (c dx : Addr) (m0 : V) (H0 : Hp) (M : List (List Rat)) (n m a : Nat), vs = [.ref c, m0] ∧ H c = some (.ins C dx []) ∧ H0 c = none ∧ Ex H0 H ∧ MaV K H0 m0 M ∧ Mat n m M ∧ n ≤ 100 ∧ m ≤ 100 ∧ (∀ row ∈ M, ∀ q ∈ row, Bits q a) ∧ a ≤ 1000 ∧
  ∀ H' r la ba rws lws, CoV K C H0 H' c (rows0 M) (last0 n m) (base0 n m) dx r la ba rws lws → Q .non H'
section
variable {P : Program} {w : World} {K : PySem.W.Frag} {mg : Str → Option Value} {base : Heap} {C : Addr}
theorem scInit : FnScope ["self", "matrix", "many", "wide", "place", "row", "own", "other", "one"] ["self", "matrix"] (defScope sInit) := ⟨rfl, rfl, rfl, by decide +kernel, rfl, by decide +kernel, by decide +kernel⟩
theorem ok_init (T : Bt mg) (G : Gc K mg) (Y : Ct K C) (f0 : Addr) (fd0 : FuncData) (F : Fun K "__init__" "Corner.__init__" sInit f0 fd0) (GP : Fn P w K mg base "plus" ["one", "other"] 3 (spFr2 K (· + ·) CY)) (GM : Fn P w K mg base "minus" ["one", "other"] 3 (spFr2 K (· - ·) CY)) :
    FnOk P w K mg base CX0 4 f0 fd0 ["self", "matrix"] (spInit K C) := by
  refine F.ok scInit (fun vs H Q E h => ?_) (fun cdv A outer s0 H vs Q E hr h => ?_)
  · obtain ⟨_, _, _, _, _, _, _, _, rfl, _⟩ := h; rfl
  obtain ⟨c, dx, m0, H0, M, n, m, a, rfl, hc, hc0, e0, hm, mat, hn, hm', hb, ha, k⟩ := h
  obtain ⟨aN, gN, fN⟩ := G.nothing
  obtain ⟨aW, gW, fW⟩ := G.whole
  refine ⟨_, pss_cons (ps_asg (pe_tup (pa_cons (pe_callB call_len (by rfl) T.len PySem.boot_len (pa_cons (pv 1) pa_nil)) (pa_cons (pe_callB call_len (by rfl) T.len PySem.boot_len (pa_cons (pe_ix ix_tup (pv 1) pe_int (fun _ _ => rfl)) pa_nil)) pa_nil)))
      (pg_tup (by rfl) (pgs_cons (pg_name (i := 2) scInit.nd rfl (Or.inl rfl)) (pgs_cons (pg_name (i := 3) scInit.nd rfl (Or.inr rfl)) pgs_nil))))
    (pss_cons (ps_fld (pv 0) (pe_lst pa_nil) rfl)
    (pss_cons (ps_for PassesOwn.never rfl (pi_enumT (by rfl) T.enumerate (pa_cons (pv 1) pa_nil)) (pg_tup (by rfl) (pgs_cons (pg_name (i := 4) scInit.nd rfl (Or.inr rfl)) (pgs_cons (pg_name (i := 5) scInit.nd rfl (Or.inl rfl)) pgs_nil)))
      (pss_cons (ps_setLc (i := 6) (own := [("other", 7)]) (g := gName 7) (tt := tYes) (by rfl) scInit.nd rfl rfl (sw_true rfl rfl rfl (by decide +kernel))
          (pi_range1 (by rfl) T.range (pa_cons (pv 2) pa_nil)) (blkOk_by (own := [("other", 7)]) (N := ["self", "matrix", "many", "wide", "place", "row", "own", "other", "one"]) (sc := defScope sInit) (by decide +kernel))
          (fun _ _ _ _ _ => pg_name (i := 7) scInit.nd rfl (Or.inl rfl)) (fun _ _ _ _ _ => pts_nil) (fun _ _ _ _ _ => pe_ifExp (pt_cmpR op_eq (pv 7) (pv 4) (nomark _)) (pe_glob (v := .ref aW) rfl gW rfl) (pe_glob (v := .ref aN) rfl gN rfl)))
        (pss_one (ps_expr (pe_bm PySem.F.plainAttrs_list PySem.F.slot_list_append PySem.F.type_list_append mt_append (pe_fld (pv 0) rfl)
          (pa_cons (pe_op op_cat (pe_op op_cat (pe_lc (own := [("one", 8)]) (g := gName 8) (by rfl) scInit.nd (pi_tup (pv 5)) (blkOk_by (own := [("one", 8)]) (N := ["self", "matrix", "many", "wide", "place", "row", "own", "other", "one"]) (sc := defScope sInit) (by decide +kernel))
            (fun _ _ _ _ _ => pg_name (i := 8) scInit.nd rfl (Or.inl rfl)) (fun _ _ _ _ _ => pts_nil) (fun _ _ _ _ _ => pe_fn GP hr (pa_cons (pv 8) (pa_cons (pe_glob (v := .ref aW) rfl gW rfl) pa_nil)))) (pv 6)) (pe_lst (pa_cons (pe_glob (v := .ref aW) rfl gW rfl) pa_nil))) pa_nil))))))
    (pss_cons (ps_fld (pv 0) (pe_op op_cat (pe_op op_rep (pe_lst (pa_cons (pe_fn GM hr (pa_cons (pe_glob (v := .ref aN) rfl gN rfl) (pa_cons (pe_glob (v := .ref aW) rfl gW rfl) pa_nil))) pa_nil)) (pv 3)) (pe_op op_rep (pe_lst (pa_cons (pe_glob (v := .ref aN) rfl gN rfl) pa_nil)) (pe_op op_add (pv 2) pe_int))) rfl)
    (pss_one (ps_fld (pv 0) (pe_lc (own := [("place", 4)]) (g := gName 4) (by rfl) scInit.nd (pi_range1 (by rfl) T.range (pa_cons (pv 2) pa_nil)) (blkOk_by (own := [("place", 4)]) (N := ["self", "matrix", "many", "wide", "place", "row", "own", "other", "one"]) (sc := defScope sInit) (by decide +kernel))
          (fun _ _ _ _ _ => pg_name (i := 4) scInit.nd rfl (Or.inl rfl)) (fun _ _ _ _ _ => pts_nil) (fun _ _ _ _ _ => pe_op op_add (pv 3) (pv 4))) rfl))))), ?_⟩
  obtain ⟨am, vsm, rfl, htm, hpm⟩ := hm
  have lenm : vsm.length = n := by rw [Paired.length hpm, mat.rows]
  have n0 := mat.n0
  obtain ⟨v0, hv0⟩ : ∃ v, vsm[0]? = some v := ⟨vsm[0]'(by omega), by simp [show 0 < vsm.length by omega]⟩
  obtain ⟨row0, hrow0, ⟨a0, ws0, rfl, ht0, hp0⟩⟩ := wk_list.pget hpm hv0
  have len0 : ws0.length = m := by rw [Paired.length hp0]; exact mat.each _ (List.mem_of_getElem? hrow0)
  have at0' : atI vsm 0 = some (.ref a0) := by have := atI_nat hv0; exact this
  have tup := gv_tup (ga_cons (Ev.gv (σ := [some (.ref c), some (.ref am), none, none, none, none, none, none, none]) (H := H) (ev_lenT (K := K) (ev_var (i := 1) rfl) (ex_t e0 htm) lenm)) (ga_cons (Ev.gv (ev_lenT (K := K) (ev_op (ev_var (i := 1) rfl) (ev_c (v := .int 0)) (rv_ixT (K := K) (ex_t e0 htm) at0')) (ex_t e0 ht0) len0)) ga_nil (fun _ _ _ _ h => h)) (fun _ _ _ _ h => h)) (fun vs' H' ⟨v, r, e1, _, v2, r2, e2, _, e5⟩ => by rw [e1, e2, e5]; show 2 ≤ 100000; decide)
  refine sq (tup.go fun v H1 e1 ⟨p, vs', H6, ev, hp0', hp1, e6, v1, r1, ev1, f1, v2, r2, ev2, f2, ev3⟩ => ?_)
  subst ev ev1 ev2 ev3 f1 f2
  refine ⟨p, _, rfl, st_of hp1, rfl, _, _, rfl, _, _, rfl, rfl, ?_⟩
  -- rows
  refine sq (s_fldG (P := fun v H2 => ∃ r, v = .ref r ∧ H1 r = none ∧ H2 r = some (.lst [])) (fun Ha ea Q q => el_lst ea_nil (by decide) Ha ea Q fun r H2 hr2 e2 hrl => q _ H2 e2 ⟨r, rfl, fresh_back ea hr2, hrl⟩) (fun v Ha Hb e ⟨r, e1, e2, e3⟩ => ⟨r, e1, e2, e _ _ e3⟩) (ev_var rfl) (e1 _ _ hc) Y.cl Y.nR (by show 0 < 1000; decide) fun v H2 e2 ⟨r, ev, hr2, hrl⟩ => ?_)
  subst ev
  have e02 := (e0.trans e1).trans e2
  have rc : r ≠ c := fun z => by rw [z, e1 _ _ hc] at hr2; cases hr2
  have r0 : H0 r = none := fresh_back (e0.trans e1) hr2
  have H3c : (upd H2 c (.ins C dx (putF "rows" (.ref r) []))) c = some (.ins C dx [("rows", .ref r)]) := upd_same
  have H3r : (upd H2 c (.ins C dx (putF "rows" (.ref r) []))) r = some (.lst []) := by rw [upd_ne rc]; exact hrl
  have e03 : Ex H0 (upd H2 c (.ins C dx (putF "rows" (.ref r) []))) := e02.mut hc0
  obtain ⟨H3, hH3⟩ : ∃ H3, upd H2 c (.ins C dx (putF "rows" (.ref r) [])) = H3 := ⟨_, rfl⟩
  rw [hH3] at H3c H3r e03 ⊢
  dsimp only
  refine sq (s_for0 (H0 := H0) (n := M.length) (gi_enumT (R := RoV) (K := K) (ev_var (i := 1) rfl) htm hpm RoV.ex) e03
    (fun i σ' H' => Ex H0 H' ∧ H' c = some (.ins C dx [("rows", .ref r)]) ∧ ∃ o4 o5 o6 ws, σ' = [some (.ref c), some (.ref am), some (.int n), some (.int m), o4, o5, o6, none, none] ∧ H' r = some (.lst ws) ∧
      Paired (RwW H0 r K H') ws ((List.range i).map fun k => rowOf n k (M.getD k [])))
    (fun H4 e4 => ⟨e03.trans e4, e4 _ _ H3c, none, none, none, [], rfl, e4 _ _ H3r, .nil⟩) (fun _ _ _ p => p.1) ?_ ?_)
  · rintro i x σ' H' H'' hi ⟨e, hcI, o4, o5, o6, ws, rfl, hws, hp⟩ e' ⟨t, w1, row1, rfl, hT, hri, ⟨ar, rs, rfl, hrt, hrp⟩⟩
    refine ⟨t, _, rfl, hT, rfl, _, _, rfl, _, _, rfl, rfl, ?_⟩
    have memr : row1 ∈ M := List.mem_of_getElem? hri
    have own := gv_lc (R := FrV) (K := K) (g := gName 7) (te := tIf (tTest (tOp rEq (tVar 7) (tVar 4))) (tC (.ref aW)) (tC (.ref aN))) (vs := [7]) (σ := [some (.ref c), some (.ref am), some (.int n), some (.int m), some (.int i), some (.ref ar), o6, none, none]) (H := H'') (n := n)
      (wi := iRng1 (tCons (tVar 2) tNil)) (B := fun i _ v => v = .int (0 + (i : Int))) (gn_range (ea_cons (ev_var rfl) ea_nil) (by omega)) (by omega) (fun k => if k = i then (1 : Rat) else 0) (fun _ _ _ _ e r => r.mono e)
      (fun k x H4 Q1 hk e2 hx kk => by
        subst hx
        refine kk [some (.ref c), some (.ref am), some (.int n), some (.int m), some (.int i), some (.ref ar), o6, some (.int (0 + (k : Int))), none] H4 (Ex.refl _) rfl ?_
        have tst := et_eqI (σ := [some (V.ref c), some (.ref am), some (.int n), some (.int m), some (.int i), some (.ref ar), o6, some (.int (0 + (k : Int))), none]) (H := H4) (ta := tVar 7) (tb := tVar 4) (ev_var rfl) (ev_var rfl)
        by_cases z : k = i
        · rw [if_pos z]
          exact gv_of (ev_if (b := true) (et_is tst (decide_eq_true (by omega))) (fun _ => ev_c) (fun q => by cases q)) fun H5 e5 => fW H5
        · rw [if_neg z]
          exact gv_of (ev_if (b := false) (et_is tst (decide_eq_false (by omega))) (fun q => by cases q) (fun _ => ev_c)) fun H5 e5 => fN H5)
    refine sq (own.go fun v H4 e4 hv => ?_)
    have ro4 : SqT K H4 ar rs := ex_t e4 hrt
    have lc8 := gv_lc (R := FrV) (K := K) (g := gName 8) (te := tCall (spFr2 K (· + ·) CY) [] E0 (tCons (tVar 8) (tCons (tC (.ref aW)) tNil))) (vs := [8]) (σ := [some (.ref c), some (.ref am), some (.int n), some (.int m), some (.int i), some (.ref ar), some v, none, none]) (H := H4)
      (gi_tup (K := K) (ev_var (i := 5) rfl) ro4 (L2.Paired.mapP hrp fun v x r => FrV.ex _ _ _ _ e4 r) FrV.ex).gn (by have := mat.each _ memr; omega) (fun k => row1.getD k 0 + 1) (fun _ _ _ _ e r => r.mono e)
      (fun k x H5 Q1 hk e5 ⟨y, hy, fy⟩ kk => by
        refine kk [some (.ref c), some (.ref am), some (.int n), some (.int m), some (.int i), some (.ref ar), some v, none, some x] H5 (Ex.refl _) rfl ?_
        rw [getD_of hy]
        refine gv_call (B := fun vs' _ => vs' = [x, .ref aW]) (fun H5' e5 Q q => ea_cons (ev_var (H := H5) rfl) (ea_cons ev_c ea_nil) H5' e5 Q fun H6 e6 => q _ H6 e6 rfl) fun vs' H6 e6 hv' Q E q' => ?_
        subst hv'
        have bo : Bits (1 : Rat) 1 := ⟨by decide, by decide⟩
        exact ⟨_, _, y, 1, a, 1, rfl, fy.mono (ExT.of e6), fW H6, hb _ memr _ (List.mem_of_getElem? hy), bo, by omega, True.intro, fun u H7 e7 hu => q' u H7 e7 hu⟩)
    rw [map_range row1 0 (fun x => x + 1)] at lc8
    have lm := mat.each _ memr
    have ow : Gv (tVar 6) [some (.ref c), some (.ref am), some (.int n), some (.int m), some (.int i), some (.ref ar), some v, none, none] H4 (fun v H' => LtV FrV K H' v ((List.range n).map fun k => if k = i then (1 : Rat) else 0)) := gv_var rfl fun H5 e5 => hv.lt.mono FrV.ex e5
    have whole := gv_cat ((gv_cat (lc8.imp fun v H' _ h => h.lt) ow (by rw [List.length_map, List.length_map, List.length_range]; omega) FrV.ex).imp fun v H' _ h => h.lt)
      ((gv_lst1 (x := (1 : Rat)) (R := FrV) (gv_c (v := .ref aW) fun H5 _ => fW H5) FrV.ex).imp fun v H' _ h => h.lt) (by rw [List.length_append, List.length_map, List.length_map, List.length_range]; show row1.length + n + 1 ≤ 100000; omega) FrV.ex
    have eR : row1.map (fun x => x + 1) ++ (List.range n).map (fun k => if k = i then (1 : Rat) else 0) ++ [1] = rowOf n i (M.getD i []) := by rw [getD_of hri]; rfl
    rw [eR] at whole
    have wsl : ws.length = i := by rw [Paired.length hp, List.length_map, List.length_range]
    have hc4 : H4 c = some (.ins C dx [("rows", .ref r)]) := e4 _ _ (e' _ _ hcI)
    have hws4 : H4 r = some (.lst ws) := e4 _ _ (e' _ _ hws)
    have e04 : Ex H0 H4 := (e.trans e').trans e4
    refine s_appG hws4 (ev_fld (ev_var rfl) hc4 Y.cl Y.nR List.lookup_cons_self) whole (by have := mat.rows; omega) fun v5 H5 e5 ⟨D5, ws5, ev5, h51, h52, h53⟩ => ?_
    subst ev5
    have D5r : D5 ≠ r := fun z => by rw [z, hws4] at h51; cases h51
    have up : ExT H5 (upd H5 r (.lst (ws ++ [.ref D5]))) := ext_set (e5 _ _ hws4)
    refine ⟨(e04.trans e5).mut r0, by rw [upd_ne rc.symm]; exact e5 _ _ hc4, _, _, _, _, rfl, upd_same, ?_⟩
    rw [List.range_succ, List.map_append]
    refine paired_append (L2.Paired.mapP hp fun v x ⟨a, ws', q1, q2, q3, q4, q5⟩ => ⟨a, ws', q1, q2, q3, by rw [upd_ne q2]; exact e5 _ _ (e4 _ _ (e' _ _ q4)), L2.Paired.mapP q5 fun v x r => r.mono ((ExT.of ((e'.trans e4).trans e5)).trans up)⟩) (.cons ?_ .nil)
    exact ⟨D5, ws5, rfl, D5r, fresh_back e04 h51, by rw [upd_ne D5r]; exact h52, L2.Paired.mapP h53 fun v x r => r.mono up⟩
  · rintro σ' H' ⟨e, hcI, o4, o5, o6, ws, rfl, hws, hp⟩
    rw [show (List.range M.length).map (fun k => rowOf n k (M.getD k [])) = rows0 M by unfold rows0; rw [mat.rows]] at hp
    -- last
    have bo : Bits (1 : Rat) 1 := ⟨by decide, by decide⟩
    have bz : Bits (0 : Rat) 1 := ⟨by decide, by decide⟩
    have mi : Gv (tCall (spFr2 K (· - ·) CY) [] E0 (tCons (tC (.ref aN)) (tCons (tC (.ref aW)) tNil))) [some (.ref c), some (.ref am), some (.int n), some (.int m), o4, o5, o6, none, none] H' (fun v H2 => FrV K H2 v (0 - 1)) := by
      refine gv_call (B := fun vs' _ => vs' = [.ref aN, .ref aW]) (fun H5' e5 Q q => ea_cons (ev_c (H := H')) (ea_cons ev_c ea_nil) H5' e5 Q fun H6 e6 => q _ H6 e6 rfl) fun vs' H6 e6 hv' Q E q' => ?_
      subst hv'
      exact ⟨_, _, 0, 1, 1, 1, rfl, fN H6, fW H6, bz, bo, by omega, True.intro, fun u H7 e7 hu => q' u H7 e7 hu⟩
    have r1 := gv_rep (k := m) (ta := tLst (tCons (tCall (spFr2 K (· - ·) CY) [] E0 (tCons (tC (.ref aN)) (tCons (tC (.ref aW)) tNil))) tNil)) (tb := tVar 3) (R := FrV) (xs := [0 - 1]) ((gv_lst1 mi FrV.ex).imp fun v H2 _ h => h.lt) (fun H2 _ => ev_var rfl) (by show 1 * m ≤ 100000; omega) (by omega) FrV.ex
    have z1 : Gv (tC (.ref aN)) [some (.ref c), some (.ref am), some (.int n), some (.int m), o4, o5, o6, none, none] H' (fun v H2 => FrV K H2 v 0) := gv_c fun H2 _ => fN H2
    have r2 := gv_rep (k := n + 1) (ta := tLst (tCons (tC (.ref aN)) tNil)) (tb := tOp (rI0 fun i j => .int (i + j)) (tVar 2) (tC (.int 1))) (R := FrV) (xs := [0]) ((gv_lst1 z1 FrV.ex).imp fun v H2 _ h => h.lt) (fun H2 _ => ev_is (ev_op (ev_var rfl) ev_c rv_I0) (by show V.int ((n : Int) + 1) = _; rfl)) (by show 1 * (n + 1) ≤ 100000; omega) (by omega) FrV.ex
    have la := gv_cat (r1.imp fun v H2 _ h => h.lt) (r2.imp fun v H2 _ h => h.lt) (by rw [flat_one, flat_one, List.length_replicate, List.length_replicate]; omega) FrV.ex
    rw [flat_one, flat_one, show List.replicate m ((0 : Rat) - 1) ++ List.replicate (n + 1) 0 = last0 n m from rfl] at la
    refine sq (s_fldG la (fun v Ha Hb e p => p.mono FrV.ex e) (ev_var rfl) hcI Y.cl Y.nL (by show 1 < 1000; decide) fun v H2 e2 ⟨D2, ws2, ev2, h21, h22, h23⟩ => ?_)
    subst ev2
    rw [putF_last2]
    have D2c : D2 ≠ c := fun z => by rw [z, hcI] at h21; cases h21
    have D2r : D2 ≠ r := fun z => by rw [z, hws] at h21; cases h21
    have D20 : H0 D2 = none := fresh_back e h21
    have up : ExT H2 (upd H2 c (.ins C dx [("rows", V.ref r), ("last", V.ref D2)])) := (ExT.refl H2).put (fun _ z => by rw [e2 _ _ hcI] at z; cases z) (fun _ _ z => by rw [e2 _ _ hcI] at z; cases z)
    obtain ⟨H3', hH3'⟩ : ∃ H3, upd H2 c (.ins C dx [("rows", V.ref r), ("last", V.ref D2)]) = H3 := ⟨_, rfl⟩
    have g1 : H3' c = some (.ins C dx [("rows", V.ref r), ("last", V.ref D2)]) := by rw [← hH3']; exact upd_same
    have g2 : H3' r = some (.lst ws) := by rw [← hH3', upd_ne rc]; exact e2 _ _ hws
    have g3 : H3' D2 = some (.lst ws2) := by rw [← hH3', upd_ne D2c]; exact h22
    have g4 : Ex H0 H3' := by rw [← hH3']; exact (e.trans e2).mut hc0
    have g5 : Paired (FrV K H3') ws2 (last0 n m) := by rw [← hH3']; exact L2.Paired.mapP h23 fun v x r => r.mono up
    have g6 : Paired (RwW H0 r K H3') ws (rows0 M) := by
      rw [← hH3']
      exact L2.Paired.mapP hp fun v x ⟨a, ws', q1, q2, q3, q4, q5⟩ => ⟨a, ws', q1, q2, q3, by rw [upd_ne (fun z => by rw [z, hcI] at q4; cases q4)]; exact e2 _ _ q4, L2.Paired.mapP q5 fun v x r => r.mono ((ExT.of e2).trans up)⟩
    rw [hH3']
    dsimp only
    -- base
    have lc4 := gv_lc (R := NtV) (K := K) (g := gName 4) (te := tOp (rI0 fun i j => .int (i + j)) (tVar 3) (tVar 4)) (vs := [4]) (σ := [some (.ref c), some (.ref am), some (.int n), some (.int m), o4, o5, o6, none, none]) (H := H3') (n := n)
      (wi := iRng1 (tCons (tVar 2) tNil)) (B := fun i _ v => v = .int (0 + (i : Int))) (gn_range (ea_cons (ev_var rfl) ea_nil) (by omega)) (by omega) (fun k => m + k) (fun _ _ _ _ _ r => r)
      (fun k x H4 Q1 hk e2 hx kk => by
        subst hx
        refine kk [some (.ref c), some (.ref am), some (.int n), some (.int m), some (.int (0 + (k : Int))), o5, o6, none, none] H4 (Ex.refl _) rfl ?_
        exact gv_of (ev_op (ev_var rfl) (ev_var rfl) rv_I0) fun H5 e5 => by show V.int ((m : Int) + (0 + (k : Int))) = V.int ((m + k : Nat) : Int); rw [Int.zero_add]; rfl)
    rw [show (List.range n).map (fun k => m + k) = base0 n m from rfl] at lc4
    refine s_fldG lc4 (fun v Ha Hb e p => p.mono (fun _ _ _ _ _ h => h) e) (ev_var rfl) g1 Y.cl Y.nB (by show 2 < 1000; decide) fun v H5 e5 ⟨D5, ws5, ev5, h51, h52, h53⟩ => ?_
    subst ev5
    rw [putF_base]
    have D5c : D5 ≠ c := fun z => by rw [z, g1] at h51; cases h51
    have D5r : D5 ≠ r := fun z => by rw [z, g2] at h51; cases h51
    have D52 : D5 ≠ D2 := fun z => by rw [z, g3] at h51; cases h51
    have up5 : ExT H5 (upd H5 c (.ins C dx (cf r D2 D5))) := (ExT.refl H5).put (fun _ z => by rw [e5 _ _ g1] at z; cases z) (fun _ _ z => by rw [e5 _ _ g1] at z; cases z)
    refine k _ r D2 D5 ws ws2 ⟨(g4.trans e5).mut hc0, hc0, r0, D20, fresh_back g4 h51, upd_same, by rw [upd_ne rc]; exact e5 _ _ g2, ?_, by rw [upd_ne D2c]; exact e5 _ _ g3, L2.Paired.mapP g5 fun v x r => r.mono ((ExT.of e5).trans up5), ?_, D2r.symm, D5r.symm, D52.symm⟩
    · exact L2.Paired.mapP g6 fun v x ⟨a, ws', q1, q2, q3, q4, q5⟩ => ⟨a, ws', q1, q2, (fun z => by rw [z, h51] at q4; cases q4), q3, by rw [upd_ne (fun z => by rw [z, g1] at q4; cases q4)]; exact e5 _ _ q4, L2.Paired.mapP q5 fun v x r => r.mono ((ExT.of e5).trans up5)⟩
    · rw [upd_ne D5c, h52, NtV.map h53]
end
end Mx
end
section
set_option Elab.async false
set_option linter.all false
set_option maxRecDepth 100000
set_option maxHeartbeats 4000000
/-! What the corner at its end tells: shares that show the value. -/
namespace Sx
open Fra
theorem pick_none {ps : List (Nat × Rat)} {j : Nat} (h : ∀ p ∈ ps, p.1 ≠ j) (q : Rat) : ps.foldl (fun q p => if p.1 = j then p.2 else q) q = q := by
  induction ps generalizing q with
  | nil => rfl
  | cons p r ih =>
    rw [List.foldl_cons, if_neg (h p List.mem_cons_self)]
    exact ih (fun p hp => h p (List.mem_cons_of_mem _ hp)) q
theorem pick_one {ps : List (Nat × Rat)} {j i : Nat} {x : Rat} (h : ps[i]? = some (j, x)) (u : ∀ i' p, ps[i']? = some p → p.1 = j → i' = i) (q : Rat) : ps.foldl (fun q p => if p.1 = j then p.2 else q) q = x := by
  induction ps generalizing q i with
  | nil => simp at h
  | cons p r ih =>
    rw [List.foldl_cons]
    cases i with
    | zero =>
      simp at h
      subst h
      rw [if_pos rfl]
      refine pick_none (fun p hp e => ?_) x
      obtain ⟨k, hk, e2⟩ := List.getElem_of_mem hp
      have := u (k + 1) p (by simp [hk, e2]) e
      omega
    | succ i =>
      refine ih (i := i) (by simpa using h) (fun i' p' h' e' => ?_) _
      have := u (i' + 1) p' (by simpa using h') e'
      omega
theorem sumQ_range (n : Nat) (f : Nat → Rat) : sumQ ((List.range n).map f) = sm n f := by
  induction n with
  | zero => rfl
  | succ n ih => rw [List.range_succ, List.map_append, List.map_cons, List.map_nil, sumQ_snoc, ih]; rfl
theorem list_range {α : Type} (l : List α) (d : α) : (List.range l.length).map (fun i => l.getD i d) = l := by
  apply List.ext_getElem?
  intro i
  by_cases h : i < l.length
  · simp [h]
  · simp [h, List.getElem?_eq_none (Nat.le_of_not_lt h)]
theorem sumQ_sm (l : List Rat) : sumQ l = sm l.length fun i => l.getD i 0 := by
  rw [← sumQ_range, list_range]
theorem sumQ_zip {n : Nat} {xs ys : List Rat} (h1 : xs.length = n) (h2 : ys.length = n) : sumQ (List.zipWith (· * ·) xs ys) = sm n fun i => xs.getD i 0 * ys.getD i 0 := by
  rw [sumQ_sm, List.length_zipWith, h1, h2, Nat.min_self]
  apply sm_congr
  intro i hi
  have a1 : xs[i]? = some (xs[i]'(by omega)) := by simp [show i < xs.length by omega]
  have a2 : ys[i]? = some (ys[i]'(by omega)) := by simp [show i < ys.length by omega]
  simp only [List.getD_eq_getElem?_getD, List.getElem?_zipWith, a1, a2]
  rfl
/-- shares that show a value -/
structure Shows (M : List (List Rat)) (n m : Nat) (v : Rat) (rs cs : List Rat) : Prop where
  rl : rs.length = n
  cl : cs.length = m
  r0 : ∀ q ∈ rs, 0 ≤ q
  c0 : ∀ q ∈ cs, 0 ≤ q
  rsum : sumQ rs = 1
  csum : sumQ cs = 1
  col : ∀ j, j < m → v ≤ sumQ (List.zipWith (· * ·) rs (M.map (·.getD j 0)))
  row : ∀ i, i < n → sumQ (List.zipWith (· * ·) cs (M.getD i [])) ≤ v
/-- what is told: it shows its value; all over one number -/
structure Told (B : Nat) (M : List (List Rat)) (n m : Nat) (v : Rat) (rs cs : List Rat) : Prop where
  shows_ : Shows M n m v rs cs
  den : ∃ N : Nat, 0 < N ∧ N ≤ B ∧ (∀ q ∈ rs, Cd N B q) ∧ (∀ q ∈ cs, Cd N B q) ∧ Cd N (B + B) v
theorem rat_pos {d : Nat} (h : 0 < d) : (0 : Rat) < (d : Rat) := Rat.natCast_pos.mpr h
theorem abs_cast {u : Int} (h : 0 < u) : ((u.natAbs : Nat) : Rat) = (u : Rat) := by
  rw [← Rat.intCast_natCast]; congr 1; omega
theorem scale {w d x u : Rat} {u' : Rat} (w0 : w ≠ 0) (hw : w * d = u) (hx : x * d = u') : x / w * u = u' := by
  rw [← hw, ← hx, Rat.div_def]
  have : w⁻¹ * w = 1 := by rw [Rat.mul_comm]; exact Rat.mul_inv_cancel _ w0
  have e : x * w⁻¹ * (w * d) = x * d * (w⁻¹ * w) := by grind
  rw [e, this, Rat.mul_one]
theorem told_of {M : List (List Rat)} {n m : Nat} (mat : Mat n m M) (x y : Nat → Rat) (w : Rat) (S : Solved (fun i j => ent M i j + 1) n m x y w) {d B : Nat} {uw : Int} {ux uy : Nat → Int} (d0 : 0 < d) (dl : d ≤ B)
    (hw : w * (d : Rat) = (uw : Rat)) (lw : uw.natAbs ≤ B) (hx : ∀ k, k < n → x k * (d : Rat) = (ux k : Rat) ∧ (ux k).natAbs ≤ B) (hy : ∀ j, j < m → y j * (d : Rat) = (uy j : Rat) ∧ (uy j).natAbs ≤ B) :
    Told B M n m (1 / w - 1) ((List.range n).map fun k => x k / w) ((List.range m).map fun j => y j / w) := by
  have w0 := S.w0
  have dp := rat_pos d0
  have wne : w ≠ 0 := by grind
  have uwp : 0 < uw := by
    have : (0 : Rat) < (uw : Rat) := by rw [← hw]; exact Rat.mul_pos w0 dp
    exact Rat.intCast_pos.mp this
  refine ⟨⟨by simp, by simp, ?_, ?_, ?_, ?_, ?_, ?_⟩, uw.natAbs, by omega, lw, ?_, ?_, ?_⟩
  · intro q hq
    obtain ⟨k, hk, rfl⟩ := List.mem_map.mp hq
    exact div_nonneg' (S.x0 k (List.mem_range.mp hk)) w0
  · intro q hq
    obtain ⟨k, hk, rfl⟩ := List.mem_map.mp hq
    exact div_nonneg' (S.y0 k (List.mem_range.mp hk)) w0
  · rw [sumQ_range, sm_congr (g := fun k => (1 / w) * x k) fun k _ => by grind, sm_mul, S.xs]; grind
  · rw [sumQ_range, sm_congr (g := fun k => (1 / w) * y k) fun k _ => by grind, sm_mul, S.ys]; grind
  · intro j hj
    have h := S.col j hj
    rw [sumQ_zip (n := n) (by simp) (by rw [List.length_map]; exact mat.rows)]
    rw [sm_congr (f := fun i => ((List.range n).map fun k => x k / w).getD i 0 * (M.map (·.getD j 0)).getD i 0) (g := fun k => (1 / w) * (x k * (ent M k j + 1)) - (1 / w) * x k) fun k hk => ?_, sm_sub, sm_mul, sm_mul, S.xs]
    · have : (1 / w) * 1 ≤ (1 / w) * sm n (fun k => x k * (ent M k j + 1)) := Rat.mul_le_mul_of_nonneg_left h (by have := Rat.inv_pos.mpr w0; grind)
      generalize sm n (fun k => x k * (ent M k j + 1)) = S1 at this ⊢
      have wi : 1 / w * w = 1 := by grind
      generalize 1 / w = iw at *
      rw [wi]
      rw [Rat.mul_one] at this
      clear h hx hy S
      grind
    · have e1 : ((List.range n).map fun k => x k / w).getD k 0 = x k / w := by rw [getD_range, if_pos hk]
      have e2 : (M.map (·.getD j 0)).getD k 0 = ent M k j := by
        unfold ent
        simp only [List.getD_eq_getElem?_getD, List.getElem?_map]
        cases h : M[k]? with
        | none => simp
        | some r => simp
      simp only [e1, e2]
      grind
  · intro i hi
    have h := S.row i hi
    have li : (M.getD i []).length = m := mat.row hi
    rw [sumQ_zip (n := m) (by simp) li]
    rw [sm_congr (f := fun j => ((List.range m).map fun k => y k / w).getD j 0 * (M.getD i []).getD j 0) (g := fun j => (1 / w) * ((ent M i j + 1) * y j) - (1 / w) * y j) fun k hk => ?_, sm_sub, sm_mul, sm_mul, S.ys]
    · have : (1 / w) * sm m (fun j => (ent M i j + 1) * y j) ≤ (1 / w) * 1 := Rat.mul_le_mul_of_nonneg_left h (by have := Rat.inv_pos.mpr w0; grind)
      generalize sm m (fun j => (ent M i j + 1) * y j) = S1 at this ⊢
      have wi : 1 / w * w = 1 := by grind
      generalize 1 / w = iw at *
      rw [wi]
      rw [Rat.mul_one] at this
      clear h hx hy S
      grind
    · have e1 : ((List.range m).map fun k => y k / w).getD k 0 = y k / w := by rw [getD_range, if_pos hk]
      simp only [e1]
      unfold ent
      grind
  · intro q hq
    obtain ⟨k, hk, rfl⟩ := List.mem_map.mp hq
    obtain ⟨h1, h2⟩ := hx k (List.mem_range.mp hk)
    refine ⟨ux k, ?_, h2⟩
    have e : ((uw.natAbs : Nat) : Rat) = (uw : Rat) := abs_cast uwp
    rw [e]; exact scale wne hw h1
  · intro q hq
    obtain ⟨k, hk, rfl⟩ := List.mem_map.mp hq
    obtain ⟨h1, h2⟩ := hy k (List.mem_range.mp hk)
    refine ⟨uy k, ?_, h2⟩
    have e : ((uw.natAbs : Nat) : Rat) = (uw : Rat) := abs_cast uwp
    rw [e]; exact scale wne hw h1
  · refine ⟨(d : Int) - uw, ?_, ?_⟩
    · have e : ((uw.natAbs : Nat) : Rat) = (uw : Rat) := abs_cast uwp
      rw [e, Rat.intCast_sub, ← hw, Rat.intCast_natCast]; grind
    · omega
end Sx
end
section
set_option Elab.async false
set_option linter.all false
set_option maxRecDepth 100000
set_option maxHeartbeats 4000000
/-! solved. -/
namespace Mx
open PySem L2 Evl Fra
open Sx (TF bf Tab lessL divL turnR turnLast enterL rowOf rows0 last0 base0 Mat ent Told Shows)
abbrev sSolved : Stmt := top 31
theorem sizes_bits {n m : Nat} {R' : List (List Rat)} {l' : List Rat} {b' : List Nat} (tb : Tab n (m + n) R' l' b') (S : Sx.Small n (fun j => j ≤ m + n) (TF R' l') 2047) : BitsAll R' l' 2048 := by
  obtain ⟨d, d0, dle, all⟩ := S
  have h2 : 2 ^ 2047 < 2 ^ 2048 := Nat.pow_lt_pow_right (by decide) (by decide)
  have bit : ∀ i j, i ≤ n → j ≤ m + n → Bits (TF R' l' i j) 2048 := fun i j hi hj => by
    obtain ⟨u, e, l⟩ := all i j hi hj
    exact Cd.bits (d := d) (B := 2 ^ 2047) ⟨u, e, l⟩ d0 (Nat.lt_of_le_of_lt dle h2) h2
  refine ⟨fun row hr q hq => ?_, fun q hq => ?_⟩
  · obtain ⟨i, hi, rfl⟩ := List.getElem_of_mem hr
    obtain ⟨j, hj, rfl⟩ := List.getElem_of_mem hq
    have hin : i < n := by rw [← tb.rows]; exact hi
    have hl := tb.each _ (List.getElem_mem hi)
    have e : TF R' l' i j = (R'[i])[j] := by
      unfold TF
      rw [if_pos hi, List.getD_eq_getElem?_getD (l := R'), List.getElem?_eq_getElem hi, Option.getD_some, List.getD_eq_getElem?_getD, List.getElem?_eq_getElem hj, Option.getD_some]
    rw [← e]
    exact bit i j (by omega) (by omega)
  · obtain ⟨j, hj, rfl⟩ := List.getElem_of_mem hq
    have e : TF R' l' n j = l'[j] := by
      unfold TF
      rw [if_neg (by rw [tb.rows]; omega), List.getD_eq_getElem?_getD, List.getElem?_eq_getElem hj, Option.getD_some]
    rw [← e]
    have := tb.last
    exact bit n j (Nat.le_refl n) (by omega)
theorem colQ_corner {R0 : Nat → Nat → Rat} {n m : Nat} {R' : List (List Rat)} {l' : List Rat} {b' : List Nat} (tb : Tab n (m + n) R' l' b') (L : Sx.Lot R0 n m (TF R' l') (bf b')) : Sx.Corner R0 n m (TF R' l') (bf b') (colQ R' b') := by
  have zip : ∀ i, i < n → ((b'.zip R').map fun p => (p.1, lastQ p.2))[i]? = some (bf b' i, TF R' l' i (m + n)) := fun i hi => by
    have h1 : b'[i]? = some (bf b' i) := some_getD (by rw [tb.base]; exact hi)
    have h2 : R'[i]? = some (R'.getD i []) := some_getD (by rw [tb.rows]; exact hi)
    rw [List.getElem?_map, List.getElem?_zip_eq_some (z := (bf b' i, R'.getD i [])) |>.mpr ⟨h1, h2⟩]
    have hl := tb.row hi
    show some (bf b' i, lastQ (R'.getD i [])) = _
    unfold lastQ TF
    rw [hl, if_pos (by rw [tb.rows]; exact hi)]; rfl
  have len : ((b'.zip R').map fun p => (p.1, lastQ p.2)).length = n := by rw [List.length_map, List.length_zip, tb.rows, tb.base, Nat.min_self]
  refine ⟨fun i hi hb => ?_, fun j hj no => ?_⟩
  · unfold colQ
    refine Sx.pick_one (zip i hi) (fun i' p h e => ?_) 0
    have hi' : i' < n := by rw [← len]; exact (List.getElem?_eq_some_iff.mp h).1
    rw [zip i' hi'] at h
    cases h
    exact L.inj hi' hi e
  · unfold colQ
    refine Sx.pick_none (fun p hp e => ?_) 0
    obtain ⟨i, hi0, e2⟩ := List.getElem_of_mem hp
    have hi := hi0
    rw [len] at hi
    have h := zip i hi
    have h3 : ((b'.zip R').map fun p => (p.1, lastQ p.2))[i]? = some p := List.getElem?_eq_some_iff.mpr ⟨hi0, e2⟩
    rw [h] at h3
    cases h3
    exact no i hi e
theorem told_end {M : List (List Rat)} {n m : Nat} (mat : Mat n m M) (pos : ∀ i j, i < n → j < m → 0 ≤ ent M i j) {R' : List (List Rat)} {l' : List Rat} {b' : List Nat} (tb : Tab n (m + n) R' l' b') (L : Sx.Lot (TF (rows0 M) (last0 n m)) n m (TF R' l') (bf b')) (f : Sx.Feas n (m + n) (TF R' l')) (last : ∀ j, j < m + n → 0 ≤ TF R' l' n j)
    {d B : Nat} (d0 : 0 < d) (dl : d ≤ B) (all : ∀ i j, i ≤ n → j ≤ m + n → ∃ u : Int, TF R' l' i j * (d : Rat) = (u : Rat) ∧ u.natAbs ≤ B) :
    Told B M n m (1 / sumQ ((List.range m).map (colQ R' b')) - 1) (((l'.drop m).take n).map (· / sumQ ((List.range m).map (colQ R' b')))) (((List.range m).map (colQ R' b')).map (· / sumQ ((List.range m).map (colQ R' b')))) ∧
    (∀ q ∈ (List.range m).map (colQ R' b'), Cd d B q) ∧ Cd d B (sumQ ((List.range m).map (colQ R' b'))) ∧ 0 < sumQ ((List.range m).map (colQ R' b')) ∧ (∀ q ∈ (l'.drop m).take n, Cd d B q) := by
  have cor := colQ_corner tb L
  have S := (mat.first pos).solved mat.m0 L f last cor
  have ew : sumQ ((List.range m).map (colQ R' b')) = TF R' l' n (m + n) := by rw [Sx.sumQ_range]; exact S.ys
  have ey : ∀ j, j < m → ∃ u : Int, colQ R' b' j * (d : Rat) = (u : Rat) ∧ u.natAbs ≤ B := fun j hj => by
    by_cases h : ∃ i, i < n ∧ bf b' i = j
    · obtain ⟨i, hi, e⟩ := h
      rw [← e, cor.base i hi (by rw [e]; exact hj)]
      exact all i (m + n) (by omega) (Nat.le_refl _)
    · rw [cor.none j hj fun i hi e => h ⟨i, hi, e⟩]
      exact ⟨0, by rw [Rat.zero_mul]; rfl, by simp⟩
  have el : (l'.drop m).take n = (List.range n).map fun k => TF R' l' n (m + k) := by
    apply List.ext_getElem?
    intro k
    by_cases hk : k < n
    · rw [List.getElem?_take_of_lt hk, List.getElem?_drop, List.getElem?_map, List.getElem?_range hk]
      unfold TF
      rw [Option.map_some, if_neg (by rw [tb.rows]; omega)]
      exact some_getD (by rw [tb.last]; omega)
    · rw [List.getElem?_eq_none (by rw [List.length_take]; omega), List.getElem?_eq_none (by simpa using hk)]
  obtain ⟨uw, hw, lw⟩ := all n (m + n) (Nat.le_refl n) (Nat.le_refl _)
  have t := Sx.told_of mat _ _ _ S (d := d) (B := B) (uw := uw) (ux := fun k => if h : k < n then (all n (m + k) (Nat.le_refl n) (by omega)).choose else 0) (uy := fun j => if h : j < m then (ey j h).choose else 0) d0 dl hw lw
    (fun k hk => by rw [dif_pos hk]; exact (all n (m + k) (Nat.le_refl n) (by omega)).choose_spec) (fun j hj => by rw [dif_pos hj]; exact (ey j hj).choose_spec)
  refine ⟨?_, ?_, ?_, ?_, ?_⟩
  · rw [ew, el, List.map_map, List.map_map]
    exact t
  · intro q hq
    obtain ⟨j, hj, rfl⟩ := List.mem_map.mp hq
    exact ey j (List.mem_range.mp hj)
  · rw [ew]; exact ⟨uw, hw, lw⟩
  · rw [ew]; exact S.w0
  · intro q hq
    rw [el] at hq
    obtain ⟨k, hk, rfl⟩ := List.mem_map.mp hq
    have hk' := List.mem_range.mp hk
    exact all n (m + k) (Nat.le_refl n) (by omega)
/-- where the class stands to be made -/
structure Ck (P : Program) (w : World) (K : PySem.W.Frag) (mg : Str → Option Value) (base : Heap) (C : Addr) : Prop where
  ok : ∃ (f : Addr) (fd : FuncData), Mk K C f ∧ FnOk P w K mg base CX0 4 f fd ["self", "matrix"] (spInit K C) ∧ Binds K fd ["self", "matrix"] [] ∧ mg "Corner" = some (.ref C)
/-- what is told: a value, shares of rows, of columns -/
def ToV (K : PySem.W.Frag) (H : Hp) (v : V) (x : Rat × List Rat × List Rat) : Prop := ∃ a v0 v1 v2, v = .ref a ∧ SqT K H a [v0, v1, v2] ∧ FrV K H v0 x.1 ∧ RoV K H v1 x.2.1 ∧ RoV K H v2 x.2.2
theorem ToV.mono {K : PySem.W.Frag} {H H' : Hp} {v : V} {x : Rat × List Rat × List Rat} (e : ExT H H') (h : ToV K H v x) : ToV K H' v x := by
  obtain ⟨a, v0, v1, v2, ev, h, h0, h1, h2⟩ := h
  exact ⟨a, v0, v1, v2, ev, e.t h, h0.mono e, RoV.mono e h1, RoV.mono e h2⟩
/-- sizes that the corner can hold -/
def Fits (n m : Nat) (M : List (List Rat)) : Prop := ∃ e0, Sx.Small n (fun j => j ≤ m + n) (TF (rows0 M) (last0 n m)) e0 ∧ Sx.grown e0 (min n m) ≤ 2047
def spSolved (K : PySem.W.Frag) : Sp := fun vs H Q _ => ∃ (m0 : V) (M : List (List Rat)) (n m a : Nat), vs = [m0] ∧ MaV K H m0 M ∧ Mat n m M ∧ n ≤ 64 ∧ m ≤ 64 ∧ (∀ i j, i < n → j < m → 0 ≤ ent M i j) ∧ (∀ row ∈ M, ∀ q ∈ row, Bits q a) ∧ a ≤ 1000 ∧ Fits n m M ∧
  ∀ v H' x, Ex H H' → ToV K H' v x → Told (2 ^ 2047) M n m x.1 x.2.1 x.2.2 → Q v H'
theorem Fits.small {n m : Nat} {M : List (List Rat)} (h : Fits n m M) {R0 : Nat → Nat → Rat} (e0 : R0 = TF (rows0 M) (last0 n m)) (hb : Sx.Begin R0 n m) {R : Nat → Nat → Rat} {b : Nat → Nat} (L : Sx.Lot R0 n m R b) : Sx.Small n (fun j => j ≤ m + n) R 2047 := by
  obtain ⟨e, S, g⟩ := h
  subst e0
  have s := Sx.Lot.small hb (C := fun j => j ≤ m + n) (fun j hj => Nat.le_of_lt hj) S _ R b L rfl
  have le : Sx.inner m b n ≤ min n m := Nat.le_min.mpr ⟨Sx.inner_le_n n, L.inner_le⟩
  exact s.mono (Nat.le_trans (Sx.grown_le le) g)
section
variable {K : PySem.W.Frag} {σ : L2.St} {H : Hp} {D : Ends} {t ta tb te : TE} {tA : TA} {P : V → Hp → Prop}
theorem s_par {i j : Nat} {v w : V} (h : EvA tA σ H [v, w]) (k : ∀ H1, Ex H H1 → D.nx ((σ.set i (some v)).set j (some w)) H1) : tPar i j tA D σ H := h H (Ex.refl H) _ fun H1 e => ⟨v, w, rfl, k H1 e⟩
theorem s_parG {i j : Nat} {A B : V → Hp → Prop} (h : Gv ta σ H A) (h2 : Gv tb σ H B) (mA : ∀ v H1 H2, Ex H1 H2 → A v H1 → A v H2) (k : ∀ v w H1, Ex H H1 → A v H1 → B w H1 → D.nx ((σ.set i (some v)).set j (some w)) H1) : tPar i j (tCons ta (tCons tb tNil)) D σ H :=
  h H (Ex.refl H) _ fun v H1 e a => h2 H1 e _ fun w H2 e2 b => ⟨v, w, rfl, k v w H2 (e.trans e2) (mA _ _ _ e2 a) b⟩
theorem s_asgG {i : Nat} (h : Gv te σ H P) (k : ∀ v H1, Ex H H1 → P v H1 → D.nx (σ.set i (some v)) H1) : tAsg te (gName i) D σ H := h.go k
theorem s_retG (h : Gv te σ H P) (k : ∀ v H1, Ex H H1 → P v H1 → D.rt v H1) : tRet te D σ H := h.go k
theorem gv_tupleOf {α : Type} {R : PySem.W.Frag → Hp → V → α → Prop} {xs : List α} (h : Gv t σ H (NwL R K H xs)) (mR : ∀ H1 H2 v x, Ex H1 H2 → R K H1 v x → R K H2 v x) :
    Gv (tCB (fun xs H Q => ∃ p ys, xs = [.ref p] ∧ ((SqL K H p ys ∧ ∀ l, H l = none → Q (.ref l) (upd H l (.tup ys))) ∨ (SqT K H p ys ∧ Q (.ref p) H))) (tCons t tNil)) σ H (NwT R K H xs) := fun H1 e Q q =>
  h H1 e _ fun v H2 e2 ⟨D, vs, ev, hD, hl, p⟩ => ⟨D, vs, by rw [ev], .inl ⟨sq_of hl, fun l hl0 => q _ _ (e2.trans (Ex.new hl0)) ⟨l, vs, rfl, fresh_back (e.trans e2) hl0, upd_same, L2.Paired.mapP p fun v x r => mR _ _ _ _ (Ex.new hl0) r⟩⟩⟩
theorem cutMid {vs : List V} {m n : Nat} (h : m + n ≤ vs.length) : cutV vs (some (m : Int)) (some ((m : Int) + (n : Int))) = (vs.drop m).take n := by
  unfold cutV
  have h1 : HT.sIx vs.length 0 (some (m : Int)) = m := by rw [HT.sIx_nat]; omega
  have h2 : HT.sIx vs.length vs.length (some ((m : Int) + (n : Int))) = m + n := by rw [← Int.natCast_add, HT.sIx_nat]; omega
  rw [h1, h2, Nat.add_sub_cancel_left]
theorem paired_drop {α β : Type} {F : α → β → Prop} : ∀ {l : List α} {m : List β} (k : Nat), Paired F l m → Paired F (l.drop k) (m.drop k)
  | _, _, 0, p => p
  | _, _, _ + 1, .nil => .nil
  | _, _, k + 1, .cons _ t => paired_drop k t
theorem paired_take {α β : Type} {F : α → β → Prop} : ∀ {l : List α} {m : List β} (k : Nat), Paired F l m → Paired F (l.take k) (m.take k)
  | _, _, 0, _ => by rw [List.take_zero, List.take_zero]; exact .nil
  | _, _, _ + 1, .nil => .nil
  | _, _, k + 1, .cons r t => .cons r (paired_take k t)
end
section
variable {P : Program} {w : World} {K : PySem.W.Frag} {mg : Str → Option Value} {base : Heap} {C : Addr}
theorem scSolved : FnScope ["matrix", "many", "wide", "corner", "columns", "rows", "whole", "value", "one"] ["matrix"] (defScope sSolved) := ⟨rfl, rfl, rfl, by decide +kernel, rfl, by decide +kernel, by decide +kernel⟩
theorem ok_solved (T : Bt mg) (G : Gc K mg) (Y : Ct K C) (Z : Ck P w K mg base C) (F : Dn K mg "solved" sSolved ["matrix"]) (GG : Mn P w K mg base C "go" ["self"] 6 (spGo K C)) (GC : Mn P w K mg base C "columns" ["self", "wide"] 1 (spColumns K C))
    (GS : Fn P w K mg base "sum_of" ["some"] 4 (spSum K)) (GM : Fn P w K mg base "minus" ["one", "other"] 3 (spFr2 K (· - ·) CY)) (GD : Fn P w K mg base "divided" ["one", "other"] 3 (spFr2 K (· / ·) fun _ q => q ≠ 0)) :
    Fn P w K mg base "solved" ["matrix"] 7 (spSolved K) := by
  refine F.fn scSolved (fun vs H Q E h => ?_) (fun f cdv A outer s0 H vs Q E hr h => ?_)
  · obtain ⟨_, _, _, _, _, rfl, _⟩ := h; rfl
  obtain ⟨m0, M, n, m, a, rfl, hm, mat, hn, hm', pos, hb, ha, fits, k⟩ := h
  obtain ⟨aW, gW, fW⟩ := G.whole
  obtain ⟨fi, fdi, mk, Fi, bi, gC⟩ := Z.ok
  refine ⟨_, pss_cons (ps_par (i := 1) (j := 2) rfl scSolved.nd rfl rfl (by decide) rfl rfl (pa_cons (pe_callB call_len (by rfl) T.len PySem.boot_len (pa_cons (pv 0) pa_nil)) (pa_cons (pe_callB call_len (by rfl) T.len PySem.boot_len (pa_cons (pe_ix ix_tup (pv 0) pe_int (fun _ _ => rfl)) pa_nil)) pa_nil)) rfl)
    (pss_cons (ps_set (i := 3) scSolved.nd rfl (.inl rfl) (pe_make mk Fi (hr.mono (by decide)) (by rfl) gC bi .nil pass0 (pa_cons (pv 0) pa_nil)))
    (pss_cons (ps_expr (pe_mn0 GG Y.cl hr (pv 3)))
    (pss_cons (ps_par (i := 4) (j := 5) rfl scSolved.nd rfl rfl (by decide) rfl rfl (pa_cons (pe_mn GC Y.cl (hr.mono (by decide)) (pv 3) (pa_cons (pv 2) pa_nil)) (pa_cons (pe_slice sl_list (pe_fld (pv 3) rfl) (po_some (pv 2)) (po_some (pe_op op_add (pv 2) (pv 1)))) pa_nil)) rfl)
    (pss_cons (ps_set (i := 6) scSolved.nd rfl (.inr rfl) (pe_fn GS (hr.mono (by decide)) (pa_cons (pv 4) pa_nil)))
    (pss_cons (ps_set (i := 7) scSolved.nd rfl (.inl rfl) (pe_fn GM (hr.mono (by decide)) (pa_cons (pe_fn GD (hr.mono (by decide)) (pa_cons (pe_glob (v := .ref aW) rfl gW rfl) (pa_cons (pv 6) pa_nil))) (pa_cons (pe_glob (v := .ref aW) rfl gW rfl) pa_nil))))
    (pss_one (ps_ret (pe_tup (pa_cons (pv 7) (pa_cons (pe_callTy call_tuple_of (by rfl) T.tuple (by decide +kernel) (pa_cons (pe_lc (own := [("one", 8)]) (g := gName 8) (by rfl) scSolved.nd (pi_list (pv 5)) (blkOk_by (own := [("one", 8)]) (N := ["matrix", "many", "wide", "corner", "columns", "rows", "whole", "value", "one"]) (sc := defScope sSolved) (by decide +kernel))
            (fun _ _ _ _ _ => pg_name (i := 8) scSolved.nd rfl (Or.inl rfl)) (fun _ _ _ _ _ => pts_nil) (fun _ _ _ _ _ => pe_fn GD (hr.mono (by decide)) (pa_cons (pv 8) (pa_cons (pv 6) pa_nil)))) pa_nil))
          (pa_cons (pe_callTy call_tuple_of (by rfl) T.tuple (by decide +kernel) (pa_cons (pe_lc (own := [("one", 8)]) (g := gName 8) (by rfl) scSolved.nd (pi_list (pv 4)) (blkOk_by (own := [("one", 8)]) (N := ["matrix", "many", "wide", "corner", "columns", "rows", "whole", "value", "one"]) (sc := defScope sSolved) (by decide +kernel))
            (fun _ _ _ _ _ => pg_name (i := 8) scSolved.nd rfl (Or.inl rfl)) (fun _ _ _ _ _ => pts_nil) (fun _ _ _ _ _ => pe_fn GD (hr.mono (by decide)) (pa_cons (pv 8) (pa_cons (pv 6) pa_nil)))) pa_nil)) pa_nil))))))))))), ?_⟩
  obtain ⟨am, vsm, rfl, htm, hpm⟩ := hm
  have lenm : vsm.length = n := by rw [Paired.length hpm, mat.rows]
  have n0 := mat.n0
  obtain ⟨v0, hv0⟩ : ∃ v, vsm[0]? = some v := ⟨vsm[0]'(by omega), by simp [show 0 < vsm.length by omega]⟩
  obtain ⟨row0, hrow0, ⟨a0, ws0, rfl, ht0, hp0⟩⟩ := wk_list.pget hpm hv0
  have len0 : ws0.length = m := by rw [Paired.length hp0]; exact mat.each _ (List.mem_of_getElem? hrow0)
  have at0' : atI vsm 0 = some (.ref a0) := by have := atI_nat hv0; exact this
  refine sq (s_par (v := .int n) (w := .int m) (ea_cons (ev_lenT (ev_var rfl) htm lenm) (ea_cons (ev_lenT (ev_op (ev_var rfl) ev_c (rv_ixT htm at0')) ht0 len0) ea_nil)) fun H1 e1 => ?_)
  -- the corner
  refine sq (t := tAsg (tMake C (spInit K C) [] E0 (tCons (tVar 0) tNil)) (gName 3)) ⟨_, rfl, fun x dx hx hdx hne => ?_⟩
  have ex1 : Ex H1 (upd (upd H1 dx (.own x)) x (.ins C dx [])) := (Ex.new hdx).trans (Ex.new (by rw [upd_ne hne.symm]; exact hx))
  refine ⟨x, dx, .ref am, H1, M, n, m, a, rfl, upd_same, hx, ex1, ⟨am, vsm, rfl, ex_t e1 htm, L2.Paired.mapP hpm fun v x r => RoV.ex _ _ _ _ e1 r⟩, mat, by omega, by omega, hb, ha, fun H2 r la ba rws lws cv => ⟨rfl, ?_⟩⟩
  -- go
  have fst := mat.first pos
  refine sq (t := tDrop (tMeth C "go" (spGo K C) [] E0 (tVar 3) tNil)) ⟨_, rfl, x, dx, _, rfl, cv.ins, cf_none r la ba (by decide +kernel) (by decide +kernel) (by decide +kernel), ?_⟩
  refine ⟨x, H1, rows0 M, last0 n m, base0 n m, dx, r, la, ba, rws, lws, n, m, 2048, _, rfl, cv, mat.tab, by omega, by omega, fst, Sx.base0_bf n m, fun R' l' b' L tb => sizes_bits tb (fits.small rfl fst.begin L), by omega, fun R' l' b' la' rws' lws' H3 cv3 tb3 L3 f3 last3 => ?_⟩
  obtain ⟨d, d0, dle, all⟩ := fits.small rfl fst.begin L3
  obtain ⟨told, cCd, wCd, w0, rCd⟩ := told_end mat pos tb3 L3 f3 last3 d0 dle all
  have σ3 : ∀ H4, Ex H3 H4 → CoV K C H1 H4 x R' l' b' dx r la' ba rws' lws' := fun H4 e => cv3.mono e
  have lenl : lws'.length = m + n + 1 := by rw [Paired.length cv3.lp]; exact tb3.last
  have gcols : Gv (tMeth C "columns" (spColumns K C) [] E0 (tVar 3) (tCons (tVar 2) tNil)) [some (.ref am), some (.int n), some (.int m), some (.ref x), none, none, none, none, none] H3 (NwL FrV K H3 ((List.range m).map (colQ R' b'))) := fun H4 e4 Q4 q4 =>
    ⟨_, rfl, x, dx, _, rfl, (σ3 H4 e4).ins, cf_none r la' ba (by decide +kernel) (by decide +kernel) (by decide +kernel), _, rfl, x, H1, R', l', b', dx, r, la', ba, rws', lws', m, rfl, σ3 H4 e4, by rw [tb3.base, tb3.rows], (fun row hr z => by have := tb3.each _ hr; rw [z] at this; cases this), by rw [tb3.rows]; omega, by omega, fun v H5 e5 ⟨D, vs, ev, hD, hDl, p⟩ => q4 v H5 e5 ⟨D, vs, ev, fresh_back e4 hD, hDl, p⟩⟩
  have grows : Gv (tSl (rSlL K) (tFld K (tVar 3) "last") (tPart (tVar 2)) (tPart (tOp (rI0 fun i j => .int (i + j)) (tVar 2) (tVar 1)))) [some (.ref am), some (.int n), some (.int m), some (.ref x), none, none, none, none, none] H3 (NwL FrV K H3 ((l'.drop m).take n)) :=
    gv_slice (ev_fld (ev_var rfl) cv3.ins Y.cl Y.nL (cf_last r la' ba)) (eo_some (ev_var rfl)) (eo_some (ev_op (ev_var rfl) (ev_var rfl) rv_I0)) (sq_of cv3.ll) (cutMid (m := m) (n := n) (by omega)) (paired_take n (paired_drop m cv3.lp)) FrV.ex
  generalize hcols : (List.range m).map (colQ R' b') = cols at *
  generalize hwh : sumQ cols = wh at *
  generalize hrows : (l'.drop m).take n = rows at *
  have clen : cols.length = m := by rw [← hcols, List.length_map, List.length_range]
  have rlen : rows.length ≤ 64 := by rw [← hrows, List.length_take]; omega
  refine sq (s_parG gcols grows (fun v Ha Hb e p => p.mono FrV.ex e) fun vc vr H4 e4 hc hr' => ?_)
  have hc4 := hc.ls
  have hr4 := hr'.ls
  have b47 : 2 ^ 2047 < 2 ^ 2048 := Nat.pow_lt_pow_right (by decide) (by decide)
  have db : d < 2 ^ 2048 := Nat.lt_of_le_of_lt dle b47
  have gw : Gv (tCall (spSum K) [] E0 (tCons (tVar 4) tNil)) [some (.ref am), some (.int n), some (.int m), some (.ref x), some vc, some vr, none, none, none] H4 (fun v H5 => FrV K H5 v wh) := by
    refine gv_call (B := fun vs' _ => vs' = [vc]) (fun H5' e5 Q q => ea_cons (ev_var (H := H4) rfl) ea_nil H5' e5 Q fun H6 e6 => q _ H6 e6 rfl) fun vs' H6 e6 hv' Q E q' => ?_
    subst hv'
    refine ⟨vc, cols, d, 2 ^ 2047, 2100, rfl, .inl (hc4.mono (fun v x r => r.mono (ExT.of e6)) e6), cCd, d0, Nat.lt_of_lt_of_le db (Nat.pow_le_pow_right (by decide) (by decide)), ?_, by decide, fun u H7 e7 hu => q' u H7 e7 (by rw [← hwh]; exact hu)⟩
    rw [clen]
    have h1 : (m + 1) * 2 ^ 2047 ≤ 2 ^ 7 * 2 ^ 2047 := Nat.mul_le_mul_right _ (by have : 2 ^ 7 = 128 := rfl; omega)
    rw [← Nat.pow_add] at h1
    exact Nat.lt_of_le_of_lt h1 (Nat.pow_lt_pow_right (by decide) (by decide))
  refine sq (s_asgG gw fun vw H5 e5 hw => ?_)
  have bo : Bits (1 : Rat) 1 := ⟨by decide, by decide⟩
  have bw : Bits wh 2048 := wCd.bits d0 db b47
  have wne : wh ≠ 0 := fun z => by rw [z] at w0; exact absurd w0 (by decide)
  have gv : Gv (tCall (spFr2 K (· - ·) CY) [] E0 (tCons (tCall (spFr2 K (· / ·) fun _ q => q ≠ 0) [] E0 (tCons (tC (.ref aW)) (tCons (tVar 6) tNil))) (tCons (tC (.ref aW)) tNil))) [some (.ref am), some (.int n), some (.int m), some (.ref x), some vc, some vr, some vw, none, none] H5 (fun v H6 => FrV K H6 v (1 / wh - 1)) := by
    have gd : Gv (tCall (spFr2 K (· / ·) fun _ q => q ≠ 0) [] E0 (tCons (tC (.ref aW)) (tCons (tVar 6) tNil))) [some (.ref am), some (.int n), some (.int m), some (.ref x), some vc, some vr, some vw, none, none] H5 (fun v H6 => FrV K H6 v (1 / wh)) := by
      refine gv_call (B := fun vs' _ => vs' = [.ref aW, vw]) (fun H5' e5 Q q => ea_cons (ev_c (H := H5)) (ea_cons (ev_var rfl) ea_nil) H5' e5 Q fun H6 e6 => q _ H6 e6 rfl) fun vs' H6 e6 hv' Q E q' => ?_
      subst hv'
      exact ⟨_, _, 1, wh, 1, 2048, rfl, fW H6, hw.mono (ExT.of e6), bo, bw, by decide, wne, fun u H7 e7 hu => q' u H7 e7 hu⟩
    refine gv_call (ga_cons gd (ga_cons (gv_c1 (v := .ref aW)) ga_nil (fun _ _ _ _ h => h)) (fun v Ha Hb e p => FrV.ex _ _ _ _ e p)) fun vs' H6 e6 ⟨v1, r1, ev1, f1, v2, r2, ev2, f2, er⟩ Q E q' => ?_
    subst ev1 ev2 er f2
    exact ⟨_, _, 1 / wh, 1, 1 + 2048, 1, rfl, f1, fW H6, bo.div bw wne, bo, by decide, True.intro, fun u H7 e7 hu => q' u H7 e7 hu⟩
  refine sq (s_asgG gv fun vv H6 e6 hvv => ?_)
  have hw6 := hw.mono (ExT.of e6)
  have lists : ∀ (i : Nat) (xs : List Rat) (vx : V), ([some (.ref am), some (.int n), some (.int m), some (.ref x), some vc, some vr, some vw, some vv, none] : L2.St)[i]? = some (some vx) → i < 8 → LsV FrV K H6 vx xs → xs.length ≤ 64 → (∀ q ∈ xs, Cd d (2 ^ 2047) q) →
      Gv (tCB (fun xs H Q => ∃ p ys, xs = [.ref p] ∧ ((SqL K H p ys ∧ ∀ l, H l = none → Q (.ref l) (upd H l (.tup ys))) ∨ (SqT K H p ys ∧ Q (.ref p) H))) (tCons (tLc (iList K (tVar i)) (gName 8) tYes (tCall (spFr2 K (· / ·) fun _ q => q ≠ 0) [] E0 (tCons (tVar 8) (tCons (tVar 6) tNil))) [8]) tNil)) [some (.ref am), some (.int n), some (.int m), some (.ref x), some vc, some vr, some vw, some vv, none] H6
        (NwT FrV K H6 (xs.map (· / wh))) := by
    intro i xs vx hi hi8 ⟨ax, wx, evx, hax, hpx⟩ hlen hCd
    subst evx
    have ev : Ev (tVar i) (wipe [some (.ref am), some (.int n), some (.int m), some (.ref x), some vc, some vr, some vw, some vv, none] []) H6 (.ref ax) := ev_var hi
    have lc := gv_lc (R := FrV) (K := K) (g := gName 8) (te := tCall (spFr2 K (· / ·) fun _ q => q ≠ 0) [] E0 (tCons (tVar 8) (tCons (tVar 6) tNil))) (vs := [8]) (σ := [some (.ref am), some (.int n), some (.int m), some (.ref x), some vc, some vr, some vw, some vv, none]) (H := H6)
      (gi_list (K := K) (ev_var hi) hax hpx FrV.ex).gn (by omega) (fun k => xs.getD k 0 / wh) (fun _ _ _ _ e r => r.mono e)
      (fun k y H7 Q1 hk e7 ⟨z, hz, fz⟩ kk => by
        refine kk [some (.ref am), some (.int n), some (.int m), some (.ref x), some vc, some vr, some vw, some vv, some y] H7 (Ex.refl _) rfl ?_
        rw [getD_of hz]
        refine gv_call (B := fun vs' _ => vs' = [y, vw]) (fun H5' e5 Q q => ea_cons (ev_var (H := H7) rfl) (ea_cons (ev_var rfl) ea_nil) H5' e5 Q fun H6 e6 => q _ H6 e6 rfl) fun vs' H8 e8 hv' Q E q' => ?_
        subst hv'
        exact ⟨_, _, z, wh, 2048, 2048, rfl, fz.mono (ExT.of e8), hw6.mono (ExT.of (e7.trans e8)), (hCd z (List.mem_of_getElem? hz)).bits d0 db b47, bw, by decide, wne, fun u H9 e9 hu => q' u H9 e9 hu⟩)
    rw [map_range xs 0 (fun x => x / wh)] at lc
    exact gv_tupleOf lc FrV.ex
  have t1 := lists 5 rows vr rfl (by decide) (hr4.mono (fun v x r => r.mono (ExT.of (e5.trans e6))) (e5.trans e6)) rlen rCd
  have t2 := lists 4 cols vc rfl (by decide) (hc4.mono (fun v x r => r.mono (ExT.of (e5.trans e6))) (e5.trans e6)) (by omega) cCd
  have fin := gv_tup (ga_cons (gv_var1 (σ := [some (.ref am), some (.int n), some (.int m), some (.ref x), some vc, some vr, some vw, some vv, none]) (H := H6) (i := 7) (v := vv) rfl) (ga_cons t1 (ga_cons t2 ga_nil (fun v Ha Hb e p => p.imp fun D ⟨vs, h1, h2, h3, h4⟩ => ⟨vs, h1, h2, e _ _ h3, L2.Paired.mapP h4 fun v x r => FrV.ex _ _ _ _ e r⟩)) (fun v Ha Hb e p => p.imp fun D ⟨vs, h1, h2, h3, h4⟩ => ⟨vs, h1, h2, e _ _ h3, L2.Paired.mapP h4 fun v x r => FrV.ex _ _ _ _ e r⟩)) (fun _ _ _ _ h => h))
    (fun vs' H' ⟨v1, r1, e1, _, v2, r2, e2, _, v3, r3, e3, _, e5⟩ => by rw [e1, e2, e3, e5]; show 3 ≤ 100000; decide)
  refine s_retG fin fun v H7 e7 ⟨p, vs', H8, ev, hp0', hp1, e8, v1, r1, ev1, f1, v2, r2, ev2, f2, v3, r3, ev3, f3', ev4⟩ => ?_
  subst ev ev1 ev2 ev3 ev4 f1
  refine k _ H7 (1 / wh - 1, rows.map (· / wh), cols.map (· / wh)) ?_ ⟨p, v1, v2, v3, rfl, st_of hp1, hvv.mono (ExT.of e7), RoV.ex _ _ _ _ e8 f2.tu, RoV.ex _ _ _ _ e8 f3'.tu⟩ told
  exact (((((e1.trans cv3.ex).trans e4).trans e5).trans e6).trans e7)
end
end Mx
end
section
set_option Elab.async false
set_option linter.all false
set_option maxRecDepth 100000
set_option maxHeartbeats 4000000
/-! zip over any number of tuples, at the library's level; list over it. -/
namespace Zn
open PySem
open PySem.Sem (wp)
section
variable {M : Model} {A : Around} {E : Value → Shared → Prop}
/-- a loop over a list, its word by turn, carried value and state -/
theorem forIn_inv {α β : Type} {f : α → β → Sem (ForInStep β)} (I : Nat → β → Shared → Prop) {Q : β → Shared → Prop} :
    ∀ (l : List α) (k : Nat) (b : β) (s : Shared), I k b s → (∀ i a b s, l[i]? = some a → I (k + i) b s → wpAny M A (f a b) (fun r s' => ∃ b', r = .yield b' ∧ I (k + i + 1) b' s') E s) → (∀ b s, I (k + l.length) b s → Q b s) → wpAny M A (forIn l b f) Q E s
  | [], k, b, s, h, _, hQ => by
    simp only [List.forIn_nil]
    exact wpAny_pure (hQ b s h)
  | a :: l, k, b, s, h, hs, hQ => by
    simp only [List.forIn_cons]
    refine wpAny_bind (wpAny_mono (hs 0 a b s rfl h) (fun r s' hr => ?_) fun _ _ x => x)
    obtain ⟨b', rfl, h'⟩ := hr
    refine forIn_inv I l (k + 1) b' s' h' (fun i a b s e h2 => ?_) (fun b s h2 => ?_)
    · have := hs (i + 1) a b s (by simpa using e) (by rw [show k + (i + 1) = k + 1 + i by omega]; exact h2)
      rw [show k + 1 + i + 1 = k + (i + 1) + 1 by omega]; exact this
    · exact hQ b s (by rw [List.length_cons, show k + (l.length + 1) = k + 1 + l.length by omega]; exact h2)
end
/-- the iterators' addresses -/
def its (b n : Nat) : List Value := (List.range n).map fun k => Value.ref (b + k)
theorem its_len (b n : Nat) : (its b n).length = n := by unfold its; simp
theorem its_get (b n k : Nat) (h : k < n) : (its b n)[k]? = some (.ref (b + k)) := by unfold its; simp [h]
section
variable {prog : Program} {w : World} {A : Around} {E : Value → Shared → Prop} {s : Shared}
theorem iterAll_tuples {ts : List Addr} {xs : Nat → Array Value} {Q : List Value → Shared → Prop} (ht : ∀ (k : Nat) (t : Addr), ts[k]? = some t → s.heap.IsTuple t (xs k))
    (h : ∀ h', (∀ (k : Nat) (t : Addr), ts[k]? = some t → h'.IsTupleIter (s.heap.objs.size + k) t 0) → h'.objs.size = s.heap.objs.size + ts.length → (∀ c o, s.heap.get? c = some o → h'.get? c = some o) → Q (its s.heap.objs.size ts.length) { s with heap := h' }) :
    wpAny (model prog w) A (Builtin.SmallTypes.iterAll (ts.map Value.ref)) Q E s := by
  unfold Builtin.SmallTypes.iterAll
  refine wpAny_bind ?_
  refine forIn_inv (fun i (acc : Array Value) s' => acc.toList = its s.heap.objs.size i ∧ ∃ h', s' = { s with heap := h' } ∧ (∀ (k : Nat) (t : Addr), k < i → ts[k]? = some t → h'.IsTupleIter (s.heap.objs.size + k) t 0) ∧ h'.objs.size = s.heap.objs.size + i ∧ (∀ c o, s.heap.get? c = some o → h'.get? c = some o))
    (ts.map Value.ref) 0 #[] s ⟨rfl, s.heap, rfl, fun k t hk => absurd hk (Nat.not_lt_zero _), rfl, fun _ _ e => e⟩ ?_ ?_
  · rintro i x acc s' hx ⟨hacc, h1, rfl, hit, hsz, hk⟩
    rw [List.getElem?_map] at hx
    obtain ⟨t, et, rfl⟩ : ∃ t, ts[i]? = some t ∧ Value.ref t = x := by
      cases e : ts[i]? with
      | none => rw [e] at hx; cases hx
      | some t => rw [e] at hx; exact ⟨t, rfl, Option.some.inj hx⟩
    obtain ⟨o, ho, r⟩ := ht i t et
    have htup : (Shared.heap { s with heap := h1 }).IsTuple t (xs i) := ⟨o, hk _ _ ho, r⟩
    refine wpAny_bind (wpAny_holding (wpAny_pyIter_tuple htup (wpAny_pure ⟨_, rfl, ?_, _, rfl, fun k t' hlt e => ?_, ?_, fun c o e => Heap.get?_push_of_some _ (hk c o e)⟩)))
    · show (acc.push _).toList = _
      rw [Array.toList_push, hacc]
      unfold its
      rw [Nat.zero_add, List.range_succ, List.map_append]
      show _ ++ [Value.ref h1.objs.size] = _
      rw [hsz, Nat.zero_add]; rfl
    · rw [Nat.zero_add] at hlt hit
      by_cases z : k < i
      · obtain ⟨o', ho', r'⟩ := hit k t' z e
        exact ⟨o', Heap.get?_push_of_some _ ho', r'⟩
      · have z' : k = i := by omega
        subst z'
        rw [et] at e
        cases e
        rw [Nat.zero_add] at hsz
        show Heap.IsTupleIter (h1.push _) (s.heap.objs.size + k) t 0
        rw [← hsz]
        exact ⟨_, Heap.get?_push_size _ rfl, rfl, rfl⟩
    · rw [Heap.size_push]; show h1.objs.size + 1 = _; rw [hsz]; omega
  · rintro acc s' ⟨hacc, h1, rfl, hit, hsz, hk⟩
    rw [Nat.zero_add, List.length_map] at hacc hsz
    refine wpAny_pure ?_
    rw [hacc]
    exact h h1 (fun k t e => hit k t (by rw [Nat.zero_add, List.length_map]; exact (List.getElem?_eq_some_iff.mp e).1) e) hsz hk
/-- the zip at its place: n iterators from b on, then the tuple of them, the tuple that it keeps, itself -/
structure Zip (h : Heap) (b : Nat) (ts : List Addr) (j : Nat) (f0 f1 : Value) : Prop where
  rec_ : h.get? (b + ts.length + 2) = some { cls := .type "zip", dict := none, data := .fields #[f0, f1, .bool false, .ref (b + ts.length), .ref (b + ts.length + 1)], slots := #[] }
  ti : h.get? (b + ts.length) = some { cls := .type "tuple", data := .seq (its b ts.length).toArray }
  it : ∀ (k : Nat) (t : Addr), ts[k]? = some t → h.IsTupleIter (b + k) t j
theorem newClass_zip {vs : List Value} {Q : Value × List Value → Shared → Prop} (h : Q (.type "zip", vs) s) : wpAny (model prog w) A (Builtin.SmallTypes.newClass "zip" ⟨.type "zip" :: vs, []⟩) Q E s := by
  unfold Builtin.SmallTypes.newClass
  have hsub := sub_zip
  wp_walk
  exact h
theorem new_zip {ts : List Addr} {xs : Nat → Array Value} (h1 : ts.length ≤ 1000) {Q : Fin → Shared → Prop} (ht : ∀ (k : Nat) (t : Addr), ts[k]? = some t → s.heap.IsTuple t (xs k))
    (h : ∀ h', Zip h' s.heap.objs.size ts 0 .none (.bool false) → h'.get? (s.heap.objs.size + ts.length + 1) = some { cls := .type "tuple", data := .seq (List.replicate ts.length Value.none).toArray } → h'.objs.size = s.heap.objs.size + ts.length + 3 →
      (∀ c o, s.heap.get? c = some o → h'.get? c = some o) → Q (.done (.ret (.ref (s.heap.objs.size + ts.length + 2)))) { s with heap := h' }) :
    wpAny (model prog w) A (Builtin.«zip.__new__» ⟨.type "zip" :: ts.map Value.ref, []⟩) Q E s := by
  unfold Builtin.«zip.__new__»
  refine wpAny_bind (newClass_zip ?_)
  dsimp only
  rw [if_neg (by decide)]
  refine wpAny_bind (iterAll_tuples ht fun h1' hit hsz hk => ?_)
  have hz : sizeLine = 10000000 ∨ True := .inr trivial
  refine wpAny_bind (wpAny_newTuple ?_ (by rw [its_len]; exact Nat.le_trans h1 (by decide)))
  refine wpAny_bind (wpAny_newTuple ?_ (by rw [List.length_map, its_len]; exact Nat.le_trans h1 (by decide)))
  refine wpAny_bind ?_
  unfold Builtin.SmallTypes.newRecord
  refine wpAny_newObj_type ?_ (by show 5 ≤ sizeLine + 2; decide)
  have n1 : (s.heap.objs.size + ts.length) = h1'.objs.size := hsz.symm
  refine wpAny_pure ?_
  generalize hA : h1'.push { cls := .type "tuple", data := .seq (its s.heap.objs.size ts.length).toArray } = hpA
  have szA : hpA.objs.size = s.heap.objs.size + ts.length + 1 := by rw [← hA, Heap.size_push, hsz]
  have eM : (its s.heap.objs.size ts.length).map (fun _ => Value.none) = List.replicate ts.length Value.none := by
    unfold its; rw [List.map_map]
    exact List.eq_replicate_iff.mpr ⟨by simp, fun b hb => by obtain ⟨_, _, rfl⟩ := List.mem_map.mp hb; rfl⟩
  rw [eM]
  generalize hB : hpA.push { cls := .type "tuple", data := .seq (List.replicate ts.length Value.none).toArray } = hpB
  have szB : hpB.objs.size = s.heap.objs.size + ts.length + 2 := by rw [← hB, Heap.size_push, szA]
  have gA : hpA.get? (s.heap.objs.size + ts.length) = some { cls := .type "tuple", data := .seq (its s.heap.objs.size ts.length).toArray } := by rw [← hA, n1]; exact Heap.get?_push_size _ rfl
  have gB : hpB.get? (s.heap.objs.size + ts.length + 1) = some { cls := .type "tuple", data := .seq (List.replicate ts.length Value.none).toArray } := by rw [← hB, ← szA]; exact Heap.get?_push_size _ rfl
  have kA : ∀ c o, h1'.get? c = some o → hpA.get? c = some o := fun c o e => by rw [← hA]; exact Heap.get?_push_of_some _ e
  have kB : ∀ c o, hpA.get? c = some o → hpB.get? c = some o := fun c o e => by rw [← hB]; exact Heap.get?_push_of_some _ e
  show Q (.done (.ret (.ref hpB.objs.size))) _
  rw [szB]
  refine h _ ⟨?_, Heap.get?_push_of_some _ (kB _ _ gA), fun k t e => ?_⟩ (Heap.get?_push_of_some _ gB) (by rw [Heap.size_push, szB]) fun c o e => Heap.get?_push_of_some _ (kB _ _ (kA _ _ (hk c o e)))
  · rw [← szB]
    show Heap.get? (hpB.push { cls := .type "zip", data := .fields #[.none, .bool false, .bool false, .ref h1'.objs.size, .ref hpA.objs.size] }) hpB.objs.size = _
    rw [hsz, szA]
    exact Heap.get?_push_size _ rfl
  · obtain ⟨o, ho, r⟩ := hit k t e
    exact ⟨o, Heap.get?_push_of_some _ (kB _ _ (kA _ _ ho)), r⟩
theorem call_zip {ts : List Addr} {xs : Nat → Array Value} (h1 : ts.length ≤ 1000) (h0 : ts ≠ []) {Q : Value → Shared → Prop} (ht : ∀ (k : Nat) (t : Addr), ts[k]? = some t → s.heap.IsTuple t (xs k))
    (h : ∀ h', Zip h' s.heap.objs.size ts 0 .none (.bool false) → h'.get? (s.heap.objs.size + ts.length + 1) = some { cls := .type "tuple", data := .seq (List.replicate ts.length Value.none).toArray } → h'.objs.size = s.heap.objs.size + ts.length + 3 →
      (∀ c o, s.heap.get? c = some o → h'.get? c = some o) → Q (.ref (s.heap.objs.size + ts.length + 2)) { s with heap := h' }) :
    wpAny (model prog w) A (call (.type "zip") (ts.map Value.ref)) Q E s := by
  have hct : checkTypeCall "zip" ⟨ts.map Value.ref, []⟩ = pure () := by kernel_rfl
  have hcn : checkBuiltinCall "zip.__new__" ⟨.type "zip" :: ts.map Value.ref, []⟩ = pure () := by
    cases ts with
    | nil => exact absurd rfl h0
    | cons t r => rw [List.map_cons]; generalize r.map Value.ref = vs; kernel_rfl
  have hok : ∀ obj, argsOk "object.__init__" ⟨obj :: ts.map Value.ref, []⟩ := fun obj => by
    unfold argsOk; rw [signature?_of (id := "object.__init__") (n := ['_', '_', 't', 'i', 'n', 'i', '_', '_']) (o := ['t', 'c', 'e', 'j', 'b', 'o']) (by kernel_rfl) F.owner_object]; kernel_rfl
  refine callType_new F.called_zip (by decide) hct hcn hok F.entry_zip_new (S := fun _ R s1 => s1 = s ∧ ∀ h', Zip h' s.heap.objs.size ts 0 .none (.bool false) → h'.get? (s.heap.objs.size + ts.length + 1) = some { cls := .type "tuple", data := .seq (List.replicate ts.length Value.none).toArray } → h'.objs.size = s.heap.objs.size + ts.length + 3 →
      (∀ c o, s.heap.get? c = some o → h'.get? c = some o) → R (.ok (.ret (.ref (s.heap.objs.size + ts.length + 2)))) { s with heap := h' }) (fun prog w A R s1 ⟨e, hs⟩ => ?_) ⟨rfl, fun h' z to sz k => ⟨⟨_, z.rec_, rfl⟩, h h' z to sz k⟩⟩
  subst e
  exact new_zip h1 ht fun h' z to sz k => hs h' z to sz k
end
end Zn
end
section
set_option Elab.async false
set_option linter.all false
set_option maxRecDepth 100000
set_option maxHeartbeats 4000000
/-! next of a zip over any number of tuples. -/
namespace Zn
open PySem
open PySem.Sem (wp)
section
variable {prog : Program} {w : World} {A : Around} {E : Value → Shared → Prop} {s : Shared}
def Out (b n : Nat) (h h' : Heap) : Prop := ∀ (c : Nat) o, (c < b ∨ b + n + 2 < c) → h.get? c = some o → h'.get? c = some o
theorem ne_of {a c : Nat} (h : a ≠ c) : (a : Addr) ≠ (c : Addr) := h
theorem itAt {h h' : Heap} {a t : Addr} {i : Nat} (x : h.IsTupleIter a t i) (e : ∀ o, h.get? a = some o → h'.get? a = some o) : h'.IsTupleIter a t i := let ⟨o, ho, r⟩ := x; ⟨o, e _ ho, r⟩
theorem next_free {b : Nat} {ts : List Addr} {j : Nat} {xs : Nat → Array Value} {col : Nat → Value} {f1 : Value} {old : List Value} {Q : Value → Shared → Prop} (h1 : ts.length ≤ 1000) (n0 : ts ≠ []) (hz : Zip s.heap b ts j .none f1)
    (hTO : s.heap.get? (b + ts.length + 1) = some { cls := .type "tuple", data := .seq old.toArray }) (ho : old.length = ts.length) (hlt : ∀ (k : Nat) (t : Addr), ts[k]? = some t → t < b ∧ s.heap.IsTuple t (xs k)) (hx : ∀ k, k < ts.length → (xs k)[j]? = some (col k))
    (hQ : ∀ h', Zip h' b ts (j + 1) (rawInt s.heap.objs.size) (.bool false) → h'.get? s.heap.objs.size = some { cls := .type "tuple", data := .seq ((List.range ts.length).map col).toArray } → h'.objs.size = s.heap.objs.size + 1 → Out b ts.length s.heap h' → Q (.ref s.heap.objs.size) { s with heap := h' }) :
    wpAny (model prog w) A (Builtin.«zip.__next__» ⟨[.ref (b + ts.length + 2)], []⟩) (fun fin s' => ∃ v, fin = .done (.ret v) ∧ Q v s') E s := by
  obtain ⟨hrec, hTI, hit⟩ := hz
  show wpAny _ _ (field (.ref (b + ts.length + 2)) 2 >>= _) _ _ _
  refine wpAny_bind (wpAny_field hrec rfl (x := .bool false) rfl ?_)
  show wpAny _ _ (field (.ref (b + ts.length + 2)) 3 >>= _) _ _ _
  refine wpAny_bind (wpAny_field hrec rfl (x := .ref (b + ts.length)) rfl ?_)
  refine wpAny_bind (wpAny_seqItems hTI rfl ?_)
  have ne : (its b ts.length).toArray.isEmpty = false := by
    have : 0 < ts.length := List.length_pos_iff.mpr n0
    rw [Array.isEmpty_eq_false_iff_exists_mem]
    exact ⟨.ref (b + 0), by rw [List.mem_toArray]; exact List.mem_of_getElem? (its_get b ts.length 0 this)⟩
  dsimp only
  rw [ne]
  show wpAny _ _ (Builtin.SmallTypes.ownedTupleIsFree (.ref (b + ts.length + 2)) >>= _) _ _ _
  refine wpAny_bind ?_
  unfold Builtin.SmallTypes.ownedTupleIsFree
  refine wpAny_bind (wpAny_field hrec rfl (x := .none) rfl (wpAny_pure ?_))
  simp only [if_true]
  refine wpAny_bind (wpAny_rule ?_)
  refine wpAny_bind (wpAny_field hrec rfl (x := .ref (b + ts.length + 1)) rfl ?_)
  refine wpAny_bind (wpAny_setField_rec hrec (by simp) fun h₁ hz₁ hs₁ => ?_)
  refine wpAny_bind ?_
  have hz₁' : h₁.get? (b + ts.length + 2) = some { cls := .type "zip", dict := none, data := .fields #[.ellipsis, f1, .bool false, .ref (b + ts.length), .ref (b + ts.length + 1)], slots := #[] } := hz₁
  have hs1 : h₁.objs.size = s.heap.objs.size := hs₁.1
  refine forIn_inv (fun i (r : Option Fin × Unit) s' => r = (none, ()) ∧ ∃ h cur, s' = { s with heap := h } ∧ h.get? (b + ts.length + 2) = some { cls := .type "zip", dict := none, data := .fields #[.ellipsis, f1, .bool false, .ref (b + ts.length), .ref (b + ts.length + 1)], slots := #[] } ∧
      h.get? (b + ts.length) = some { cls := .type "tuple", data := .seq (its b ts.length).toArray } ∧ h.get? (b + ts.length + 1) = some { cls := .type "tuple", data := .seq (cur : List Value).toArray } ∧ cur.length = ts.length ∧ (∀ (k : Nat), k < i → k < ts.length → cur[k]? = some (col k)) ∧
      (∀ (k : Nat) (t : Addr), ts[k]? = some t → h.IsTupleIter (b + k) t (if k < i then j + 1 else j)) ∧ h.objs.size = s.heap.objs.size ∧ Out b ts.length s.heap h) _ 0 _ _ ⟨rfl, h₁, old, rfl, hz₁', hs₁.extBut _ _ (ne_of (by omega)) hTI, hs₁.extBut _ _ (ne_of (by omega)) hTO, ho, fun k hk => absurd hk (Nat.not_lt_zero _), fun k t e => ?_, hs1, fun c o hc e => hs₁.extBut _ _ (ne_of (by omega)) e⟩ ?_ ?_
  · rw [if_neg (Nat.not_lt_zero _)]
    have hk := (List.getElem?_eq_some_iff.mp e).1
    exact itAt (hit k t e) fun o q => hs₁.extBut _ _ (ne_of (show b + k ≠ b + ts.length + 2 by omega)) q
  · rintro i ⟨it, k⟩ r s' hx' ⟨rfl, h, cur, rfl, hr, hti, hto, hcl, hcur, hits, hsz, hout⟩
    rw [List.getElem?_zipIdx] at hx'
    have hin : i < ts.length := by
      by_cases z : i < ts.length
      · exact z
      · rw [List.getElem?_eq_none (by rw [its_len]; omega)] at hx'; cases hx'
    rw [its_get b ts.length i hin] at hx'
    simp only [Option.map_some, Option.some.injEq, Prod.mk.injEq, Nat.zero_add] at hx'
    obtain ⟨rfl, rfl⟩ := hx'
    rw [Nat.zero_add] at hcur hits
    obtain ⟨t, et⟩ : ∃ t, ts[i]? = some t := ⟨ts[i], by simp [hin]⟩
    obtain ⟨tl, ⟨oT, hoT, rT⟩⟩ := hlt i t et
    have hitI := hits i t et
    rw [if_neg (Nat.lt_irrefl i)] at hitI
    have htup : h.IsTuple t (xs i) := ⟨oT, hout t oT (.inl tl) hoT, rT⟩
    dsimp only
    refine wpAny_bind (wpAny_onRaise ?_)
    show wpAny _ _ (Builtin.SmallTypes.nextOf (.ref (b + i)) >>= _) _ _ _
    refine wpAny_bind (RZ.nextOf_tuple_item (s := { s with heap := h }) hitI htup (hx i hin) fun h₂ hit₂ hs₂ => wpAny_pure ?_)
    replace hs₂ : Heap.SameBut (b + i) h h₂ := hs₂
    have hto₂ := hs₂.extBut _ _ (ne_of (show b + ts.length + 1 ≠ b + i by omega)) hto
    dsimp only
    refine wpAny_bind (wpAny_seqItems hto₂ rfl ?_)
    dsimp only
    have hsl : cur.toArray.size ≤ sizeLine := by rw [List.size_toArray, hcl]; exact Nat.le_trans h1 (by decide)
    refine wpAny_bind (wpAny_updateSeq hto₂ rfl ?_ hsl (by rw [Array.size_setIfInBounds]; exact Nat.le_succ_of_le hsl))
    have eu := Heap.get?_update_self (f := Obj.mapSeq fun x => x.setIfInBounds i (col i)) hto₂ rfl
    have su : Heap.SameBut (b + ts.length + 1) h₂ (h₂.update (b + ts.length + 1) (Obj.mapSeq fun x => x.setIfInBounds i (col i))) := Heap.SameBut.update ..
    generalize h₂.update (b + ts.length + 1) (Obj.mapSeq fun x => x.setIfInBounds i (col i)) = h₃ at eu su ⊢
    refine wpAny_bind (wpAny_letGo (wpAny_pure ⟨_, rfl, rfl, h₃, cur.set i (col i), rfl, su.extBut _ _ (ne_of (show b + ts.length + 2 ≠ b + ts.length + 1 by omega)) (hs₂.extBut _ _ (ne_of (show b + ts.length + 2 ≠ b + i by omega)) hr), su.extBut _ _ (ne_of (show b + ts.length ≠ b + ts.length + 1 by omega)) (hs₂.extBut _ _ (ne_of (show b + ts.length ≠ b + i by omega)) hti), ?_, by rw [List.length_set]; exact hcl, fun k hk hkn => ?_, fun k t' e => ?_, by rw [su.1, hs₂.1]; exact hsz, fun c o hc e => su.extBut _ _ (ne_of (by omega)) (hs₂.extBut _ _ (ne_of (by omega)) (hout c o hc e))⟩))
    · rw [eu]
      simp [Obj.mapSeq]
    · rw [Nat.zero_add] at hk
      by_cases z : k = i
      · rw [z, List.getElem?_set_self (by omega)]
      · rw [List.getElem?_set_ne (fun q => z q.symm)]; exact hcur k (by omega) hkn
    · have hk := (List.getElem?_eq_some_iff.mp e).1
      by_cases z : k = i
      · subst z
        rw [et] at e; cases e
        rw [if_pos (by omega)]
        exact itAt hit₂ fun o q => su.extBut _ _ (ne_of (show b + k ≠ b + ts.length + 1 by omega)) q
      · have q0 := hits k t' e
        have e2 : (if k < 0 + i + 1 then j + 1 else j) = if k < i then j + 1 else j := by
          by_cases y : k < i
          · rw [if_pos y, if_pos (by omega)]
          · rw [if_neg y, if_neg (by omega)]
        rw [e2]
        exact itAt q0 fun o q => su.extBut _ _ (ne_of (show b + k ≠ b + ts.length + 1 by omega)) (hs₂.extBut _ _ (ne_of (show b + k ≠ b + i by omega)) q)
  · rintro r s' ⟨rfl, h, cur, rfl, hr, hti, hto, hcl, hcur, hits, hsz, hout⟩
    rw [Nat.zero_add, List.length_zipIdx, its_len] at hcur hits
    dsimp only
    refine wpAny_bind (wpAny_seqItems hto rfl ?_)
    dsimp only
    have ec : cur = (List.range ts.length).map col := by
      apply List.ext_getElem?
      intro k
      by_cases hk : k < ts.length
      · rw [hcur k hk hk]; simp [hk]
      · rw [List.getElem?_eq_none (by omega), List.getElem?_eq_none (by simpa using hk)]
    subst ec
    refine wpAny_bind (wpAny_newTuple ?_ (by show ((List.range ts.length).map col).toArray.toList.length ≤ _; simp; exact Nat.le_trans h1 (by decide)))
    have hr₂ : (h.push { cls := .type "tuple", data := .seq ((List.range ts.length).map col).toArray.toList.toArray }).get? (b + ts.length + 2) = some { cls := .type "zip", dict := none, data := .fields #[.ellipsis, f1, .bool false, .ref (b + ts.length), .ref (b + ts.length + 1)], slots := #[] } := Heap.get?_push_of_some _ hr
    have hT : (h.push { cls := .type "tuple", data := .seq ((List.range ts.length).map col).toArray.toList.toArray }).get? h.objs.size = some { cls := .type "tuple", data := .seq ((List.range ts.length).map col).toArray } := Heap.get?_push_size _ rfl
    have hS : (h.push { cls := .type "tuple", data := .seq ((List.range ts.length).map col).toArray.toList.toArray }).objs.size = h.objs.size + 1 := Heap.size_push ..
    have hK : ∀ c o, h.get? c = some o → (h.push { cls := .type "tuple", data := .seq ((List.range ts.length).map col).toArray.toList.toArray }).get? c = some o := fun c o e => Heap.get?_push_of_some _ e
    generalize h.push { cls := .type "tuple", data := .seq ((List.range ts.length).map col).toArray.toList.toArray } = h₄ at hr₂ hT hS hK ⊢
    refine wpAny_bind ?_
    unfold Builtin.SmallTypes.ownedTupleHandOut
    refine wpAny_bind (wpAny_setField_rec hr₂ (by simp) fun h₅ hr₅ hs₅ => ?_)
    have hr₅' : h₅.get? (b + ts.length + 2) = some { cls := .type "zip", dict := none, data := .fields #[rawInt h.objs.size, f1, .bool false, .ref (b + ts.length), .ref (b + ts.length + 1)], slots := #[] } := hr₅
    refine wpAny_setField_rec hr₅' (by simp) fun h₆ hr₆ hs₆ => ?_
    replace hs₅ : Heap.SameBut (b + ts.length + 2) h₄ h₅ := hs₅
    replace hs₆ : Heap.SameBut (b + ts.length + 2) h₅ h₆ := hs₆
    have hr₆' : h₆.get? (b + ts.length + 2) = some { cls := .type "zip", dict := none, data := .fields #[rawInt h.objs.size, .bool false, .bool false, .ref (b + ts.length), .ref (b + ts.length + 1)], slots := #[] } := hr₆
    have K : ∀ (c : Nat) o, c ≠ b + ts.length + 2 → h.get? c = some o → h₆.get? c = some o := fun c o n e => hs₆.extBut _ _ (ne_of n) (hs₅.extBut _ _ (ne_of n) (hK c o e))
    have big : b + ts.length + 2 < h.objs.size := Heap.lt_size hr
    refine wpAny_pure ⟨_, rfl, ?_⟩
    show Q (.ref h.objs.size) _
    rw [hsz] at big hr₆' hT hS ⊢
    refine hQ h₆ ⟨hr₆', K _ _ (by omega) hti, fun k t e => ?_⟩ (hs₆.extBut _ _ (ne_of (by omega)) (hs₅.extBut _ _ (ne_of (by omega)) hT)) (by rw [hs₆.1, hs₅.1, hS]) fun c o hc e => K c o (by omega) (hout c o hc e)
    have q := hits k t e
    have hk := (List.getElem?_eq_some_iff.mp e).1
    rw [if_pos hk] at q
    exact itAt q fun o q => K _ _ (by omega) q
/-- while the tuple T that was given out is still there -/
theorem next_held {b : Nat} {ts : List Addr} {j : Nat} {xs : Nat → Array Value} {col : Nat → Value} {T : Nat} {f : Bool} {oT : Obj} {Q : Value → Shared → Prop} (h1 : ts.length ≤ 1000) (n0 : ts ≠ []) (hz : Zip s.heap b ts j (rawInt T) (.bool f)) (hT : s.heap.get? T = some oT)
    (hlt : ∀ (k : Nat) (t : Addr), ts[k]? = some t → t < b ∧ s.heap.IsTuple t (xs k)) (hx : ∀ k, k < ts.length → (xs k)[j]? = some (col k))
    (hQ : ∀ h', Zip h' b ts (j + 1) (rawInt T) (.bool true) → h'.get? s.heap.objs.size = some { cls := .type "tuple", data := .seq ((List.range ts.length).map col).toArray } → h'.objs.size = s.heap.objs.size + 1 → Out b ts.length s.heap h' → Q (.ref s.heap.objs.size) { s with heap := h' }) :
    wpAny (model prog w) A (Builtin.«zip.__next__» ⟨[.ref (b + ts.length + 2)], []⟩) (fun fin s' => ∃ v, fin = .done (.ret v) ∧ Q v s') E s := by
  obtain ⟨hrec, hTI, hit⟩ := hz
  show wpAny _ _ (field (.ref (b + ts.length + 2)) 2 >>= _) _ _ _
  refine wpAny_bind (wpAny_field hrec rfl (x := .bool false) rfl ?_)
  show wpAny _ _ (field (.ref (b + ts.length + 2)) 3 >>= _) _ _ _
  refine wpAny_bind (wpAny_field hrec rfl (x := .ref (b + ts.length)) rfl ?_)
  refine wpAny_bind (wpAny_seqItems hTI rfl ?_)
  have ne : (its b ts.length).toArray.isEmpty = false := by
    have : 0 < ts.length := List.length_pos_iff.mpr n0
    rw [Array.isEmpty_eq_false_iff_exists_mem]
    exact ⟨.ref (b + 0), by rw [List.mem_toArray]; exact List.mem_of_getElem? (its_get b ts.length 0 this)⟩
  dsimp only
  rw [ne]
  show wpAny _ _ (Builtin.SmallTypes.ownedTupleIsFree (.ref (b + ts.length + 2)) >>= _) _ _ _
  refine wpAny_bind (wpAny_tupleHeld_zip hrec hT fun h₁ hz₁ hs₁ => ?_)
  simp only [Bool.false_eq_true, if_false]
  replace hs₁ : Heap.SameBut (b + ts.length + 2) s.heap h₁ := hs₁
  refine wpAny_bind ?_
  rw [← Array.forIn_toList]
  refine forIn_inv (fun i (r : Option Fin × Array Value) s' => (∃ acc : Array Value, r = (none, acc) ∧ acc.toList = (List.range i).map col) ∧ ∃ h, s' = { s with heap := h } ∧ IsZipHeld h (b + ts.length + 2) (b + ts.length) (b + ts.length + 1) T true ∧
      h.get? (b + ts.length) = some { cls := .type "tuple", data := .seq (its b ts.length).toArray } ∧
      (∀ (k : Nat) (t : Addr), ts[k]? = some t → h.IsTupleIter (b + k) t (if k < i then j + 1 else j)) ∧ h.objs.size = s.heap.objs.size ∧ Out b ts.length s.heap h) _ 0 _ _ ⟨⟨#[], rfl, rfl⟩, h₁, rfl, hz₁, hs₁.extBut _ _ (ne_of (by omega)) hTI, fun k t e => ?_, hs₁.1, fun c o hc e => hs₁.extBut _ _ (ne_of (by omega)) e⟩ ?_ ?_
  · rw [if_neg (Nat.not_lt_zero _)]
    have hk := (List.getElem?_eq_some_iff.mp e).1
    exact itAt (hit k t e) fun o q => hs₁.extBut _ _ (ne_of (by omega)) q
  · rintro i it r s' hx' ⟨⟨acc, rfl, hacc⟩, h, rfl, hr, hti, hits, hsz, hout⟩
    have hin : i < ts.length := by
      have := (List.getElem?_eq_some_iff.mp hx').1
      rw [List.toList_toArray, its_len] at this; exact this
    rw [List.toList_toArray, its_get b ts.length i hin] at hx'
    cases hx'
    rw [Nat.zero_add] at hacc hits
    obtain ⟨t, et⟩ : ∃ t, ts[i]? = some t := ⟨ts[i], by simp [hin]⟩
    obtain ⟨tl, ⟨oT', hoT, rT⟩⟩ := hlt i t et
    have hitI := hits i t et
    rw [if_neg (Nat.lt_irrefl i)] at hitI
    have htup : h.IsTuple t (xs i) := ⟨oT', hout t oT' (.inl tl) hoT, rT⟩
    dsimp only
    refine wpAny_bind (wpAny_holding ?_)
    show wpAny _ _ (Builtin.SmallTypes.nextOf (.ref (b + i)) >>= _) _ _ _
    refine wpAny_bind (RZ.nextOf_tuple_item (s := { s with heap := h }) hitI htup (hx i hin) fun h₂ hit₂ hs₂ => wpAny_pure ?_)
    replace hs₂ : Heap.SameBut (b + i) h h₂ := hs₂
    dsimp only
    refine wpAny_pure ⟨_, rfl, ⟨_, rfl, ?_⟩, h₂, rfl, hs₂.extBut _ _ (ne_of (by omega)) hr, hs₂.extBut _ _ (ne_of (by omega)) hti, fun k t' e => ?_, by rw [hs₂.1]; exact hsz, fun c o hc e => hs₂.extBut _ _ (ne_of (by omega)) (hout c o hc e)⟩
    · rw [Array.toList_push, hacc, Nat.zero_add, List.range_succ, List.map_append]; rfl
    · have hk := (List.getElem?_eq_some_iff.mp e).1
      by_cases z : k = i
      · subst z
        rw [et] at e; cases e
        rw [if_pos (by omega)]
        exact hit₂
      · have q0 := hits k t' e
        have e2 : (if k < 0 + i + 1 then j + 1 else j) = if k < i then j + 1 else j := by
          by_cases y : k < i
          · rw [if_pos y, if_pos (by omega)]
          · rw [if_neg y, if_neg (by omega)]
        rw [e2]
        exact itAt q0 fun o q => hs₂.extBut _ _ (ne_of (by omega)) q
  · rintro r s' ⟨⟨acc, rfl, hacc⟩, h, rfl, hr, hti, hits, hsz, hout⟩
    rw [Nat.zero_add, List.toList_toArray, its_len] at hacc hits
    dsimp only
    refine wpAny_bind (wpAny_newTuple ?_ (by rw [hacc]; simp; exact Nat.le_trans h1 (by decide)))
    rw [hacc]
    refine wpAny_pure ⟨_, rfl, ?_⟩
    show Q (.ref h.objs.size) _
    have big : b + ts.length + 2 < h.objs.size := Heap.lt_size hr
    rw [hsz]
    refine hQ _ ⟨Heap.get?_push_of_some _ hr, Heap.get?_push_of_some _ hti, fun k t e => ?_⟩ (by rw [← hsz]; exact Heap.get?_push_size _ rfl) (by rw [Heap.size_push, hsz]) fun c o hc e => Heap.get?_push_of_some _ (hout c o hc e)
    have q := hits k t e
    have hk := (List.getElem?_eq_some_iff.mp e).1
    rw [if_pos hk] at q
    exact itAt q fun o q => Heap.get?_push_of_some _ q
theorem next_end {b : Nat} {ts : List Addr} {j : Nat} {xs : Nat → Array Value} {T : Nat} {f : Bool} {oT : Obj} {Q : Fin → Shared → Prop} (hh : A.handled = none) (n0 : ts ≠ []) (hz : Zip s.heap b ts j (rawInt T) (.bool f)) (hT : s.heap.get? T = some oT)
    (hlt : ∀ (k : Nat) (t : Addr), ts[k]? = some t → t < b ∧ s.heap.IsTuple t (xs k)) (hx : ∀ k, k < ts.length → (xs k)[j]? = none)
    (hE : ∀ h' e, Out b ts.length s.heap h' → (∃ o, h'.get? e = some o ∧ o.cls = .type "StopIteration") → E (.ref e) { s with heap := h' }) :
    wpAny (model prog w) A (Builtin.«zip.__next__» ⟨[.ref (b + ts.length + 2)], []⟩) Q E s := by
  obtain ⟨hrec, hTI, hit⟩ := hz
  show wpAny _ _ (field (.ref (b + ts.length + 2)) 2 >>= _) _ _ _
  refine wpAny_bind (wpAny_field hrec rfl (x := .bool false) rfl ?_)
  show wpAny _ _ (field (.ref (b + ts.length + 2)) 3 >>= _) _ _ _
  refine wpAny_bind (wpAny_field hrec rfl (x := .ref (b + ts.length)) rfl ?_)
  refine wpAny_bind (wpAny_seqItems hTI rfl ?_)
  have n1 : 0 < ts.length := List.length_pos_iff.mpr n0
  have ne : (its b ts.length).toArray.isEmpty = false := by
    rw [Array.isEmpty_eq_false_iff_exists_mem]
    exact ⟨.ref (b + 0), by rw [List.mem_toArray]; exact List.mem_of_getElem? (its_get b ts.length 0 n1)⟩
  dsimp only
  rw [ne]
  show wpAny _ _ (Builtin.SmallTypes.ownedTupleIsFree (.ref (b + ts.length + 2)) >>= _) _ _ _
  refine wpAny_bind (wpAny_tupleHeld_zip hrec hT fun h₁ hz₁ hs₁ => ?_)
  simp only [Bool.false_eq_true, if_false]
  replace hs₁ : Heap.SameBut (b + ts.length + 2) s.heap h₁ := hs₁
  refine wpAny_bind ?_
  rw [← Array.forIn_toList]
  obtain ⟨rest, er⟩ : ∃ rest, its b ts.length = .ref (b + 0) :: rest := by
    have := its_get b ts.length 0 n1
    cases e : its b ts.length with
    | nil => rw [e] at this; cases this
    | cons a r => rw [e] at this; cases this; exact ⟨r, rfl⟩
  rw [List.toList_toArray, er]
  simp only [List.forIn_cons]
  obtain ⟨t, et⟩ : ∃ t, ts[0]? = some t := ⟨ts[0], by simp [n1]⟩
  obtain ⟨tl, ⟨oT', hoT, rT⟩⟩ := hlt 0 t et
  refine wpAny_bind (wpAny_bind (wpAny_holding ?_))
  show wpAny _ _ (Builtin.SmallTypes.nextOf (.ref (b + 0)) >>= _) _ _ _
  refine wpAny_bind (RZ.nextOf_tuple_end (s := { s with heap := h₁ }) hh (itAt (hit 0 t et) fun o q => hs₁.extBut _ _ (ne_of (by omega)) q) (l := t) (items := xs 0) ⟨oT', hs₁.extBut _ _ (Nat.ne_of_lt (Nat.lt_of_lt_of_le tl (show b ≤ b + ts.length + 2 by omega))) hoT, rT⟩ (hx 0 n1) fun h₂ e hs₂ he => ?_)
  exact hE h₂ e (fun c o hc x => hs₂ _ _ (ne_of (by omega)) (hs₁.extBut _ _ (ne_of (by omega)) x)) he
end
end Zn
end
section
set_option Elab.async false
set_option linter.all false
set_option maxRecDepth 100000
set_option maxHeartbeats 4000000
/-! list of a zip over any number of tuples. -/
namespace Zn
open PySem
open PySem.Sem (wp)
theorem zip_no_len : typeLookup (.type "zip") "__len__" = pure none := by rw [typeLookup_type, builtinLookup_eq_fast]; kernel_rfl
theorem zip_no_hint : typeLookup (.type "zip") "__length_hint__" = pure none := by rw [typeLookup_type, builtinLookup_eq_fast]; kernel_rfl
/-- the zip in the loop, at turn j: what is out is alive -/
def At (h : Heap) (b : Nat) (ts : List Addr) (j : Nat) : Prop :=
  (j = 0 ∧ Zip h b ts 0 .none (.bool false) ∧ h.get? (b + ts.length + 1) = some { cls := .type "tuple", data := .seq (List.replicate ts.length Value.none).toArray }) ∨ (∃ (T : Nat) (f : Bool) (oT : Obj), Zip h b ts j (rawInt T) (.bool f) ∧ h.get? T = some oT ∧ b + ts.length + 2 < T)
theorem At.ty {s : Shared} {b : Nat} {ts : List Addr} {j : Nat} (h : At s.heap b ts j) : s.TypeIs (.ref (b + ts.length + 2)) "zip" := by
  rcases h with ⟨_, z, _⟩ | ⟨T, f, oT, z, _⟩
  · exact ⟨_, z.rec_, rfl⟩
  · exact ⟨_, z.rec_, rfl⟩
theorem Zip.keep {h h' : Heap} {b : Nat} {ts : List Addr} {j : Nat} {f0 f1 : Value} (z : Zip h b ts j f0 f1) (k : ∀ (c : Nat) o, b ≤ c → c ≤ b + ts.length + 2 → h.get? c = some o → h'.get? c = some o) : Zip h' b ts j f0 f1 :=
  ⟨k _ _ (by omega) (by omega) z.rec_, k _ _ (by omega) (by omega) z.ti, fun i t e => itAt (z.it i t e) fun o q => k _ _ (by omega) (by have := (List.getElem?_eq_some_iff.mp e).1; omega) q⟩
/-- what is written elsewhere changes it not -/
theorem At.keep {h h' : Heap} {b : Nat} {ts : List Addr} {j : Nat} {S : Nat} {oS : Obj} (a : At h b ts j) (hS : S < b ∨ b + ts.length + 2 < S) (hS' : h'.get? S = some oS) (k : ∀ (c : Nat) o, c ≠ S → h.get? c = some o → h'.get? c = some o) : At h' b ts j := by
  rcases a with ⟨e, z, t⟩ | ⟨T, f, oT, z, t, l⟩
  · exact .inl ⟨e, z.keep fun c o h1 h2 q => k c o (by omega) q, k _ _ (by omega) t⟩
  · by_cases q : T = S
    · exact .inr ⟨T, f, oS, z.keep fun c o h1 h2 q => k c o (by omega) q, by rw [q]; exact hS', l⟩
    · exact .inr ⟨T, f, oT, z.keep fun c o h1 h2 q => k c o (by omega) q, k _ _ q t, l⟩
section
variable {prog : Program} {w : World} {A : Around} {E : Value → Shared → Prop} {s : Shared}
theorem pyNext_item {b : Nat} {ts : List Addr} {j : Nat} {xs : Nat → Array Value} {col : Nat → Value} {Q : Option Value → Shared → Prop} (h1 : ts.length ≤ 1000) (n0 : ts ≠ []) (ha : At s.heap b ts j) (hlt : ∀ (k : Nat) (t : Addr), ts[k]? = some t → t < b ∧ s.heap.IsTuple t (xs k)) (hx : ∀ k, k < ts.length → (xs k)[j]? = some (col k))
    (hQ : ∀ h', At h' b ts (j + 1) → h'.get? s.heap.objs.size = some { cls := .type "tuple", data := .seq ((List.range ts.length).map col).toArray } → h'.objs.size = s.heap.objs.size + 1 → Out b ts.length s.heap h' → Q (some (.ref s.heap.objs.size)) { s with heap := h' }) :
    wpAny (model prog w) A (pyNext (.ref (b + ts.length + 2))) Q E s := by
  have hTy := ha.ty
  have big : b + ts.length + 2 < s.heap.objs.size := by
    rcases ha with ⟨_, z, _⟩ | ⟨T, f, oT, z, _⟩ <;> exact Heap.lt_size z.rec_
  unfold pyNext
  refine wpAny_bind (wpAny_attempt (wpAny_callSpecial?_slot (name := Str.ofString "__next__") hTy F.slot_zip_next
    (wpAny_call_entry F.slot_zip_next hTy F.entry_zip_next ?_ (F.args_zip_next_1 _))))
  rcases ha with ⟨rfl, z, t⟩ | ⟨T, f, oT, z, t, l⟩
  · exact next_free h1 n0 z t (by simp) hlt hx fun h' z' t' sz out => wpAny_pure (hQ h' (.inr ⟨_, _, _, z', t', big⟩) t' sz out)
  · exact next_held h1 n0 z t hlt hx fun h' z' t' sz out => wpAny_pure (hQ h' (.inr ⟨T, true, oT, z', out T oT (.inr l) t, l⟩) t' sz out)
theorem pyNext_end {b : Nat} {ts : List Addr} {j : Nat} {xs : Nat → Array Value} {Q : Option Value → Shared → Prop} (hh : A.handled = none) (n0 : ts ≠ []) (j0 : 0 < j) (ha : At s.heap b ts j) (hlt : ∀ (k : Nat) (t : Addr), ts[k]? = some t → t < b ∧ s.heap.IsTuple t (xs k)) (hx : ∀ k, k < ts.length → (xs k)[j]? = none)
    (hQ : ∀ h', Out b ts.length s.heap h' → Q none { s with heap := h' }) : wpAny (model prog w) A (pyNext (.ref (b + ts.length + 2))) Q E s := by
  have hTy := ha.ty
  unfold pyNext
  refine wpAny_bind (wpAny_attempt (wpAny_callSpecial?_slot (name := Str.ofString "__next__") hTy F.slot_zip_next
    (wpAny_call_entry F.slot_zip_next hTy F.entry_zip_next ?_ (F.args_zip_next_1 _))))
  rcases ha with ⟨e, _⟩ | ⟨T, f, oT, z, t, l⟩
  · omega
  · refine next_end hh n0 z t hlt hx fun h' e out he => ?_
    obtain ⟨o, ho, hc⟩ := he
    refine wpAny_bind (wpAny_isInstance (T := "StopIteration") (b := true) ⟨o, ho, hc⟩ isSubtype_stop ?_)
    exact wpAny_pure (hQ _ out)
/-- what the loop has made so far, behind the list at S -/
structure Got (h : Heap) (S : Nat) (n : Nat) (col : Nat → Nat → Value) (as : List Addr) : Prop where
  at_ : ∀ (j : Nat) (a : Addr), as[j]? = some a → h.get? a = some { cls := .type "tuple", data := .seq ((List.range n).map (col j)).toArray }
  up : ∀ a ∈ as, S < a
  rise : as.Pairwise (· < ·)
theorem loop {b S : Nat} {ts : List Addr} {xs : Nat → Array Value} {col : Nat → Nat → Value} {m : Nat} {res : Value} {R : Result → Shared → Prop} {s0 : Shared} (hh : A.handled = none) (h1 : ts.length ≤ 1000) (n0 : ts ≠ []) (m0 : 0 < m) (hm : m ≤ 1000) (hS : b + ts.length + 2 < S) (hlt0 : ∀ (k : Nat) (t : Addr), ts[k]? = some t → t < b ∧ s0.heap.IsTuple t (xs k))
    (hx : ∀ k, k < ts.length → ∀ j, j < m → (xs k)[j]? = some (col j k)) (hxe : ∀ k, k < ts.length → (xs k)[m]? = none)
    (hR : ∀ h' as c', h'.get? S = some { cls := .type "list", dict := none, data := .seq (as.map Value.ref).toArray c', slots := #[] } → as.length = m → Got h' S ts.length col as → (∀ (c : Nat) o, c < b → s0.heap.get? c = some o → h'.get? c = some o) → R (.ok (.ret res)) { s0 with heap := h' }) :
    ∀ (k i : Nat) (h : Heap) (as : List Addr) (c : Nat), m - i = k → i ≤ m → At h b ts i → h.get? S = some { cls := .type "list", dict := none, data := .seq (as.map Value.ref).toArray c, slots := #[] } → as.length = i → Got h S ts.length col as → (∀ (c : Nat) o, c < b → s0.heap.get? c = some o → h.get? c = some o) →
      codeAny (model prog w) A (.builtin "list.extend.loop" ⟨[.ref S, .ref (b + ts.length + 2), res], []⟩) R { s0 with heap := h } := by
  have tups : ∀ h : Heap, (∀ (c : Nat) o, c < b → s0.heap.get? c = some o → h.get? c = some o) → ∀ (k : Nat) (t : Addr), ts[k]? = some t → t < b ∧ h.IsTuple t (xs k) := fun h hk k t e => by
    obtain ⟨tl, o, ho, r⟩ := hlt0 k t e
    exact ⟨tl, o, hk t o tl ho, r⟩
  intro k
  induction k with
  | zero =>
    intro i h as c hk hi ha hl hlen hg hkeep
    have him : i = m := by omega
    subst him
    refine codeAny_builtin F.entry_extend_loop ?_
    rw [Around.under_plainId F.plain_extend_loop _]
    show wpAny _ A.in1 (pyNext (.ref (b + ts.length + 2)) >>= _) _ _ _
    refine wpAny_bind (pyNext_end (s := { s0 with heap := h }) hh n0 m0 ha (tups h hkeep) hxe fun h' out => ?_)
    refine wpAny_pure (hR h' as c (out S _ (.inr hS) hl) hlen ⟨fun j a e => out a _ (.inr (Nat.lt_trans hS (hg.up a (List.mem_of_getElem? e)))) (hg.at_ j a e), hg.up, hg.rise⟩ fun c o hc e => out c o (.inl hc) (hkeep c o hc e))
  | succ k ih =>
    intro i h as c hk hi ha hl hlen hg hkeep
    have hlt : i < m := by omega
    refine codeAny_builtin F.entry_extend_loop ?_
    rw [Around.under_plainId F.plain_extend_loop _]
    show wpAny _ A.in1 (pyNext (.ref (b + ts.length + 2)) >>= _) _ _ _
    refine wpAny_bind (pyNext_item (s := { s0 with heap := h }) h1 n0 ha (tups h hkeep) (fun k hk => hx k hk i hlt) fun h' ha' ht' hsz out => ?_)
    have hl' := out S _ (.inr hS) hl
    have hSz : S < h.objs.size := Heap.lt_size hl
    show wpAny _ A.in1 (updateSeq S (·.push (.ref h.objs.size)) >>= _) _ _ _
    refine wpAny_bind ?_
    have hz1 : (as.map Value.ref).toArray.size ≤ sizeLine := by rw [List.size_toArray, List.length_map, hlen]; exact Nat.le_trans hi (Nat.le_trans hm (by decide))
    refine wpAny_updateSeq hl' rfl (wpAny_pure ⟨plainId_quiet F.plain_extend_loop _, ?_⟩) hz1 (by show ((as.map Value.ref).toArray.push _).size ≤ _; rw [Array.size_push]; omega)
    have eu := Heap.get?_update_self (Obj.mapSeq (·.push (Value.ref h.objs.size))) hl' rfl
    have oth : ∀ (c : Nat) o, c ≠ S → h'.get? c = some o → (h'.update S (Obj.mapSeq (·.push (Value.ref h.objs.size)))).get? c = some o := fun c o hc e => (Heap.get?_update_other _ _ (Ne.symm (ne_of hc))).trans e
    have eu' : ∃ c', (h'.update S (Obj.mapSeq (·.push (Value.ref h.objs.size)))).get? S = some { cls := .type "list", dict := none, data := .seq ((as ++ [h.objs.size]).map Value.ref).toArray c', slots := #[] } := by
      have e1 : ∃ c', Obj.mapSeq (·.push (Value.ref h.objs.size)) { cls := .type "list", dict := none, data := .seq (as.map Value.ref).toArray c, slots := #[] } = { cls := .type "list", dict := none, data := .seq ((as.map Value.ref).toArray.push (Value.ref h.objs.size)) c', slots := #[] } := ⟨_, rfl⟩
      obtain ⟨c', e1⟩ := e1
      have e2 : (as.map Value.ref).toArray.push (Value.ref h.objs.size) = ((as ++ [h.objs.size]).map Value.ref).toArray := by simp
      exact ⟨c', by rw [eu, e1, e2]⟩
    obtain ⟨c', eu'⟩ := eu'
    refine ih (i + 1) _ (as ++ [h.objs.size]) c' (by omega) hlt (ha'.keep (.inr hS) eu' oth) eu' (by rw [List.length_append, hlen]; rfl) ⟨fun j a e => ?_, fun a hm => ?_, ?_⟩ fun c o hc e => oth c o (by omega) (out c o (.inl hc) (hkeep c o hc e))
    · by_cases q : j < as.length
      · rw [List.getElem?_append_left q] at e
        have hu := hg.up a (List.mem_of_getElem? e)
        exact oth a _ (Nat.ne_of_gt hu) (out a _ (.inr (Nat.lt_trans hS hu)) (hg.at_ j a e))
      · have hj := (List.getElem?_eq_some_iff.mp e).1
        rw [List.length_append, List.length_singleton] at hj
        have ej : j = i := by omega
        subst ej
        rw [List.getElem?_append_right (by omega), hlen, Nat.sub_self] at e
        cases e
        exact oth _ _ (Nat.ne_of_gt hSz) ht'
    · rcases List.mem_append.mp hm with q | q
      · exact hg.up a q
      · rw [List.mem_singleton] at q; rw [q]; exact hSz
    · refine List.pairwise_append.mpr ⟨hg.rise, List.pairwise_singleton _ _, fun a ha2 c hc => ?_⟩
      rw [List.mem_singleton] at hc
      rw [hc]
      obtain ⟨j, hj, e⟩ := List.getElem_of_mem ha2
      exact Heap.lt_size (hg.at_ j a (by simp [hj, e]))
theorem call_list_zip {b : Nat} {ts : List Addr} {xs : Nat → Array Value} {col : Nat → Nat → Value} {m : Nat} {Q : Value → Shared → Prop} (hh : A.handled = none) (h1 : ts.length ≤ 1000) (n0 : ts ≠ []) (m0 : 0 < m) (hm : m ≤ 1000) (hz : Zip s.heap b ts 0 .none (.bool false))
    (hTO : s.heap.get? (b + ts.length + 1) = some { cls := .type "tuple", data := .seq (List.replicate ts.length Value.none).toArray }) (hlt : ∀ (k : Nat) (t : Addr), ts[k]? = some t → t < b ∧ s.heap.IsTuple t (xs k))
    (hx : ∀ k, k < ts.length → ∀ j, j < m → (xs k)[j]? = some (col j k)) (hxe : ∀ k, k < ts.length → (xs k)[m]? = none)
    (hQ : ∀ h' as c', h'.get? s.heap.objs.size = some { cls := .type "list", dict := none, data := .seq (as.map Value.ref).toArray c', slots := #[] } → as.length = m → Got h' s.heap.objs.size ts.length col as → (∀ (c : Nat) o, c < b → s.heap.get? c = some o → h'.get? c = some o) → Q (.ref s.heap.objs.size) { s with heap := h' }) :
    wpAny (model prog w) A (call (.type "list") [.ref (b + ts.length + 2)]) Q E s := by
  have big : b + ts.length + 2 < s.heap.objs.size := Heap.lt_size hz.rec_
  refine callType_codes (Q₁ := fun obj s₁ => obj = .ref s.heap.objs.size ∧ s₁ = { s with heap := s.heap.push { cls := .type "list", data := .seq #[] } }) F.called_list (F.typeCall_list_1 _) F.entry_list_init
    (code_list_new _ ⟨rfl, rfl⟩) fun obj s₁ h₁ => ?_
  obtain ⟨rfl, rfl⟩ := h₁
  have hS : (s.heap.push { cls := .type "list", data := .seq #[] }).get? s.heap.objs.size = some { cls := .type "list", data := .seq #[] } := Heap.get?_push_size _ rfl
  refine ⟨⟨_, hS, rfl⟩, F.args_list_init_2 _ _, ?_⟩
  show wpAny _ A.in1.in1 (do let old ← Builtin.List.listItems (.ref s.heap.objs.size); Builtin.List.listUpdate (.ref s.heap.objs.size) (fun _ => #[]); letGo old.toList.reverse; Builtin.List.listExtendWith (.ref s.heap.objs.size) (.ref (b + ts.length + 2)) .none) _ _ _
  refine wpAny_bind ?_
  unfold Builtin.List.listItems
  refine wpAny_bind (wpAny_seqItems hS rfl (wpAny_pure ?_))
  show wpAny _ A.in1.in1 (updateSeq s.heap.objs.size (fun _ => #[]) >>= fun _ => letGo (#[] : Array Value).toList.reverse >>= fun _ => Builtin.List.listExtendWith (.ref s.heap.objs.size) (.ref (b + ts.length + 2)) .none) _ _ _
  refine wpAny_bind (wpAny_updateSeq hS rfl ?_)
  have hS₂ := Heap.get?_update_self (Obj.mapSeq (fun _ => (#[] : Array Value))) hS rfl
  have oth : ∀ (c : Nat) o, s.heap.get? c = some o → ((s.heap.push { cls := .type "list", data := .seq #[] }).update s.heap.objs.size (Obj.mapSeq (fun _ => (#[] : Array Value)))).get? c = some o :=
    fun c o e => (Heap.get?_update_other _ _ (Ne.symm (Nat.ne_of_lt (Heap.lt_size e)))).trans (Heap.get?_push_of_some _ e)
  generalize hp2 : (s.heap.push { cls := .type "list", data := .seq #[] }).update s.heap.objs.size (Obj.mapSeq (fun _ => (#[] : Array Value))) = h₂ at hS₂ oth ⊢
  refine wpAny_bind (wpAny_letGo ?_)
  have z₂ : Zip h₂ b ts 0 .none (.bool false) := hz.keep fun c o _ _ e => oth c o e
  have hTy : ({ s with heap := h₂ } : Shared).TypeIs (.ref (b + ts.length + 2)) "zip" := ⟨_, z₂.rec_, rfl⟩
  unfold Builtin.List.listExtendWith
  refine wpAny_bind (wpAny_typeOf hTy ?_)
  have e1 : Builtin.List.listSameRef (.ref s.heap.objs.size) (.ref (b + ts.length + 2)) = false := by
    have : (s.heap.objs.size : Addr) ≠ b + ts.length + 2 := Nat.ne_of_gt big
    simp [Builtin.List.listSameRef, this]
  have e2 : (Value.type "zip" == Value.type "list") = false := by decide
  have e3 : (Value.type "zip" == Value.type "tuple") = false := by decide
  simp only [e1, e2, e3, Bool.or_false, Bool.false_eq_true, if_false]
  refine wpAny_bind (wpAny_pyIter_zip (s := { s with heap := h₂ }) z₂.rec_ ?_)
  refine wpAny_bind (wpAny_holding ?_)
  unfold Builtin.List.listLengthHint
  refine wpAny_bind (wpAny_specialOf hTy zip_no_len ?_)
  show wpAny _ A.in1.in1 (specialOf (Value.ref (b + ts.length + 2)) (Str.ofString "__length_hint__") >>= _) _ _ _
  refine wpAny_bind (wpAny_specialOf hTy zip_no_hint ?_)
  refine wpAny_pure ?_
  show wpAny _ A.in1.in1 (rule "list.extend.makes-room" >>= fun _ => Builtin.List.listTouch (.ref s.heap.objs.size) >>= fun _ =>
    again (.builtin "list.extend.loop" ⟨[.ref s.heap.objs.size, .ref (b + ts.length + 2), .none], []⟩)) _ _ _
  refine wpAny_bind (wpAny_rule ?_)
  refine wpAny_bind ?_
  show wpAny _ A.in1.in1 (updateSeq s.heap.objs.size (·.push .none) >>= fun _ => updateSeq s.heap.objs.size (·.pop)) _ _ _
  refine wpAny_bind (wpAny_updateSeq hS₂ rfl ?_)
  have hS₃ := Heap.get?_update_self (Obj.mapSeq (·.push Value.none)) hS₂ rfl
  refine wpAny_updateSeq (hz := by seq_fits) hS₃ rfl ?_
  have hS₄ := Heap.get?_update_self (Obj.mapSeq (·.pop)) hS₃ rfl
  have oth4 : ∀ (c : Nat) o, c ≠ s.heap.objs.size → h₂.get? c = some o → ((h₂.update s.heap.objs.size (Obj.mapSeq (·.push Value.none))).update s.heap.objs.size (Obj.mapSeq (·.pop))).get? c = some o :=
    fun c o hc e => (Heap.get?_update_other _ _ (Ne.symm (ne_of hc))).trans ((Heap.get?_update_other _ _ (Ne.symm (ne_of hc))).trans e)
  have e4 : ∃ c4, ((h₂.update s.heap.objs.size (Obj.mapSeq (·.push Value.none))).update s.heap.objs.size (Obj.mapSeq (·.pop))).get? s.heap.objs.size = some { cls := .type "list", dict := none, data := .seq (([] : List Addr).map Value.ref).toArray c4, slots := #[] } := ⟨_, hS₄⟩
  generalize (h₂.update s.heap.objs.size (Obj.mapSeq (·.push Value.none))).update s.heap.objs.size (Obj.mapSeq (·.pop)) = h₄ at oth4 e4 ⊢
  obtain ⟨c4, e4⟩ := e4
  have k4 : ∀ (c : Nat) o, c < s.heap.objs.size → s.heap.get? c = some o → h₄.get? c = some o := fun c o hc e => oth4 c o (Nat.ne_of_lt hc) (oth c o e)
  refine wpAny_pure ⟨plainId_quiet F.plain_extend_loop _, ?_⟩
  refine loop (prog := prog) (w := w) (A := A.in1) (s0 := s) (res := .none) (R := wants (fun r s₂ => r = Value.none ∧ Q (.ref s.heap.objs.size) s₂) E) (xs := xs) (col := col) hh h1 n0 m0 hm big hlt hx hxe (fun h' as c' hl hlen hg hk => ⟨rfl, hQ h' as c' hl hlen hg hk⟩) m 0 h₄ [] c4 rfl (Nat.zero_le _) (.inl ⟨rfl, hz.keep fun c o _ h2 e => k4 c o (by omega) e, k4 _ _ (by omega) hTO⟩) e4 rfl ⟨fun j a e => (by cases e), fun a ha => (by cases ha), List.Pairwise.nil⟩ fun c o hc e => k4 c o (by omega) e
end
end Zn
end
section
set_option Elab.async false
set_option linter.all false
set_option maxRecDepth 100000
set_option maxHeartbeats 4000000
/-! list(zip(..)) of tuples. -/
namespace Mx
open PySem L2 Evl Fra PyProof.Rows
section
variable {M : Model} {A : Around} {E : Value → Shared → Prop} {s : Shared}
/-- T(*e), T a built-in type -/
theorem callWith_typeS {T : String} {e : Expr} {env : Env} {p pos : Pos} {Q : Value → Shared → Prop} (h : wpAny M A (eval e env) (fun v s₁ => PySem.W.StarOf M A E v (fun vs s₂ => wpAny M A (call (.type T) vs) Q E s₂) s₁) E s)
    (he : starEach [.Starred e p] env = [(true, eval e env)] := by rfl) : wpAny M A (callWith pos (.type T) [] (backTo pos (starEach [.Starred e p] env)) []) Q E s := by
  rw [he]
  unfold callWith
  refine wpAny_bind (wpAny_holding (wpAny_mono (PySem.W.ks_lone (Q := fun a s₃ => wpAny M A (call (.type T) ([] ++ a.pos) a.kw) Q E s₃) h) (fun a s₁ h₁ => wpAny_bind (wpAny_standAt ?_)) fun _ _ x => x))
  have hst : (List.any (backTo pos [(true, eval e env)]) fun x => x.1) = true := rfl
  simp only [hst, Bool.true_or]
  refine wpAny_bind (m := keeperOf (.type T)) (wpAny_pure ?_)
  dsimp only
  exact wpAny_bind (wpAny_mono (wpAny_operating h₁) (fun r s₂ hr => wpAny_bind (wpAny_holding (wpAny_point (wpAny_pure hr)))) fun _ _ x => x)
end
section
variable {X : Cx} {pins : List (Addr × Obj)} {σ : L2.St} {H : Hp} {s : Shared}
theorem rows_of (I : Inv X pins σ H s) {m : Nat} : ∀ {ts : List Addr} {rows : List (List V)}, Paired (fun t row => SqT X.K H t row ∧ row.length = m) ts rows → ∃ us : List (List Value), Paired (fun row u => Vals row u) rows us ∧ Paired (fun t u => IsTup s.heap t (List.toArray u) ∧ u.length = m) ts us
  | _, _, .nil => ⟨[], .nil, .nil⟩
  | _, _, .cons ⟨h, hl⟩ t => by
    obtain ⟨us, p, q⟩ := rows_of I t
    obtain ⟨its, rv, ht, _⟩ := I.tuple h
    exact ⟨its :: us, .cons rv p, .cons ⟨ht, by rw [← hl]; exact (Paired.length rv).symm⟩ q⟩
theorem col_vals {m j : Nat} (hj : j < m) : ∀ {rows : List (List V)} {us : List (List Value)}, Paired (fun row u => Vals row u) rows us → (∀ r ∈ rows, r.length = m) → Vals (rows.map fun r => r.getD j .non) (us.map fun u => u.getD j .none)
  | _, _, .nil, _ => .nil
  | _, _, @Paired.cons _ _ _ r u rows us h t, hm => by
    refine .cons ?_ (col_vals hj t fun r hr => hm r (List.mem_cons_of_mem _ hr))
    have hl := hm r List.mem_cons_self
    obtain ⟨y, hy, ry⟩ := wk_list.pget h (some_getD (d := V.non) (by omega : j < r.length))
    show RelV (r.getD j .non) (u.getD j .none)
    rw [getD_of hy]
    exact ry
/-- zip of tuples of m things each, then list of it -/
theorem lz_run {ts : List Addr} {rows : List (List V)} {m : Nat} {Q : VK} (hcalm : X.calm = true) (I : Inv X pins σ H s) (n0 : ts ≠ []) (h1 : ts.length ≤ 1000) (m0 : 0 < m) (hm : m ≤ 1000) (hp : Paired (fun t row => SqT X.K H t row ∧ row.length = m) ts rows)
    (q : ∀ D as H2, H D = none → Ex H H2 → H2 D = some (.lst (as.map V.ref)) → Paired (fun a col => H2 a = some (.tup col)) as ((List.range m).map fun j => rows.map fun r => r.getD j .non) → Q (.ref D) H2) :
    wpAny (model X.prog X.w) X.A (call (.type "zip") (ts.map Value.ref)) (fun z s2 => wpAny (model X.prog X.w) X.A (call (.type "list") [z]) (EP X pins σ Q) X.xe s2) X.xe s := by
  obtain ⟨us, pr, pt⟩ := rows_of I hp
  have lus : us.length = ts.length := (Paired.length pt).symm
  have tup : ∀ (k : Nat) (t : Addr), ts[k]? = some t → t < s.heap.objs.size ∧ s.heap.IsTuple t ((us.getD k []).toArray) := fun k t e => by
    obtain ⟨u, hu, ht, _⟩ := wk_list.pget pt e
    rw [getD_of hu]
    obtain ⟨o, ho, r⟩ := id ht
    exact ⟨Heap.lt_size ho, ht⟩
  have ulen : ∀ k, k < ts.length → (us.getD k []).length = m := fun k hk => by
    obtain ⟨t, ht, _, hl⟩ := paired_at pt (some_getD (d := []) (by omega : k < us.length))
    exact hl
  refine Zn.call_zip h1 n0 (fun k t e => (tup k t e).2) fun h' z to sz k => ?_
  refine Zn.call_list_zip (s := { s with heap := h' }) (b := s.heap.objs.size) (ts := ts) (xs := fun k => (us.getD k []).toArray) (col := fun j k => (us.getD k []).getD j .none) (m := m) (I.ok.hd hcalm) h1 n0 m0 hm z to (fun k' t e => ⟨(tup k' t e).1, by obtain ⟨o, ho, r⟩ := (tup k' t e).2; exact ⟨o, k _ _ ho, r⟩⟩)
    (fun k hk j hj => by rw [List.getElem?_toArray]; exact some_getD (by rw [ulen k hk]; exact hj)) (fun k hk => by rw [List.getElem?_toArray]; exact List.getElem?_eq_none (by rw [ulen k hk]; exact Nat.le_refl _)) fun h'' as c' hl hlen hg hk => ?_
  have keep : ∀ b o, s.heap.get? b = some o → h''.get? b = some o := fun b o e => hk b o (Heap.lt_size e) (k b o e)
  have I1 : Inv X pins σ H { s with heap := h'' } := I.kept (t' := s.toks) keep
  have eus : ∀ j, (List.range ts.length).map (fun k => (us.getD k []).getD j Value.none) = us.map fun u => u.getD j .none := fun j => by
    rw [← lus]; exact map_range us [] fun u => u.getD j Value.none
  have rlen : ∀ r ∈ rows, r.length = m := fun r hr => by
    obtain ⟨i, hi, e⟩ := List.getElem_of_mem hr
    obtain ⟨t, _, _, hl⟩ := paired_at hp (by simp [hi, e] : rows[i]? = some r)
    exact hl
  have szb : s.heap.objs.size ≤ h'.objs.size := by rw [sz]; show s.heap.objs.size ≤ s.heap.objs.size + ts.length + 3; omega
  have big : ∀ a ∈ as, h'.objs.size < a := hg.up
  have szrow : rows.length = ts.length := (Paired.length hp).symm
  have sS : s.heap.objs.size ≤ h'.objs.size := szb
  have I1S : Inv X pins σ (upd H h'.objs.size (.lst (as.map V.ref))) { s with heap := h'', toks := s.toks } :=
    I.take (h' := h'') (t' := s.toks) (fun b ob _ e => keep b ob e) (I.fpOk szb (I.hok.fresh szb)) ⟨by rw [List.length_map, hlen]; exact sz_of (by omega), as.map Value.ref, c', refs_vals as, hl⟩
  obtain ⟨H2, I2, keep2, all2⟩ := L2.DX.takeT (h' := h'') (tk := s.toks) (P := fun a vs => ∃ j, as[j]? = some a ∧ j < m ∧ vs = rows.map fun r => r.getD j .non) I as _ I1S (hg.rise.imp fun h => Nat.ne_of_lt h) (fun a ha => by
    have hb : s.heap.objs.size ≤ a := Nat.le_trans szb (Nat.le_of_lt (big a ha))
    obtain ⟨j, hj, e⟩ := List.getElem_of_mem ha
    have ej : as[j]? = some a := by simp [hj, e]
    have hjm : j < m := by rw [← hlen]; exact hj
    refine ⟨hb, by rw [upd_ne (Nat.ne_of_gt (big a ha))]; exact I.hok.fresh hb, _, ⟨j, ej, hjm, rfl⟩, fun H2 => ⟨by rw [List.length_map, szrow]; exact sz_of (by omega), _, col_vals hjm pr rlen, ?_⟩⟩
    have := hg.at_ j a ej
    rw [eus] at this
    exact ⟨_, this, rfl, _, rfl⟩)
  refine ⟨.ref h'.objs.size, H2, I2, rfl, q _ as H2 (I.hok.fresh szb) (fun b o e => keep2 b o (Ex.new (I.hok.fresh szb) b o e)) (keep2 _ _ upd_same) ?_⟩
  have main : ∀ (as' : List Addr) (j0 : Nat), as'.length + j0 = m → (∀ i a, as'[i]? = some a → as[j0 + i]? = some a) → Paired (fun a col => H2 a = some (.tup col)) as' ((List.range as'.length).map fun j => rows.map fun r => r.getD (j0 + j) .non) := by
    intro as'
    induction as' with
    | nil => intro j0 _ _; exact .nil
    | cons a r ih =>
      intro j0 hl0 hat
      rw [List.length_cons, List.range_succ_eq_map, List.map_cons, List.map_map]
      refine .cons ?_ ?_
      · have e0 := hat 0 a rfl
        obtain ⟨vs, ⟨j, ej, _, ev⟩, hv⟩ := all2 a (List.mem_of_getElem? e0)
        have : j = j0 + 0 := by
          have h1 := (List.getElem?_eq_some_iff.mp ej).1
          have h2 := (List.getElem?_eq_some_iff.mp e0).1
          have e1 := (List.getElem?_eq_some_iff.mp ej).2
          have e2 := (List.getElem?_eq_some_iff.mp e0).2
          rcases Nat.lt_trichotomy j (j0 + 0) with q | q | q
          · have := List.pairwise_iff_getElem.mp hg.rise j (j0 + 0) h1 h2 q
            rw [e1, e2] at this; exact absurd this (Nat.lt_irrefl _)
          · exact q
          · have := List.pairwise_iff_getElem.mp hg.rise (j0 + 0) j h2 h1 q
            rw [e1, e2] at this; exact absurd this (Nat.lt_irrefl _)
        rw [hv, ev, this]
      · have := ih (j0 + 1) (by rw [List.length_cons] at hl0; omega) (fun i a' e => by have := hat (i + 1) a' e; rw [show j0 + (i + 1) = j0 + 1 + i by omega] at this; exact this)
        have e : (List.range r.length).map (((fun j => rows.map fun r => r.getD (j0 + j) V.non)) ∘ Nat.succ) = (List.range r.length).map fun j => rows.map fun r => r.getD (j0 + 1 + j) V.non := by
          apply List.map_congr_left
          intro j _
          show (rows.map fun r => r.getD (j0 + (j + 1)) V.non) = _
          rw [show j0 + (j + 1) = j0 + 1 + j by omega]
        rw [e]; exact this
  have fin := main as 0 (by omega) (fun i a e => by rw [Nat.zero_add]; exact e)
  rw [hlen] at fin
  simpa only [Nat.zero_add] using fin
where
  refs_vals : ∀ as : List Addr, Vals (as.map V.ref) (as.map Value.ref)
    | [] => .nil
    | _ :: r => .cons rfl (refs_vals r)
/-- list(zip(*e)) -/
def lzQ (K : PySem.W.Frag) (ts : List Addr) (H1 : Hp) (Q : VK) : Prop := ts ≠ [] ∧ ts.length ≤ 1000 ∧ ∃ (rows : List (List V)) (m : Nat), 0 < m ∧ m ≤ 1000 ∧ Paired (fun t row => SqT K H1 t row ∧ row.length = m) ts rows ∧
  ∀ D as H2, H1 D = none → Ex H1 H2 → H2 D = some (.lst (as.map V.ref)) → Paired (fun a col => H2 a = some (.tup col)) as ((List.range m).map fun j => rows.map fun r => r.getD j .non) → Q (.ref D) H2
def tLZS (K : PySem.W.Frag) (te : TE) : TE := fun σ H Q => te σ H fun x H1 => ∃ (a : Addr) (ts : List Addr), x = .ref a ∧ SqT K H1 a (ts.map V.ref) ∧ lzQ K ts H1 Q
def tLZ (K : PySem.W.Frag) (ta : TA) : TE := fun σ H Q => ta σ H fun vs H1 => ∃ (ts : List Addr), vs = ts.map V.ref ∧ lzQ K ts H1 Q
theorem pe_listZipS {e : Expr} {te : TE} {p1 p2 p3 pos1 pos2 : Pos} (hcalm : X.calm = true) (hgl : Gl X "list") (hml : X.mg "list" = none) (hgz : Gl X "zip") (hmz : X.mg "zip" = none) (he : PE X e te)
    (hst : starEach [.Starred e p3] X.env = [(true, eval e X.env)] := by rfl) (hs : starEach [.Call (.Name "zip" p2) [.Starred e p3] [] pos2] X.env = [(false, eval (.Call (.Name "zip" p2) [.Starred e p3] [] pos2) X.env)] := by rfl)
    (hc : eval (.Call (.Name "zip" p2) [.Starred e p3] [] pos2) X.env = (do callWith pos2 (← eval (.Name "zip" p2) X.env) [] (backTo pos2 (starEach [.Starred e p3] X.env)) (backToKw pos2 (keywordEach [] X.env))) := by rfl)
    (hc1 : eval (.Call (.Name "list" p1) [.Call (.Name "zip" p2) [.Starred e p3] [] pos2] [] pos1) X.env = (do callWith pos1 (← eval (.Name "list" p1) X.env) [] (backTo pos1 (starEach [.Call (.Name "zip" p2) [.Starred e p3] [] pos2] X.env)) (backToKw pos1 (keywordEach [] X.env))) := by rfl) :
    PE X (.Call (.Name "list" p1) [.Call (.Name "zip" p2) [.Starred e p3] [] pos2] [] pos1) (tLZS X.K te) := by
  refine ⟨fun pins s σ H Q I h => ?_⟩
  refine Call_ (ld_blt I hgl hml (u := .type "list") (by decide +kernel) (PyProof.Rows.callWith_type1 (args_cons ?_ hs) hs rfl)) hc1
  refine Call_ (ld_blt I hgz hmz (u := .type "zip") (by decide +kernel) (callWith_typeS (thn (he.run pins s σ H _ I h) fun v s1 ⟨y, H1, I1, ry, a, ts, ey, hx, n0, h1, rows, m, m0, hm, hp, q⟩ => ?_) hst)) hc
  subst ey
  obtain rfl : v = Value.ref a := ry
  refine StX.star_any I1 (.inl hx) fun us s2 I2 rv => ?_
  obtain rfl := refs_at rv
  exact wpAny_mono (lz_run hcalm I2 n0 h1 m0 hm hp q) (fun z s3 hz => args_nil hz) fun _ _ x => x
/-- list(zip(e, ..)) -/
theorem pe_listZip {e : Expr} {es : List Expr} {t : TA} {p1 p2 pos1 pos2 : Pos} (hcalm : X.calm = true) (hgl : Gl X "list") (hml : X.mg "list" = none) (hgz : Gl X "zip") (hmz : X.mg "zip" = none) (ha : PA X (e :: es) t)
    (hst : starEach (e :: es) X.env = (false, eval e X.env) :: starEach es X.env := by rfl) (hpl : (backTo pos2 (starEach es X.env)).any (·.1) = false := by rfl) (hs : starEach [.Call (.Name "zip" p2) (e :: es) [] pos2] X.env = [(false, eval (.Call (.Name "zip" p2) (e :: es) [] pos2) X.env)] := by rfl)
    (hc : eval (.Call (.Name "zip" p2) (e :: es) [] pos2) X.env = (do callWith pos2 (← eval (.Name "zip" p2) X.env) [] (backTo pos2 (starEach (e :: es) X.env)) (backToKw pos2 (keywordEach [] X.env))) := by rfl)
    (hc1 : eval (.Call (.Name "list" p1) [.Call (.Name "zip" p2) (e :: es) [] pos2] [] pos1) X.env = (do callWith pos1 (← eval (.Name "list" p1) X.env) [] (backTo pos1 (starEach [.Call (.Name "zip" p2) (e :: es) [] pos2] X.env)) (backToKw pos1 (keywordEach [] X.env))) := by rfl) :
    PE X (.Call (.Name "list" p1) [.Call (.Name "zip" p2) (e :: es) [] pos2] [] pos1) (tLZ X.K t) := by
  refine ⟨fun pins s σ H Q I h => ?_⟩
  refine Call_ (ld_blt I hgl hml (u := .type "list") (by decide +kernel) (PyProof.Rows.callWith_type1 (args_cons ?_ hs) hs rfl)) hc1
  refine Call_ (ld_blt I hgz hmz (u := .type "zip") (by decide +kernel) (PyProof.Rows.callWith_type1 (thn (ha.run pos2 pins s σ H _ I h) fun us s1 ⟨vs, H1, I1, rv, ts, ev, n0, h1, rows, m, m0, hm, hp, q⟩ => ?_) hst hpl)) hc
  subst ev
  obtain rfl := refs_at rv
  exact wpAny_mono (lz_run hcalm I1 n0 h1 m0 hm hp q) (fun z s3 hz => args_nil hz) fun _ _ x => x
end
end Mx
end
section
set_option Elab.async false
set_option linter.all false
set_option maxRecDepth 100000
set_option maxHeartbeats 4000000
/-! columns_of, matrix_told. -/
namespace Mx
open PySem L2 Evl Fra
open Sx (Mat ent Told Shows)
abbrev sColumnsOf : Stmt := top 28
abbrev sTold : Stmt := top 32
/-- matrices that the law asks of -/
structure Good (M : List (List Rat)) (n m : Nat) : Prop where
  mat : Mat n m M
  size : n * m ≤ 64
  num : ∀ row ∈ M, ∀ q ∈ row, 0 ≤ q ∧ q ≤ 100 ∧ Cd 42 4200 q
  fits : Fits n m M
theorem Good.n64 {M : List (List Rat)} {n m : Nat} (g : Good M n m) : n ≤ 64 := Nat.le_trans (Nat.le_mul_of_pos_right n g.mat.m0) g.size
theorem Good.m64 {M : List (List Rat)} {n m : Nat} (g : Good M n m) : m ≤ 64 := Nat.le_trans (Nat.le_mul_of_pos_left m g.mat.n0) g.size
theorem Good.bits {M : List (List Rat)} {n m : Nat} (g : Good M n m) : ∀ row ∈ M, ∀ q ∈ row, Bits q 13 := fun row hr q hq => (g.num row hr q hq).2.2.bits (by decide) (by decide) (by decide)
theorem Good.good {M : List (List Rat)} {n m : Nat} (g : Good M n m) : GoodMat M 13 :=
  ⟨by rw [g.mat.rows]; exact g.mat.n0, ⟨m, g.mat.m0, by rw [g.mat.rows]; exact g.size, g.mat.each⟩, fun r hr q hq => ⟨(g.num r hr q hq).1, (g.num r hr q hq).2.1, g.bits r hr q hq⟩, by decide⟩
theorem Good.pos {M : List (List Rat)} {n m : Nat} (g : Good M n m) : ∀ i j, i < n → j < m → 0 ≤ ent M i j := fun i j hi hj => by
  have e : M[i]? = some (M.getD i []) := some_getD (by rw [g.mat.rows]; exact hi)
  have e2 : (M.getD i [])[j]? = some ((M.getD i []).getD j 0) := some_getD (by rw [g.mat.row hi]; exact hj)
  exact (g.num _ (List.mem_of_getElem? e) _ (List.mem_of_getElem? e2)).1
/-- the columns -/
def colsOf (M : List (List Rat)) (m : Nat) : List (List Rat) := (List.range m).map fun j => M.map (·.getD j 0)
def spColumnsOf (K : PySem.W.Frag) : Sp := fun vs H Q _ => ∃ (m0 : V) (M : List (List Rat)) (n m : Nat), vs = [m0] ∧ MaV K H m0 M ∧ Mat n m M ∧ n ≤ 1000 ∧ m ≤ 1000 ∧ ∀ v H', Ex H H' → LsV RoV K H' v (colsOf M m) → Q v H'
def spTold (K : PySem.W.Frag) : Sp := fun vs H Q _ => ∃ (m0 : V) (M : List (List Rat)) (n m : Nat), vs = [m0] ∧ MaV K H m0 M ∧ Good M n m ∧ ∀ v H' x, Ex H H' → ToV K H' v x → Told (2 ^ 2047) M n m x.1 x.2.1 x.2.2 → Q v H'
theorem ts_of {K : PySem.W.Frag} {H : Hp} {m : Nat} {vs : List V} {M : List (List Rat)} (p : Paired (RoV K H) vs M) (hm : ∀ r ∈ M, r.length = m) : ∃ (ts : List Addr) (rows : List (List V)), vs = ts.map V.ref ∧ Paired (fun t row => SqT K H t row ∧ row.length = m) ts rows ∧ Paired (fun row r => Paired (FrV K H) row r) rows M := by
  induction p with
  | nil => exact ⟨[], [], rfl, .nil, .nil⟩
  | @cons v r vs M h _ ih =>
    obtain ⟨ts, rows, e, p1, p2⟩ := ih fun r hr => hm r (List.mem_cons_of_mem _ hr)
    obtain ⟨a, ws, ev, ht, hp⟩ := h
    exact ⟨a :: ts, ws :: rows, by rw [ev, e]; rfl, .cons ⟨ht, by rw [Paired.length hp]; exact hm r List.mem_cons_self⟩ p1, .cons hp p2⟩
theorem col_paired {K : PySem.W.Frag} {H : Hp} {m j : Nat} (hj : j < m) {rows : List (List V)} {M : List (List Rat)} (p : Paired (fun row r => Paired (FrV K H) row r) rows M) (hm : ∀ r ∈ M, r.length = m) : Paired (FrV K H) (rows.map fun r => r.getD j .non) (M.map (·.getD j 0)) := by
  induction p with
  | nil => exact .nil
  | @cons v r vs M h _ ih =>
    refine .cons ?_ (ih fun r hr => hm r (List.mem_cons_of_mem _ hr))
    have hl := hm r List.mem_cons_self
    obtain ⟨x, hx, fx⟩ := paired_at h (some_getD (d := 0) (by omega : j < r.length))
    show FrV K H (v.getD j .non) (r.getD j 0)
    rw [getD_of hx]; exact fx
/-- what list(zip(..)) gives, as a list of rows -/
theorem cols_pr {K : PySem.W.Frag} {H H2 : Hp} {m : Nat} {as : List Addr} {rows : List (List V)} {M : List (List Rat)} (e : Ex H H2) (hp : Paired (fun a col => H2 a = some (.tup col)) as ((List.range m).map fun j => rows.map fun r => r.getD j .non))
    (p2 : Paired (fun row r => Paired (FrV K H) row r) rows M) (hm : ∀ r ∈ M, r.length = m) : Paired (RoV K H2) (as.map V.ref) (colsOf M m) := by
  have main : ∀ (as : List Addr) (js : List Nat), (∀ j ∈ js, j < m) → Paired (fun a col => H2 a = some (.tup col)) as (js.map fun j => rows.map fun r => r.getD j .non) → Paired (RoV K H2) (as.map V.ref) (js.map fun j => M.map (·.getD j 0)) := by
    intro as js
    induction js generalizing as with
    | nil => intro _ h; cases h; exact .nil
    | cons j js ih =>
      intro hjs h
      cases h with
      | cons h t => exact .cons ⟨_, _, rfl, st_of h, L2.Paired.mapP (col_paired (hjs j List.mem_cons_self) p2 hm) fun v x r => FrV.ex _ _ _ _ e r⟩ (ih _ (fun j hj => hjs j (List.mem_cons_of_mem _ hj)) t)
  exact main as (List.range m) (fun j hj => List.mem_range.mp hj) hp
theorem cols_ls {K : PySem.W.Frag} {H H2 : Hp} {m : Nat} {D : Addr} {as : List Addr} {rows : List (List V)} {M : List (List Rat)} (e : Ex H H2) (hD : H2 D = some (.lst (as.map V.ref))) (hp : Paired (fun a col => H2 a = some (.tup col)) as ((List.range m).map fun j => rows.map fun r => r.getD j .non))
    (p2 : Paired (fun row r => Paired (FrV K H) row r) rows M) (hm : ∀ r ∈ M, r.length = m) : LsV RoV K H2 (.ref D) (colsOf M m) := ⟨D, _, rfl, sq_of hD, cols_pr e hp p2 hm⟩
section
variable {P : Program} {w : World} {K : PySem.W.Frag} {mg : Str → Option Value} {base : Heap}
theorem scColumnsOf : FnScope ["matrix"] ["matrix"] (defScope sColumnsOf) := ⟨rfl, rfl, rfl, by decide +kernel, rfl, by decide +kernel, by decide +kernel⟩
theorem ok_columns_of (T : Bt mg) (F : Dn K mg "columns_of" sColumnsOf ["matrix"]) : Fn P w K mg base "columns_of" ["matrix"] 1 (spColumnsOf K) := by
  refine F.fn scColumnsOf (fun vs H Q E h => ?_) (fun f cdv A outer s0 H vs Q E hr h => ?_)
  · obtain ⟨_, _, _, _, rfl, _⟩ := h; rfl
  obtain ⟨m0, M, n, m, rfl, ⟨a, vs, rfl, ht, hp⟩, mat, hn, hm, k⟩ := h
  refine ⟨_, pss_one (ps_ret (pe_listZipS rfl (by rfl) T.list (by rfl) T.zip (pv 0))), ?_⟩
  obtain ⟨ts, rows, ev, p1, p2⟩ := ts_of hp mat.each
  have tl : ts.length = n := by rw [← mat.rows, ← Paired.length hp, ev, List.length_map]
  have n0 := mat.n0
  refine ⟨_, rfl, a, ts, rfl, by rw [← ev]; exact ht, fun z => by rw [z] at tl; exact absurd tl (by show ¬ 0 = n; omega), by omega, rows, m, mat.m0, hm, p1, fun D as H2 _ e hD hpD => k _ H2 e (cols_ls e hD hpD p2 mat.each)⟩
theorem scTold : FnScope ["matrix"] ["matrix"] (defScope sTold) := ⟨rfl, rfl, rfl, by decide +kernel, rfl, by decide +kernel, by decide +kernel⟩
theorem ok_told (F : Dn K mg "matrix_told" sTold ["matrix"]) (GC : Fn P w K mg base "check_matrix" ["matrix"] 5 (spCheckMatrix K)) (GS : Fn P w K mg base "solved" ["matrix"] 7 (spSolved K)) : Fn P w K mg base "matrix_told" ["matrix"] 8 (spTold K) := by
  refine F.fn scTold (fun vs H Q E h => ?_) (fun f cdv A outer s0 H vs Q E hr h => ?_)
  · obtain ⟨_, _, _, _, rfl, _⟩ := h; rfl
  obtain ⟨m0, M, n, m, rfl, hm, g, k⟩ := h
  refine ⟨_, pss_cons (ps_expr (pe_fn GC (hr.mono (by decide)) (pa_cons (pv 0) pa_nil))) (pss_one (ps_ret (pe_fn GS hr (pa_cons (pv 0) pa_nil)))), ?_⟩
  refine ⟨_, rfl, ?_⟩
  refine ⟨m0, M, 13, rfl, hm, g.good, fun H1 e1 => ?_⟩
  refine ⟨_, rfl, ?_⟩
  refine ⟨m0, M, n, m, 13, rfl, MaV.mono (ExT.of e1) hm, g.mat, g.n64, g.m64, g.pos, g.bits, by decide, g.fits, fun v H' x e2 hv ht => k v H' x (e1.trans e2) hv ht⟩
end
end Mx
end
section
set_option Elab.async false
set_option linter.all false
set_option maxRecDepth 100000
set_option maxHeartbeats 4000000
/-! shows_matrix. -/
namespace Mx
open PySem L2 Evl Fra
open Sx (Mat ent Told Shows)
abbrev sShows : Stmt := top 33
def spShows (K : PySem.W.Frag) : Sp := fun vs H Q _ => ∃ (m0 v0 : V) (M : List (List Rat)) (n m : Nat) (x : Rat × List Rat × List Rat) (d B : Nat), vs = [m0, v0] ∧ MaV K H m0 M ∧ Good M n m ∧ ToV K H v0 x ∧ Bits x.1 2170 ∧ 0 < d ∧ d < 2 ^ 2130 ∧ 0 < B ∧ B < 2 ^ 2130 ∧ (∀ q ∈ x.2.1, Cd d B q) ∧ (∀ q ∈ x.2.2, Cd d B q) ∧ x.2.1.length ≤ 64 ∧ x.2.2.length ≤ 64 ∧
  ∀ b H', Ex H H' → (b = true ↔ 0 ≤ x.1 ∧ Shows M n m x.1 x.2.1 x.2.2) → Q (.bl b) H'
theorem lt60 {x n : Nat} (h : x < 2 ^ 2130) (hn : 2130 ≤ n) : x < 2 ^ n := Nat.lt_of_lt_of_le h (Nat.pow_le_pow_right (by decide) hn)
theorem fine_of {qs : List Rat} {d B : Nat} (h : ∀ q ∈ qs, Cd d B q) (d0 : 0 < d) (hd : d < 2 ^ 2130) (hB : B < 2 ^ 2130) (hl : qs.length ≤ 64) : Fine qs d B 2140 := by
  refine ⟨h, d0, lt60 hd (by decide), ?_, by decide, by omega⟩
  have h1 : (qs.length + 1) * B ≤ 2 ^ 7 * B := Nat.mul_le_mul_right _ (by have : 2 ^ 7 = 128 := rfl; omega)
  refine Nat.lt_of_le_of_lt h1 ?_
  have h2 : 2 ^ 7 * B < 2 ^ 7 * 2 ^ 2130 := (Nat.mul_lt_mul_left (by decide)).mpr hB
  rw [← Nat.pow_add] at h2
  exact Nat.lt_of_lt_of_le h2 (Nat.pow_le_pow_right (by decide) (by decide))
theorem mean_fits {d B n : Nat} (hd : d < 2 ^ 2130) (hB : B < 2 ^ 2130) (hl : n ≤ 64) : d * 42 < 2 ^ 2170 ∧ (n + 1) * (B * 4200) < 2 ^ 2170 := by
  have e : 2 ^ 2170 = 2 ^ 2130 * 2 ^ 40 := by rw [← Nat.pow_add]
  have e2 : 2 ^ 40 = 1099511627776 := rfl
  rw [e]
  generalize 2 ^ 2130 = p at *
  rw [e2]
  constructor
  · exact Nat.lt_of_lt_of_le ((Nat.mul_lt_mul_right (by decide)).mpr hd) (Nat.mul_le_mul_left _ (by decide))
  · have h1 : (n + 1) * (B * 4200) ≤ 65 * (B * 4200) := Nat.mul_le_mul_right _ (by omega)
    omega
theorem mean_bits {xs ys : List Rat} {d B : Nat} (hx : ∀ q ∈ xs, Cd d B q) (hy : ∀ q ∈ ys, Cd 42 4200 q) (d0 : 0 < d) (hd : d < 2 ^ 2130) (hB : B < 2 ^ 2130) (hl : xs.length ≤ 64) : Bits (sumQ (List.zipWith (· * ·) xs ys)) 2170 := by
  have all : ∀ q ∈ List.zipWith (· * ·) xs ys, Cd (d * 42) (B * 4200) q := fun q hq => by
    obtain ⟨i, hi, e⟩ := List.getElem_of_mem hq
    rw [List.getElem_zipWith] at e
    rw [← e]
    exact (hx _ (List.getElem_mem _)).mul (hy _ (List.getElem_mem _))
  obtain ⟨h1, h2⟩ := mean_fits hd hB hl
  refine (sumQ_all all).bits (Nat.mul_pos d0 (by decide)) h1 (Nat.lt_of_le_of_lt (Nat.mul_le_mul_right _ ?_) h2)
  rw [List.length_zipWith]; omega
theorem col_cd {M : List (List Rat)} {n m j : Nat} (g : Good M n m) (hj : j < m) : ∀ q ∈ M.map (·.getD j 0), Cd 42 4200 q := fun q hq => by
  obtain ⟨r, hr, rfl⟩ := List.mem_map.mp hq
  have e : r[j]? = some (r.getD j 0) := some_getD (by rw [g.mat.each r hr]; exact hj)
  exact (g.num r hr _ (List.mem_of_getElem? e)).2.2
section
variable {P : Program} {w : World} {K : PySem.W.Frag} {mg : Str → Option Value} {base : Heap}
theorem scShows : FnScope ["matrix", "value", "least", "most", "column", "row"] ["matrix", "value"] (defScope sShows) := ⟨rfl, rfl, rfl, by decide +kernel, rfl, by decide +kernel, by decide +kernel⟩
theorem ok_shows (T : Bt mg) (G : Gc K mg) (F : Dn K mg "shows_matrix" sShows ["matrix", "value"]) (GC : Fn P w K mg base "check_matrix" ["matrix"] 5 (spCheckMatrix K)) (GF : Fn P w K mg base "is_fraction" ["value"] 2 (spIsFraction K)) (GS : Fn P w K mg base "is_share" ["value", "many"] 5 (spIsShare K))
    (GM : Fn P w K mg base "mean_of" ["shares", "some"] 5 (spMean K)) (GL : Fn P w K mg base "least_of" ["some"] 2 (spLeast K Fra.leastQ)) (GG : Fn P w K mg base "greatest_of" ["some"] 2 (spLeast K Fra.mostQ)) (GI : Fn P w K mg base "is_less" ["one", "other"] 1 (spLess K)) (GO : Fn P w K mg base "columns_of" ["matrix"] 1 (spColumnsOf K)) :
    Fn P w K mg base "shows_matrix" ["matrix", "value"] 6 (spShows K) := by
  refine F.fn scShows (fun vs H Q E h => ?_) (fun f cdv A outer s0 H vs Q E hr h => ?_)
  · obtain ⟨_, _, _, _, _, _, _, _, rfl, _⟩ := h; rfl
  obtain ⟨m0, v0, M, n, m, x, d, B, rfl, hm, g, hv, hb1, d0, hd, B0, hB, hr1, hc1, hrl, hcl, k⟩ := h
  obtain ⟨t3, g3⟩ := G.three
  refine ⟨_, pss_cons (ps_expr (pe_fn GC hr (pa_cons (pv 0) pa_nil)))
    (pss_cons (ps_if (PW.pt (pw_or (pt_not (pt_val (pe_callB call_isi (by rfl) T.isinstance (by decide +kernel) (pa_cons (pv 1) (pa_cons (pe_bltn (v := .ty "tuple") (by rfl) T.tuple (by decide +kernel) rfl) pa_nil)))))
        (pw_or (pt_cmpR op_ne (pe_callB call_len (by rfl) T.len PySem.boot_len (pa_cons (pv 1) pa_nil)) (pe_glob (v := .int 3) rfl g3 ⟨_, rfl⟩) (nomark _))
        (pw_or1 (pt_not (pt_val (pe_fn GF (hr.mono (by decide)) (pa_cons (pe_ix ix_tup (pv 1) pe_int (fun _ _ => rfl)) pa_nil)))))))) (pss_one (ps_ret pe_bl)) pss_nil)
    (pss_cons (ps_if (PW.pt (pw_or (pt_not (pt_val (pe_fn GS hr (pa_cons (pe_ix ix_tup (pv 1) pe_int (fun _ _ => rfl)) (pa_cons (pe_callB call_len (by rfl) T.len PySem.boot_len (pa_cons (pv 0) pa_nil)) pa_nil)))))
        (pw_or1 (pt_not (pt_val (pe_fn GS hr (pa_cons (pe_ix ix_tup (pv 1) (pe_un un_neg pe_int) (fun _ _ => rfl)) (pa_cons (pe_callB call_len (by rfl) T.len PySem.boot_len (pa_cons (pe_ix ix_tup (pv 0) pe_int (fun _ _ => rfl)) pa_nil)) pa_nil)))))))) (pss_one (ps_ret pe_bl)) pss_nil)
    (pss_cons (ps_set (i := 2) scShows.nd rfl (.inl rfl) (pe_fn GL (hr.mono (by decide)) (pa_cons (pe_lc (own := [("column", 4)]) (g := gName 4) (by rfl) scShows.nd (pi_list (pe_fn GO (hr.mono (by decide)) (pa_cons (pv 0) pa_nil))) (blkOk_by (own := [("column", 4)]) (N := ["matrix", "value", "least", "most", "column", "row"]) (sc := defScope sShows) (by decide +kernel))
        (fun _ _ _ _ _ => pg_name (i := 4) scShows.nd rfl (Or.inl rfl)) (fun _ _ _ _ _ => pts_nil) (fun _ _ _ _ _ => pe_fn GM hr (pa_cons (pe_ix (r := rIxT K) ix_tup (pv 1) pe_int (fun _ _ => rfl)) (pa_cons (pv 4) pa_nil)))) pa_nil)))
    (pss_cons (ps_set (i := 3) scShows.nd rfl (.inl rfl) (pe_fn GG (hr.mono (by decide)) (pa_cons (pe_lc (own := [("row", 5)]) (g := gName 5) (by rfl) scShows.nd (pi_tup (pv 0)) (blkOk_by (own := [("row", 5)]) (N := ["matrix", "value", "least", "most", "column", "row"]) (sc := defScope sShows) (by decide +kernel))
        (fun _ _ _ _ _ => pg_name (i := 5) scShows.nd rfl (Or.inl rfl)) (fun _ _ _ _ _ => pts_nil) (fun _ _ _ _ _ => pe_fn GM hr (pa_cons (pe_ix (r := rIxT K) ix_tup (pv 1) (pe_un un_neg pe_int) (fun _ _ => rfl)) (pa_cons (pv 5) pa_nil)))) pa_nil)))
    (pss_one (ps_ret (pe_and (pe_not (pe_fn GI (hr.mono (by decide)) (pa_cons (pv 2) (pa_cons (pe_ix ix_tup (pv 1) pe_int (fun _ _ => rfl)) pa_nil)))) (pe_one (pe_not (pe_fn GI (hr.mono (by decide)) (pa_cons (pe_ix ix_tup (pv 1) pe_int (fun _ _ => rfl)) (pa_cons (pv 3) pa_nil)))))))))))), ?_⟩
  obtain ⟨val, rs, cs⟩ := x
  obtain ⟨av, w0, w1, w2, rfl, htv, f0, ⟨ar, wr, rfl, htr, hpr⟩, ⟨ac, wc, rfl, htc, hpc⟩⟩ := hv
  obtain ⟨am, vsm, rfl, htm, hpm⟩ := hm
  dsimp only at f0 hpr hpc hb1 hr1 hc1 hrl hcl k
  have n0 := g.mat.n0
  have m0 := g.mat.m0
  have n64 := g.n64
  have m64 := g.m64
  have lenm : vsm.length = n := by rw [Paired.length hpm, g.mat.rows]
  obtain ⟨vr0, hvr0⟩ : ∃ v, vsm[0]? = some v := ⟨vsm[0]'(by omega), by simp [show 0 < vsm.length by omega]⟩
  obtain ⟨row0, hrow0, ⟨a0, ws0, rfl, ht0, hp0⟩⟩ := wk_list.pget hpm hvr0
  have len0 : ws0.length = m := by rw [Paired.length hp0]; exact g.mat.each _ (List.mem_of_getElem? hrow0)
  have at0' : atI vsm 0 = some (.ref a0) := by have := atI_nat hvr0; exact this
  have at2 : atI [w0, V.ref ar, V.ref ac] (-1) = some (.ref ac) := atI_m1 rfl
  refine sq (t := tDrop (tCall (spCheckMatrix K) [] E0 (tCons (tVar 0) tNil))) ⟨_, rfl, ?_⟩
  refine ⟨_, M, 13, rfl, ⟨am, vsm, rfl, htm, hpm⟩, g.good, fun H1 e1 => ?_⟩
  -- a triple with a fraction
  have v1 : ∀ H', Ev (tVar 1) [some (V.ref am), some (V.ref av), none, none, none, none] H' (.ref av) := fun _ => ev_var rfl
  have v0' : ∀ H', Ev (tVar 0) [some (V.ref am), some (V.ref av), none, none, none, none] H' (.ref am) := fun _ => ev_var rfl
  have test1 : EvT (tOr (tNot (tB (tCB (rIsi K) (tCons (tVar 1) (tCons (tC (.ty "tuple")) tNil))))) (tOr (tTest (tOp rNe (tCB (fun xs H Q => ∃ x n, xs = [x] ∧ LenV K x H n ∧ Q (.int n) H) (tCons (tVar 1) tNil)) (tC (.int 3))))
      (tNot (tB (tCall (spIsFraction K) [] E0 (tCons (tOp (rIxT K) (tVar 1) (tC (.int 0))) tNil)))))) [some (V.ref am), some (V.ref av), none, none, none, none] H1 (!decide (0 ≤ val)) :=
    et_is (et_or (et_not (et_B (ev_isT (v := .non) (v1 H1) (ex_t e1 htv)))) fun _ => et_or (et_neI (ev_lenT (n := 3) (v1 H1) (ex_t e1 htv) rfl) ev_c) fun _ => et_not (et_B (ev_fn (ea_cons (ev_ixT0 (w := .non) (v1 H1) (ex_t e1 htv)) ea_nil) fun H2 e2 Q2 E2 k2 => ⟨w0, val, rfl, f0.mono (ExT.of (e1.trans e2)), fun H3 e3 => k2 H3 e3⟩))) (by rfl)
  refine s_ifret test1 (fun yes H2 e2 => ?_) fun no H2 e2 => ?_
  · refine k false H2 (e1.trans e2) ⟨fun z => (by cases z), fun z => ?_⟩
    rw [decide_eq_true z.1] at yes; cases yes
  have val0 : 0 ≤ val := of_decide_eq_true (by cases h : decide (0 ≤ val) <;> rw [h] at no <;> first | rfl | cases no)
  have e12 := e1.trans e2
  have lenM : Ev (tCB (fun xs H Q => ∃ x n, xs = [x] ∧ LenV K x H n ∧ Q (.int n) H) (tCons (tVar 0) tNil)) [some (V.ref am), some (V.ref av), none, none, none, none] H2 (.int (n : Nat)) := ev_lenT (v0' H2) (ex_t e12 htm) lenm
  have test2 : EvT (tOr (tNot (tB (tCall (spIsShare K) [] E0 (tCons (tOp (rIxT K) (tVar 1) (tC (.int 1))) (tCons (tCB (fun xs H Q => ∃ x n, xs = [x] ∧ LenV K x H n ∧ Q (.int n) H) (tCons (tVar 0) tNil)) tNil)))))
      (tNot (tB (tCall (spIsShare K) [] E0 (tCons (tOp (rIxT K) (tVar 1) (tUn (rU fun i => .int (-i)) (tC (.int 1)))) (tCons (tCB (fun xs H Q => ∃ x n, xs = [x] ∧ LenV K x H n ∧ Q (.int n) H) (tCons (tOp (rIxT K) (tVar 0) (tC (.int 0))) tNil)) tNil)))))) [some (V.ref am), some (V.ref av), none, none, none, none] H2 (!isShare rs n || !isShare cs m) :=
    et_or (et_not (et_B (ev_fn (ea_cons (ev_ixT1 (v1 H2) (ex_t e12 htv)) (ea_cons lenM ea_nil)) fun H3 e3 Q3 E3 k3 => ⟨_, rs, n, d, B, 2140, rfl, TuV.mono (fun v x r => r.mono (ExT.of (e12.trans e3))) (ExT.of (e12.trans e3)) ⟨ar, wr, rfl, htr, hpr⟩, fine_of hr1 d0 hd hB hrl, fun H4 e4 => k3 H4 e4⟩)))
      fun _ => et_not (et_B (ev_fn (ea_cons (ev_op (v1 H2) (ev_un ev_c ru_neg) (rv_ixT (ex_t e12 htv) at2)) (ea_cons (ev_lenT (ev_op (v0' H2) ev_c (rv_ixT (ex_t e12 htm) at0')) (ex_t e12 ht0) len0) ea_nil)) fun H3 e3 Q3 E3 k3 => ⟨_, cs, m, d, B, 2140, rfl, TuV.mono (fun v x r => r.mono (ExT.of (e12.trans e3))) (ExT.of (e12.trans e3)) ⟨ac, wc, rfl, htc, hpc⟩, fine_of hc1 d0 hd hB hcl, fun H4 e4 => k3 H4 e4⟩))
  refine s_ifret test2 (fun yes H3 e3 => ?_) fun no2 H3 e3 => ?_
  · refine k false H3 (e12.trans e3) ⟨fun z => (by cases z), fun z => ?_⟩
    obtain ⟨_, s⟩ := z
    have h1 : isShare rs n = true := decide_eq_true ⟨by rw [s.rl], s.r0, s.rsum⟩
    have h2 : isShare cs m = true := decide_eq_true ⟨by rw [s.cl], s.c0, s.csum⟩
    rw [h1, h2] at yes; cases yes
  have sh : isShare rs n = true ∧ isShare cs m = true := by
    cases h1 : isShare rs n <;> cases h2 : isShare cs m <;> rw [h1, h2] at no2 <;> first | exact ⟨rfl, rfl⟩ | cases no2
  obtain ⟨rl, r0, rsum⟩ := of_decide_eq_true sh.1
  obtain ⟨cl, c0, csum⟩ := of_decide_eq_true sh.2
  have rl' : rs.length = n := by omega
  have cl' : cs.length = m := by omega
  have e13 := e12.trans e3
  -- the least of the columns
  have rs_V : ∀ H', Ex H H' → TuV FrV K H' (.ref ar) rs := fun H' e => TuV.mono (fun v x r => r.mono (ExT.of e)) (ExT.of e) ⟨ar, wr, rfl, htr, hpr⟩
  have cs_V : ∀ H', Ex H H' → TuV FrV K H' (.ref ac) cs := fun H' e => TuV.mono (fun v x r => r.mono (ExT.of e)) (ExT.of e) ⟨ac, wc, rfl, htc, hpc⟩
  have mean : ∀ (H4 : Hp) (te tf : TE) (σ : L2.St) (a : Addr) (v : V) (xs ys : List Rat), Ev te σ H4 (.ref a) → Ev tf σ H4 v → TuV FrV K H4 (.ref a) xs → RoV K H4 v ys → (∀ q ∈ xs, Cd d B q) → (∀ q ∈ ys, Cd 42 4200 q) → xs.length ≤ 64 →
      Gv (tCall (spMean K) [] E0 (tCons te (tCons tf tNil))) σ H4 (fun v H5 => FrV K H5 v (sumQ (List.zipWith (· * ·) xs ys))) := by
    intro H4 te tf σ a v xs ys h1 h2 hx hy cx cy hl
    refine gv_call (B := fun vs' _ => vs' = [.ref a, v]) (fun H5 e5 Q q => ea_cons h1 (ea_cons h2 ea_nil) H5 e5 Q fun H6 e6 => q _ H6 e6 rfl) fun vs' H5 e5 hv' Q E q' => ?_
    subst hv'
    obtain ⟨f1, f2⟩ := mean_fits hd hB hl
    exact ⟨_, _, xs, ys, d, 42, B, 4200, 2170, rfl, TuV.mono (fun v x r => r.mono (ExT.of e5)) (ExT.of e5) hx, RoV.mono (ExT.of e5) hy, by omega, cx, cy, d0, by decide, B0, by decide, f1, f2, by decide, fun u H6 e6 hu => q' u H6 e6 hu⟩
  have colsl : (colsOf M m).length = m := by unfold colsOf; rw [List.length_map, List.length_range]
  have colmem : ∀ c ∈ colsOf M m, ∃ j, j < m ∧ c = M.map (·.getD j 0) := fun c hc => by
    obtain ⟨j, hj, e⟩ := List.mem_map.mp hc
    exact ⟨j, List.mem_range.mp hj, e.symm⟩
  have gco : Gv (tCall (spColumnsOf K) [] E0 (tCons (tVar 0) tNil)) [some (V.ref am), some (V.ref av), none, none, none, none] H3 (fun v H' => LsV RoV K H' v (colsOf M m)) := by
    refine gv_call (B := fun vs' _ => vs' = [.ref am]) (fun H5 e5 Q q => ea_cons (v0' H3) ea_nil H5 e5 Q fun H6 e6 => q _ H6 e6 rfl) fun vs' H5 e5 hv' Q E q' => ?_
    subst hv'
    exact ⟨_, M, n, m, rfl, MaV.mono (ExT.of (e13.trans e5)) ⟨am, vsm, rfl, htm, hpm⟩, g.mat, by omega, by omega, fun v H' e hv => q' v H' e hv⟩
  have lc4 := gv_lc (R := FrV) (K := K) (g := gName 4) (te := tCall (spMean K) [] E0 (tCons (tOp (rIxT K) (tVar 1) (tC (.int 1))) (tCons (tVar 4) tNil))) (vs := [4]) (σ := [some (V.ref am), some (V.ref av), none, none, none, none]) (H := H3)
    (gn_list (K := K) gco RoV.ex) (by rw [colsl]; omega) (fun i => sumQ (List.zipWith (· * ·) rs ((colsOf M m).getD i []))) (fun _ _ _ _ e r => r.mono e)
    (fun i y H4 Q1 hi e4 ⟨c, hc, fc⟩ kk => by
      refine kk [some (V.ref am), some (V.ref av), none, none, some y, none] H4 (Ex.refl _) rfl ?_
      rw [getD_of hc]
      obtain ⟨j, hj, ec⟩ := colmem c (List.mem_of_getElem? hc)
      exact mean H4 _ _ _ ar y rs c (ev_ixT1 (ev_var rfl) (ex_t (e13.trans e4) htv)) (ev_var rfl) (rs_V H4 (e13.trans e4)) fc hr1 (by rw [ec]; exact col_cd g hj) hrl)
  rw [map_range (colsOf M m) [] (fun c => sumQ (List.zipWith (· * ·) rs c))] at lc4
  have bits1 : ∀ q ∈ (colsOf M m).map (fun c => sumQ (List.zipWith (· * ·) rs c)), Bits q 2170 := fun q hq => by
    obtain ⟨c, hc, rfl⟩ := List.mem_map.mp hq
    obtain ⟨j, hj, ec⟩ := colmem c hc
    exact mean_bits hr1 (by rw [ec]; exact col_cd g hj) d0 hd hB hrl
  have ne1 : ((colsOf M m).map fun c => sumQ (List.zipWith (· * ·) rs c)) ≠ [] := fun z => by
    have := congrArg List.length z
    rw [List.length_map, colsl] at this
    exact absurd this (by show ¬ m = 0; omega)
  have bits2 : ∀ q ∈ M.map (fun r => sumQ (List.zipWith (· * ·) cs r)), Bits q 2170 := fun q hq => by
    obtain ⟨r, hr', rfl⟩ := List.mem_map.mp hq
    exact mean_bits hc1 (fun q hq => (g.num r hr' q hq).2.2) d0 hd hB hcl
  have ne2 : (M.map fun r => sumQ (List.zipWith (· * ·) cs r)) ≠ [] := fun z => by
    have := congrArg List.length z
    rw [List.length_map, g.mat.rows] at this
    exact absurd this (by show ¬ n = 0; omega)
  obtain ⟨x1, r1, ex1⟩ := List.exists_cons_of_ne_nil ne1
  obtain ⟨x2, r2, ex2⟩ := List.exists_cons_of_ne_nil ne2
  have gleast : Gv (tCall (spLeast K Fra.leastQ) [] E0 (tCons (tLc (iList K (tCall (spColumnsOf K) [] E0 (tCons (tVar 0) tNil))) (gName 4) tYes (tCall (spMean K) [] E0 (tCons (tOp (rIxT K) (tVar 1) (tC (.int 1))) (tCons (tVar 4) tNil))) [4]) tNil)) [some (V.ref am), some (V.ref av), none, none, none, none] H3
      (fun v H4 => FrV K H4 v (Fra.leastQ x1 r1)) := by
    refine gv_call (ga_cons lc4 ga_nil (fun v Ha Hb e p => p.mono FrV.ex e)) fun vs' H5 e5 ⟨v, r', ev, hv, er⟩ Q E q' => ?_
    subst ev er
    have hv' := hv.ls
    rw [ex1] at hv' bits1
    exact ⟨v, x1, r1, 2170, rfl, hv', bits1, by decide, fun u H6 e6 hu => q' u H6 e6 hu⟩
  refine sq (s_asgG gleast fun vl H4 e4 hvl => ?_)
  have e14 := e13.trans e4
  have lc5 := gv_lc (R := FrV) (K := K) (g := gName 5) (te := tCall (spMean K) [] E0 (tCons (tOp (rIxT K) (tVar 1) (tUn (rU fun i => .int (-i)) (tC (.int 1)))) (tCons (tVar 5) tNil))) (vs := [5]) (σ := [some (V.ref am), some (V.ref av), some vl, none, none, none]) (H := H4)
    (gi_tup (K := K) (ev_var (i := 0) rfl) (ex_t e14 htm) (L2.Paired.mapP hpm fun v x r => RoV.ex _ _ _ _ e14 r) RoV.ex).gn (by rw [g.mat.rows]; omega) (fun i => sumQ (List.zipWith (· * ·) cs (M.getD i []))) (fun _ _ _ _ e r => r.mono e)
    (fun i y H5 Q1 hi e5 ⟨c, hc, fc⟩ kk => by
      refine kk [some (V.ref am), some (V.ref av), some vl, none, none, some y] H5 (Ex.refl _) rfl ?_
      rw [getD_of hc]
      exact mean H5 _ _ _ ac y cs c (ev_op (ev_var rfl) (ev_un ev_c ru_neg) (rv_ixT (ex_t (e14.trans e5) htv) at2)) (ev_var rfl) (cs_V H5 (e14.trans e5)) fc hc1 (fun q hq => (g.num c (List.mem_of_getElem? hc) q hq).2.2) hcl)
  rw [map_range M [] (fun c => sumQ (List.zipWith (· * ·) cs c))] at lc5
  have gmost : Gv (tCall (spLeast K Fra.mostQ) [] E0 (tCons (tLc (iTup K (tVar 0)) (gName 5) tYes (tCall (spMean K) [] E0 (tCons (tOp (rIxT K) (tVar 1) (tUn (rU fun i => .int (-i)) (tC (.int 1)))) (tCons (tVar 5) tNil))) [5]) tNil)) [some (V.ref am), some (V.ref av), some vl, none, none, none] H4
      (fun v H4 => FrV K H4 v (Fra.mostQ x2 r2)) := by
    refine gv_call (ga_cons lc5 ga_nil (fun v Ha Hb e p => p.mono FrV.ex e)) fun vs' H5 e5 ⟨v, r', ev, hv, er⟩ Q E q' => ?_
    subst ev er
    have hv' := hv.ls
    rw [ex2] at hv' bits2
    exact ⟨v, x2, r2, 2170, rfl, hv', bits2, by decide, fun u H6 e6 hu => q' u H6 e6 hu⟩
  refine sq (s_asgG gmost fun vm H5 e5 hvm => ?_)
  have e15 := e14.trans e5
  have bl : Bits (Fra.leastQ x1 r1) 2170 := bits1 _ (by rw [ex1]; exact leastQ_mem x1 r1)
  have bm : Bits (Fra.mostQ x2 r2) 2170 := bits2 _ (by rw [ex2]; exact mostQ_mem x2 r2)
  have fin : Ev (tAndV (tNotV (tCall (spLess K) [] E0 (tCons (tVar 2) (tCons (tOp (rIxT K) (tVar 1) (tC (.int 0))) tNil)))) (tNotV (tCall (spLess K) [] E0 (tCons (tOp (rIxT K) (tVar 1) (tC (.int 0))) (tCons (tVar 3) tNil))))) [some (V.ref am), some (V.ref av), some vl, some vm, none, none] H5
      (.bl (!decide (Fra.leastQ x1 r1 < val) && !decide (val < Fra.mostQ x2 r2))) := by
    refine ev_andV (ev_notV (ev_fn (ea_cons (ev_var rfl) (ea_cons (ev_ixT0 (w := .non) (ev_var rfl) (ex_t e15 htv)) ea_nil)) fun H6 e6 Q6 E6 k6 => ?_)) fun _ => ev_notV (ev_fn (ea_cons (ev_ixT0 (w := .non) (ev_var rfl) (ex_t e15 htv)) (ea_cons (ev_var rfl) ea_nil)) fun H6 e6 Q6 E6 k6 => ?_)
    · exact ⟨_, _, _, val, 2170, 2170, rfl, hvl.mono (ExT.of (e5.trans e6)), f0.mono (ExT.of (e15.trans e6)), bl, hb1, by omega, k6 H6 (Ex.refl _)⟩
    · exact ⟨_, _, val, _, 2170, 2170, rfl, f0.mono (ExT.of (e15.trans e6)), hvm.mono (ExT.of e6), hb1, bm, by omega, k6 H6 (Ex.refl _)⟩
  refine s_ret fin fun H6 e6 => k _ H6 (e15.trans e6) ⟨fun hb => ?_, fun ⟨_, s⟩ => ?_⟩
  · have h12 : ¬ Fra.leastQ x1 r1 < val ∧ ¬ val < Fra.mostQ x2 r2 := by
      constructor
      · intro z; rw [decide_eq_true z] at hb; cases hb
      · intro z; rw [decide_eq_true z, Bool.not_true, Bool.and_false] at hb; cases hb
    refine ⟨val0, rl', cl', r0, c0, rsum, csum, fun j hj => ?_, fun i hi => ?_⟩
    · have hm : sumQ (List.zipWith (· * ·) rs (M.map (·.getD j 0))) ∈ x1 :: r1 := by
        rw [← ex1]
        exact List.mem_map_of_mem (f := fun c => sumQ (List.zipWith (· * ·) rs c)) (List.mem_map_of_mem (f := fun j => M.map (·.getD j 0)) (List.mem_range.mpr hj))
      exact Rat.le_trans (Rat.not_lt.mp h12.1) (leastQ_le x1 r1 _ hm)
    · have e : M[i]? = some (M.getD i []) := some_getD (by rw [g.mat.rows]; exact hi)
      have hm : sumQ (List.zipWith (· * ·) cs (M.getD i [])) ∈ x2 :: r2 := by
        rw [← ex2]
        exact List.mem_map_of_mem (f := fun c => sumQ (List.zipWith (· * ·) cs c)) (List.mem_of_getElem? e)
      exact Rat.le_trans (mostQ_le x2 r2 _ hm) (Rat.not_lt.mp h12.2)
  · have h1 : ¬ Fra.leastQ x1 r1 < val := by
      have hm := leastQ_mem x1 r1
      rw [← ex1] at hm
      obtain ⟨c, hc, e⟩ := List.mem_map.mp hm
      obtain ⟨j, hj, ec⟩ := colmem c hc
      rw [← e, ec]
      exact Rat.not_lt.mpr (s.col j hj)
    have h2 : ¬ val < Fra.mostQ x2 r2 := by
      have hm := mostQ_mem x2 r2
      rw [← ex2] at hm
      obtain ⟨c, hc, e⟩ := List.mem_map.mp hm
      obtain ⟨i, hi, ei⟩ := List.getElem_of_mem hc
      have e3 : M.getD i [] = c := getD_of (by simp [hi, ei])
      rw [← e, ← e3]
      exact Rat.not_lt.mpr (s.row i (by rw [← g.mat.rows]; exact hi))
    rw [decide_eq_false h1, decide_eq_false h2]; rfl
end
end Mx
end
section
set_option Elab.async false
set_option linter.all false
set_option maxRecDepth 100000
set_option maxHeartbeats 4000000
/-! How often Euclid goes. -/
namespace Sx
def fib : Nat → Nat
  | 0 => 0
  | 1 => 1
  | n + 2 => fib (n + 1) + fib n
theorem fib_mono (n : Nat) : fib n ≤ fib (n + 1) := by
  match n with
  | 0 => decide
  | 1 => decide
  | n + 2 => simp only [fib]; omega
theorem fib5 (n : Nat) : 8 * fib (n + 1) ≤ fib (n + 6) := by
  have h := fib_mono (n + 1)
  simp only [fib] at *
  omega
theorem fib_pow : ∀ k, 8 ^ k ≤ fib (5 * k + 1)
  | 0 => by decide
  | k + 1 => by
    have h1 := fib_pow k
    have h2 := fib5 (5 * k)
    rw [show 5 * (k + 1) + 1 = 5 * k + 6 by omega, Nat.pow_succ]
    omega
theorem fib_big : 2 ^ 2390 < fib 4000 := by
  have h1 := fib_pow 799
  have h2 : fib 3996 ≤ fib 4000 := Nat.le_trans (fib_mono 3996) (Nat.le_trans (fib_mono 3997) (Nat.le_trans (fib_mono 3998) (fib_mono 3999)))
  have e : (8 : Nat) ^ 799 = 2 ^ 2397 := by
    rw [show (8 : Nat) = 2 ^ 3 from rfl, ← Nat.pow_mul]
  rw [e] at h1
  have h3 : (2 : Nat) ^ 2390 < 2 ^ 2397 := Nat.pow_lt_pow_right (by decide) (by decide)
  exact Nat.lt_of_lt_of_le h3 (Nat.le_trans h1 h2)
/-- where Euclid stands at lap i -/
structure Lap (t l : Int) (i : Nat) (one other : Int) : Prop where
  gcd : Int.gcd one other = Int.gcd t l
  ge : 0 ≤ other
  zero : i = 0 → one = t ∧ other = l
  succ : 0 < i → other < one ∧ (fib i : Int) * one + (fib (i - 1) : Int) * other ≤ l
theorem Lap.begin {t l : Int} (h : 0 < l) : Lap t l 0 t l := ⟨rfl, by omega, fun _ => ⟨rfl, rfl⟩, fun z => absurd z (Nat.lt_irrefl _)⟩
theorem Lap.next {t l : Int} {i : Nat} {one other : Int} (h : Lap t l i one other) (hl : 0 < l) (h0 : other ≠ 0) : Lap t l (i + 1) other (one % other) := by
  have op : 0 < other := by have := h.ge; omega
  have m0 := Int.emod_nonneg one h0
  have m1 := Int.emod_lt_of_pos one op
  refine ⟨?_, m0, fun z => absurd z (by omega), fun _ => ⟨m1, ?_⟩⟩
  · rw [← h.gcd, Int.gcd_comm one other]
    have e := Int.mul_ediv_add_emod one other
    have e2 := Int.gcd_mul_left_add_right other (one % other) (one / other)
    rw [e] at e2
    exact e2.symm
  · by_cases z : i = 0
    · obtain ⟨e1, e2⟩ := h.zero z
      subst z
      show ((fib 1 : Nat) : Int) * other + ((fib 0 : Nat) : Int) * (one % other) ≤ l
      simp only [fib]; rw [e2]; omega
    · obtain ⟨lt, s⟩ := h.succ (by omega)
      obtain ⟨k, rfl⟩ : ∃ k, i = k + 1 := ⟨i - 1, by omega⟩
      show ((fib (k + 2) : Nat) : Int) * other + ((fib (k + 1) : Nat) : Int) * (one % other) ≤ l
      have s' : ((fib (k + 1) : Nat) : Int) * one + ((fib k : Nat) : Int) * other ≤ l := s
      have dv : other + one % other ≤ one := by
        have e := Int.mul_ediv_add_emod one other
        have q1 : 1 ≤ one / other := (Int.le_ediv_iff_mul_le op).mpr (by omega)
        have q2 : other * 1 ≤ other * (one / other) := Int.mul_le_mul_of_nonneg_left q1 (by omega)
        omega
      have f0 : (0 : Int) ≤ (fib (k + 1) : Nat) := by omega
      have := Int.mul_le_mul_of_nonneg_left dv f0
      rw [Int.mul_add] at this
      have e2 : ((fib (k + 2) : Nat) : Int) = (fib (k + 1) : Nat) + (fib k : Nat) := by simp only [fib]; omega
      rw [e2, Int.add_mul]
      omega
theorem Lap.few {t l : Int} {one other : Int} (h : Lap t l 4000 one other) (hl : 0 < l) (hd : (Rat.divInt t l).den < 2 ^ 2390) : False := by
  obtain ⟨lt, s⟩ := h.succ (by decide)
  have ge := h.ge
  have one0 : 0 < one := by omega
  have g0 : 0 < Int.gcd t l := Int.gcd_pos_of_ne_zero_right t (by omega)
  have gle : (Int.gcd t l : Int) ≤ one := by
    rw [← h.gcd]
    have := Nat.gcd_le_left other.natAbs (show 0 < one.natAbs by omega)
    show ((Nat.gcd one.natAbs other.natAbs : Nat) : Int) ≤ one
    omega
  have big : (fib 4000 : Int) * (Int.gcd t l : Int) ≤ l := by
    have h1 : (fib 4000 : Int) * (Int.gcd t l : Int) ≤ (fib 4000 : Int) * one := Int.mul_le_mul_of_nonneg_left gle (by omega)
    have h2 : (0 : Int) ≤ (fib (4000 - 1) : Int) * other := Int.mul_nonneg (by omega) ge
    omega
  have den : ((Rat.divInt t l).den : Int) * (Int.gcd t l : Int) = l := by
    have e := Fra.part_den (t := t) (l := l) (by omega) _ rfl
    rw [if_pos hl, Int.one_mul] at e
    rw [← e]
    exact Int.ediv_mul_cancel (Int.gcd_dvd_right t l)
  have fb := fib_big
  have lt2 : (Rat.divInt t l).den < fib 4000 := Nat.lt_trans hd fb
  have big2 : (fib 4000 : Int) * (Int.gcd t l : Int) ≤ ((Rat.divInt t l).den : Int) * (Int.gcd t l : Int) := by rw [den]; exact big
  have := Int.le_of_mul_le_mul_right big2 (by omega)
  omega
end Sx
end
section
set_option Elab.async false
set_option linter.all false
set_option maxRecDepth 100000
set_option maxHeartbeats 4000000
/-! The law's own fractions. -/
namespace Mx
open PySem L2 Evl Fra
open Sx (Mat ent Told Shows)
abbrev sShort : Stmt := top 39
abbrev sLPlus : Stmt := top 40
abbrev sLTimes : Stmt := top 41
abbrev sLLess : Stmt := top 42
abbrev sLMinus : Stmt := top 44
def spShort (K : PySem.W.Frag) : Sp := fun vs H Q _ => ∃ (t l : Int), vs = [.int t, .int l] ∧ 0 < l ∧ l.natAbs < 2 ^ 9000 ∧ (Rat.divInt t l).den < 2 ^ 2390 ∧ ∀ u H', Ex H H' → FrV K H' u (Rat.divInt t l) → Q u H'
section
variable {P : Program} {w : World} {K : PySem.W.Frag} {mg : Str → Option Value} {base : Heap}
theorem scShort : FnScope ["top", "low", "one", "other", "lap"] ["top", "low"] (defScope sShort) := ⟨rfl, rfl, rfl, by decide +kernel, rfl, by decide +kernel, by decide +kernel⟩
theorem ok_short (T : Bt mg) (F : Dn K mg "_law_short" sShort ["top", "low"]) : Fn P w K mg base "_law_short" ["top", "low"] 1 (spShort K) := by
  refine F.fn scShort (fun vs H Q E h => ?_) (fun f cdv A outer s0 H vs Q E hr h => ?_)
  · obtain ⟨_, _, rfl, _⟩ := h; rfl
  obtain ⟨t, l, rfl, hl, hlb, hd, k⟩ := h
  refine ⟨_, pss_cons (ps_par (i := 2) (j := 3) (by rfl) scShort.nd rfl rfl (by decide) rfl rfl (pa_cons (pv 0) (pa_cons (pv 1) pa_nil)) (by rfl))
    (pss_cons (ps_for PassesOwn.never rfl (pi_range1 (by rfl) T.range (pa_cons pe_int pa_nil)) (pg_name (i := 4) scShort.nd rfl (Or.inl rfl))
      (pss_cons (ps_if (pt_cmpR op_eq (pv 3) pe_int (nomark _)) (pss_one ps_break) pss_nil)
        (pss_one (ps_par (i := 2) (j := 3) (by rfl) scShort.nd rfl rfl (by decide) rfl rfl (pa_cons (pv 3) (pa_cons (pe_op op_mod (pv 2) (pv 3)) pa_nil)) (by rfl)))))
    (pss_one (ps_ret (pe_tup (pa_cons (pe_callTy call_int1 (by rfl) T.int (by decide +kernel) (pa_cons (pe_op op_fdivW (pv 0) (pv 2)) pa_nil)) (pa_cons (pe_callTy call_int1 (by rfl) T.int (by decide +kernel) (pa_cons (pe_op op_fdivW (pv 1) (pv 2)) pa_nil)) pa_nil)))))), ?_⟩
  have fin : ∀ (one : Int) (o4 : Option V) (H' : Hp), Ex H H' → one = (Int.gcd t l : Int) → tRet (tTup (tCons (tCB (fun xs H Q => (∃ i, xs = [.int i] ∧ Q (.int i) H) ∨ ∃ k, xs = [.bl k] ∧ Q (.int (if k then 1 else 0)) H) (tCons (tOp (rI CDivW fun i j => .int (i / j)) (tVar 0) (tVar 2)) tNil)) (tCons (tCB (fun xs H Q => (∃ i, xs = [.int i] ∧ Q (.int i) H) ∨ ∃ k, xs = [.bl k] ∧ Q (.int (if k then 1 else 0)) H) (tCons (tOp (rI CDivW fun i j => .int (i / j)) (tVar 1) (tVar 2)) tNil)) tNil)))
      { nx := fun _ H' => Q .non H', rt := Q } [some (.int t), some (.int l), some (.int one), some (.int 0), o4] H' := by
    intro one o4 H' e e1
    have g0 : 0 < Int.gcd t l := Int.gcd_pos_of_ne_zero_right t (by omega)
    have gb : one.natAbs < 2 ^ 9000 := by
      have h1 : Int.gcd t l ≤ l.natAbs := Nat.gcd_le_right _ (by omega)
      rw [e1]
      exact Nat.lt_of_le_of_lt (by simpa using h1) hlb
    have gd : CDivW 0 one := wide_div (by omega) gb (by decide) (by decide)
    refine ⟨_, rfl, _, rfl, _, _, rfl, rfl, gd, .inl ⟨_, rfl, _, rfl, _, rfl, _, _, rfl, rfl, gd, .inl ⟨_, rfl, ?_⟩⟩⟩
    refine ⟨by show 2 ≤ sizeLine; decide, fun p hp => k _ _ (e.trans (Ex.new hp)) (FrV.new ?_ ?_)⟩
    · have := part_num (t := t) (l := l) (by omega) one e1
      rw [if_pos hl, Int.one_mul] at this; exact this
    · have := part_den (t := t) (l := l) (by omega) one e1
      rw [if_pos hl, Int.one_mul] at this; exact this
  refine sq (s_par (v := .int t) (w := .int l) (ea_cons (ev_var rfl) (ea_cons (ev_var rfl) ea_nil)) fun H1 e1 => ?_)
  refine sq (s_for (n := 4000) (B := fun i _ v => v = .int (0 + (i : Int))) (gn_range (ea_cons ev_c ea_nil) (by decide)) (fun H2 i σ' H' => Ex H2 H' ∧ ∃ (one other : Int) (o4 : Option V), σ' = [some (.int t), some (.int l), some (.int one), some (.int other), o4] ∧ Sx.Lap t l i one other)
    (fun H2 e2 => ⟨Ex.refl _, t, l, none, rfl, Sx.Lap.begin hl⟩) (fun _ _ _ _ p => p.1) ?_ ?_)
  · rintro H2 i x σ' H' H'' e2 hi ⟨e3, one, other, o4, rfl, lap⟩ e4 hx
    subst hx
    have eH : Ex H H'' := ((e1.trans e2).trans e3).trans e4
    have test : EvT (tTest (tOp rEq (tVar 3) (tC (.int 0)))) [some (.int t), some (.int l), some (.int one), some (.int other), some (.int (0 + (i : Int)))] H'' (decide (other = 0)) := et_eqI (ev_var rfl) ev_c
    refine sq (s_when test (fun yes H5 e5 => ?_) fun no H5 e5 => ?_)
    · have z : other = 0 := of_decide_eq_true yes
      subst z
      have one_g : one = (Int.gcd t l : Int) := by
        by_cases i0 : i = 0
        · obtain ⟨_, q⟩ := lap.zero i0
          omega
        · obtain ⟨lt, _⟩ := lap.succ (by omega)
          have := lap.gcd
          rw [Int.gcd_zero_right] at this
          omega
      exact fin one _ H5 (eH.trans e5) one_g
    · have nz : other ≠ 0 := of_decide_eq_false no
      have op : 0 < other := by have := lap.ge; omega
      refine s_par (v := .int other) (w := .int (one % other)) (ea_cons (ev_var rfl) (ea_cons (ev_op (ev_var rfl) (ev_var rfl) (rv_I (C := fun _ j => 0 < j) (g := fun i j => .int (i % j)) op)) ea_nil)) fun H6 e6 => ?_
      exact ⟨(e3.trans e4).trans (e5.trans e6), other, one % other, _, rfl, lap.next hl nz⟩
  · rintro H2 σ' H' e2 ⟨e3, one, other, o4, rfl, lap⟩
    exact absurd (lap.few hl hd) id
end
end Mx
end
section
set_option Elab.async false
set_option linter.all false
set_option maxRecDepth 100000
set_option maxHeartbeats 4000000
/-! The law's sums, products, order. -/
namespace Mx
open PySem L2 Evl Fra
/-- the law's short holds it -/
def CL (g : Rat → Rat → Rat) (p q : Rat) : Prop := (g p q).den < 2 ^ 2390
theorem den_pos2 (p q : Rat) : (0 : Int) < p.den * q.den := by
  have h1 : 0 < p.den := Nat.pos_of_ne_zero p.den_nz
  have h2 : 0 < q.den := Nat.pos_of_ne_zero q.den_nz
  exact Int.mul_pos (by omega) (by omega)
section
variable {P : Program} {w : World} {K : PySem.W.Frag} {mg : Str → Option Value} {base : Heap}
theorem scLPlus : FnScope ["one", "other"] ["one", "other"] (defScope sLPlus) := ⟨rfl, rfl, rfl, by decide +kernel, rfl, by decide +kernel, by decide +kernel⟩
theorem ok_lplus (F : Dn K mg "_law_plus" sLPlus ["one", "other"]) (G : Fn P w K mg base "_law_short" ["top", "low"] 1 (spShort K)) : Fn P w K mg base "_law_plus" ["one", "other"] 2 (spFr2 K (· + ·) (CL (· + ·))) := by
  refine F.fn scLPlus (fun vs H Q E h => ?_) (fun f cdv A outer s H vs Q E hr h => ?_)
  · obtain ⟨_, _, _, _, _, _, rfl, _⟩ := h; rfl
  obtain ⟨_, _, p, q, a, b, rfl, ⟨pa, rfl, hp⟩, ⟨qa, rfl, hq⟩, bp, bq, ab, dn, k⟩ := h
  refine ⟨_, pss_one (ps_ret (pe_fn G hr (pa_cons (pe_op op_add (pe_op op_mulW (pe_ix ix_tup (pv 0) pe_int (fun _ _ => rfl)) (pe_ix ix_tup (pv 1) pe_int (fun _ _ => rfl))) (pe_op op_mulW (pe_ix ix_tup (pv 1) pe_int (fun _ _ => rfl)) (pe_ix ix_tup (pv 0) pe_int (fun _ _ => rfl))))
    (pa_cons (pe_op op_mulW (pe_ix ix_tup (pv 0) pe_int (fun _ _ => rfl)) (pe_ix ix_tup (pv 1) pe_int (fun _ _ => rfl))) pa_nil)))), ?_⟩
  have m1 := mul_ok bp.1 (nd bq.2) (by omega : a + b ≤ 200000)
  have m2 := mul_ok bq.1 (nd bp.2) (by omega : b + a ≤ 200000)
  have m3 := mul_ok (nd bp.2) (nd bq.2) (by omega : a + b ≤ 200000)
  refine ⟨_, rfl, _, _, _, _, rfl, rfl, hp, at0, _, rfl, _, _, _, _, rfl, rfl, hq, at1, _, _, rfl, rfl, m1, _, rfl, _, _, _, _, rfl, rfl, hq, at0, _, rfl, _, _, _, _, rfl, rfl, hp, at1, _, _, rfl, rfl, m2, _, _, rfl, rfl,
    _, rfl, _, _, _, _, rfl, rfl, hp, at1, _, rfl, _, _, _, _, rfl, rfl, hq, at1, _, _, rfl, rfl, m3, _, _, rfl, den_pos2 p q, pow_le (mul_lt (nd bp.2) (nd bq.2)) (by omega), ?_, fun v H' e hv => ?_⟩
  · rw [plus_eq]; exact dn
  · rw [plus_eq] at hv
    exact k v H' e hv
theorem scLMinus : FnScope ["one", "other"] ["one", "other"] (defScope sLMinus) := ⟨rfl, rfl, rfl, by decide +kernel, rfl, by decide +kernel, by decide +kernel⟩
theorem ok_lminus (F : Dn K mg "_law_minus" sLMinus ["one", "other"]) (G : Fn P w K mg base "_law_short" ["top", "low"] 1 (spShort K)) : Fn P w K mg base "_law_minus" ["one", "other"] 2 (spFr2 K (· - ·) (CL (· - ·))) := by
  refine F.fn scLMinus (fun vs H Q E h => ?_) (fun f cdv A outer s H vs Q E hr h => ?_)
  · obtain ⟨_, _, _, _, _, _, rfl, _⟩ := h; rfl
  obtain ⟨_, _, p, q, a, b, rfl, ⟨pa, rfl, hp⟩, ⟨qa, rfl, hq⟩, bp, bq, ab, dn, k⟩ := h
  refine ⟨_, pss_one (ps_ret (pe_fn G hr (pa_cons (pe_op op_sub (pe_op op_mulW (pe_ix ix_tup (pv 0) pe_int (fun _ _ => rfl)) (pe_ix ix_tup (pv 1) pe_int (fun _ _ => rfl))) (pe_op op_mulW (pe_ix ix_tup (pv 1) pe_int (fun _ _ => rfl)) (pe_ix ix_tup (pv 0) pe_int (fun _ _ => rfl))))
    (pa_cons (pe_op op_mulW (pe_ix ix_tup (pv 0) pe_int (fun _ _ => rfl)) (pe_ix ix_tup (pv 1) pe_int (fun _ _ => rfl))) pa_nil)))), ?_⟩
  have m1 := mul_ok bp.1 (nd bq.2) (by omega : a + b ≤ 200000)
  have m2 := mul_ok bq.1 (nd bp.2) (by omega : b + a ≤ 200000)
  have m3 := mul_ok (nd bp.2) (nd bq.2) (by omega : a + b ≤ 200000)
  refine ⟨_, rfl, _, _, _, _, rfl, rfl, hp, at0, _, rfl, _, _, _, _, rfl, rfl, hq, at1, _, _, rfl, rfl, m1, _, rfl, _, _, _, _, rfl, rfl, hq, at0, _, rfl, _, _, _, _, rfl, rfl, hp, at1, _, _, rfl, rfl, m2, _, _, rfl, rfl,
    _, rfl, _, _, _, _, rfl, rfl, hp, at1, _, rfl, _, _, _, _, rfl, rfl, hq, at1, _, _, rfl, rfl, m3, _, _, rfl, den_pos2 p q, pow_le (mul_lt (nd bp.2) (nd bq.2)) (by omega), ?_, fun v H' e hv => ?_⟩
  · rw [minus_eq]; exact dn
  · rw [minus_eq] at hv
    exact k v H' e hv
theorem scLTimes : FnScope ["one", "other"] ["one", "other"] (defScope sLTimes) := ⟨rfl, rfl, rfl, by decide +kernel, rfl, by decide +kernel, by decide +kernel⟩
theorem ok_ltimes (F : Dn K mg "_law_times" sLTimes ["one", "other"]) (G : Fn P w K mg base "_law_short" ["top", "low"] 1 (spShort K)) : Fn P w K mg base "_law_times" ["one", "other"] 2 (spFr2 K (· * ·) (CL (· * ·))) := by
  refine F.fn scLTimes (fun vs H Q E h => ?_) (fun f cdv A outer s H vs Q E hr h => ?_)
  · obtain ⟨_, _, _, _, _, _, rfl, _⟩ := h; rfl
  obtain ⟨_, _, p, q, a, b, rfl, ⟨pa, rfl, hp⟩, ⟨qa, rfl, hq⟩, bp, bq, ab, dn, k⟩ := h
  refine ⟨_, pss_one (ps_ret (pe_fn G hr (pa_cons (pe_op op_mulW (pe_ix ix_tup (pv 0) pe_int (fun _ _ => rfl)) (pe_ix ix_tup (pv 1) pe_int (fun _ _ => rfl)))
    (pa_cons (pe_op op_mulW (pe_ix ix_tup (pv 0) pe_int (fun _ _ => rfl)) (pe_ix ix_tup (pv 1) pe_int (fun _ _ => rfl))) pa_nil)))), ?_⟩
  have m1 := mul_ok bp.1 bq.1 (by omega : a + b ≤ 200000)
  have m3 := mul_ok (nd bp.2) (nd bq.2) (by omega : a + b ≤ 200000)
  refine ⟨_, rfl, _, _, _, _, rfl, rfl, hp, at0, _, rfl, _, _, _, _, rfl, rfl, hq, at0, _, _, rfl, rfl, m1,
    _, rfl, _, _, _, _, rfl, rfl, hp, at1, _, rfl, _, _, _, _, rfl, rfl, hq, at1, _, _, rfl, rfl, m3, _, _, rfl, den_pos2 p q, pow_le (mul_lt (nd bp.2) (nd bq.2)) (by omega), ?_, fun v H' e hv => ?_⟩
  · rw [times_eq]; exact dn
  · rw [times_eq] at hv
    exact k v H' e hv
theorem scLLess : FnScope ["one", "other"] ["one", "other"] (defScope sLLess) := ⟨rfl, rfl, rfl, by decide +kernel, rfl, by decide +kernel, by decide +kernel⟩
theorem ok_lless (F : Dn K mg "_law_less" sLLess ["one", "other"]) : Fn P w K mg base "_law_less" ["one", "other"] 1 (spLess K) := by
  refine F.fn scLLess (fun vs H Q E h => ?_) (fun f cdv A outer s H vs Q E hr h => ?_)
  · obtain ⟨_, _, _, _, _, _, rfl, _⟩ := h; rfl
  obtain ⟨_, _, p, q, a, b, rfl, ⟨pa, rfl, hp⟩, ⟨qa, rfl, hq⟩, bp, bq, ab, k⟩ := h
  refine ⟨_, pss_one (ps_ret (pe_cmpR op_lt (pe_op op_mulW (pe_ix ix_tup (pv 0) pe_int (fun _ _ => rfl)) (pe_ix ix_tup (pv 1) pe_int (fun _ _ => rfl))) (pe_op op_mulW (pe_ix ix_tup (pv 1) pe_int (fun _ _ => rfl)) (pe_ix ix_tup (pv 0) pe_int (fun _ _ => rfl))) (nomark _))), ?_⟩
  have m1 := mul_ok bp.1 (nd bq.2) (by omega : a + b ≤ 200000)
  have m2 := mul_ok bq.1 (nd bp.2) (by omega : b + a ≤ 200000)
  refine ⟨_, rfl, _, _, _, _, rfl, rfl, hp, at0, _, rfl, _, _, _, _, rfl, rfl, hq, at1, _, _, rfl, rfl, m1, _, rfl, _, _, _, _, rfl, rfl, hq, at0, _, rfl, _, _, _, _, rfl, rfl, hp, at1, _, _, rfl, rfl, m2, _, _, rfl, rfl, ?_⟩
  have : decide (p.num * q.den < q.num * p.den) = decide (p < q) := decide_eq_decide.mpr (less_iff p q)
  show Q (.bl (decide (p.num * q.den < q.num * p.den))) H
  rw [this]
  exact k
end
end Mx
end
section
set_option Elab.async false
set_option linter.all false
set_option maxRecDepth 100000
set_option maxHeartbeats 4000000
/-! The law's turned matrix. -/
namespace Mx
open PySem L2 Evl Fra
open Sx (Mat ent Told Shows)
abbrev sTurned : Stmt := top 43
def spTurned (K : PySem.W.Frag) : Sp := fun vs H Q _ => ∃ (m0 : V) (M : List (List Rat)) (n m : Nat), vs = [m0] ∧ MaV K H m0 M ∧ Mat n m M ∧ n ≤ 1000 ∧ m ≤ 1000 ∧ ∀ v H', Ex H H' → MaV K H' v (colsOf M m) → Q v H'
section
variable {P : Program} {w : World} {K : PySem.W.Frag} {mg : Str → Option Value} {base : Heap}
theorem scTurned : FnScope ["matrix", "at", "row"] ["matrix"] (defScope sTurned) := ⟨rfl, rfl, rfl, by decide +kernel, rfl, by decide +kernel, by decide +kernel⟩
theorem ok_turned (T : Bt mg) (F : Dn K mg "_law_turned" sTurned ["matrix"]) : Fn P w K mg base "_law_turned" ["matrix"] 1 (spTurned K) := by
  refine F.fn scTurned (fun vs H Q E h => ?_) (fun f cdv A outer s0 H vs Q E hr h => ?_)
  · obtain ⟨_, _, _, _, rfl, _⟩ := h; rfl
  obtain ⟨m0, M, n, m, rfl, ⟨am, vsm, rfl, htm, hpm⟩, mat, hn, hm, k⟩ := h
  refine ⟨_, pss_one (ps_ret (pe_callTy call_tuple_of (by rfl) T.tuple (by decide +kernel) (pa_cons (pe_lc (own := [("at", 1)]) (g := gName 1) (by rfl) scTurned.nd (pi_range1 (by rfl) T.range (pa_cons (pe_callB call_len (by rfl) T.len PySem.boot_len (pa_cons (pe_ix ix_tup (pv 0) pe_int (fun _ _ => rfl)) pa_nil)) pa_nil)) (blkOk_by (own := [("at", 1)]) (N := ["matrix", "at", "row"]) (sc := defScope sTurned) (by decide +kernel))
      (fun _ _ _ _ _ => pg_name (i := 1) scTurned.nd rfl (Or.inr rfl)) (fun _ _ _ _ _ => pts_nil) (fun _ _ _ _ _ => pe_callTy (r := fun xs H Q => ∃ p ys, xs = [.ref p] ∧ ((SqL K H p ys ∧ ∀ l, H l = none → Q (.ref l) (upd H l (.tup ys))) ∨ (SqT K H p ys ∧ Q (.ref p) H))) call_tuple_of (by rfl) T.tuple (by decide +kernel)
        (pa_cons (pe_lc (own := [("row", 2)]) (wi := iTup K (tVar 0)) (g := gName 2) (by rfl) scTurned.nd (pi_tup (pv 0)) (blkOk_by (own := [("row", 2)]) (N := ["matrix", "at", "row"]) (sc := { kind := .function, names := [(".0", .local), ("at", .cell), ("tuple", .globalImplicit), ("matrix", .cell)], isGenerator := false, isCoroutine := false }) (by decide +kernel)) (fun _ _ _ _ _ => pg_name (i := 2) scTurned.nd rfl (Or.inl rfl)) (fun _ _ _ _ _ => pts_nil) (fun _ _ _ _ _ => pe_ix (r := rIxT K) ix_tup (pv 2) (pv 1) (fun _ _ => rfl))) pa_nil))) pa_nil))), ?_⟩
  have lenm : vsm.length = n := by rw [Paired.length hpm, mat.rows]
  have n0 := mat.n0
  obtain ⟨v0, hv0⟩ : ∃ v, vsm[0]? = some v := ⟨vsm[0]'(by omega), by simp [show 0 < vsm.length by omega]⟩
  obtain ⟨row0, hrow0, ⟨a0, ws0, rfl, ht0, hp0⟩⟩ := wk_list.pget hpm hv0
  have len0 : ws0.length = m := by rw [Paired.length hp0]; exact mat.each _ (List.mem_of_getElem? hrow0)
  have at0' : atI vsm 0 = some (.ref a0) := by have := atI_nat hv0; exact this
  have lc := gv_lc (R := RoV) (K := K) (g := gName 1) (te := tCB (fun xs H Q => ∃ p ys, xs = [.ref p] ∧ ((SqL K H p ys ∧ ∀ l, H l = none → Q (.ref l) (upd H l (.tup ys))) ∨ (SqT K H p ys ∧ Q (.ref p) H))) (tCons (tLc (iTup K (tVar 0)) (gName 2) tYes (tOp (rIxT K) (tVar 2) (tVar 1)) [2]) tNil)) (vs := [1]) (σ := [some (.ref am), none, none]) (H := H) (n := m)
    (wi := iRng1 (tCons (tCB (fun xs H Q => ∃ x n, xs = [x] ∧ LenV K x H n ∧ Q (.int n) H) (tCons (tOp (rIxT K) (tVar 0) (tC (.int 0))) tNil)) tNil)) (B := fun i _ v => v = .int (0 + (i : Int)))
    (gn_range (ea_cons (ev_lenT (ev_op (ev_var rfl) ev_c (rv_ixT htm at0')) ht0 len0) ea_nil) (by omega)) (by omega) (fun j => M.map (·.getD j 0)) (fun _ _ _ _ e r => RoV.mono e r)
    (fun j x H4 Q1 hj e4 hx kk => by
      subst hx
      refine kk [some (.ref am), some (.int (0 + (j : Int))), none] H4 (Ex.refl _) rfl ?_
      have inner := gv_lc (R := FrV) (K := K) (g := gName 2) (te := tOp (rIxT K) (tVar 2) (tVar 1)) (vs := [2]) (σ := [some (.ref am), some (.int (0 + (j : Int))), none]) (H := H4)
        (gi_tup (K := K) (ev_var (i := 0) rfl) (ex_t e4 htm) (L2.Paired.mapP hpm fun v x r => RoV.ex _ _ _ _ e4 r) RoV.ex).gn (by rw [mat.rows]; exact Nat.le_trans hn (by decide)) (fun i => (M.getD i []).getD j 0) (fun _ _ _ _ e r => r.mono e)
        (fun i y H5 Q1 hi e5 ⟨c, hc, ⟨ra, rs, er, hrt, hrp⟩⟩ kk => by
          subst er
          refine kk [some (.ref am), some (.int (0 + (j : Int))), some (.ref ra)] H5 (Ex.refl _) rfl ?_
          rw [getD_of hc]
          have cl : c.length = m := mat.each _ (List.mem_of_getElem? hc)
          obtain ⟨v, hv, fv⟩ := paired_at hrp (some_getD (d := 0) (by omega : j < c.length))
          exact gv_of (ev_op (ev_var (i := 2) rfl) (ev_var (i := 1) rfl) (rv_ixT hrt (by rw [Int.zero_add]; exact atI_nat hv))) fun H6 e6 => fv.mono (ExT.of e6))
      rw [map_range M [] (fun r => r.getD j 0)] at inner
      exact (gv_tupleOf inner FrV.ex).imp fun v H' _ h => h.tu)
  have tu := gv_tupleOf lc RoV.ex
  exact tu.go fun v H' e h => k v H' e h.tu
end
end Mx
end
section
set_option Elab.async false
set_option linter.all false
set_option maxRecDepth 100000
set_option maxHeartbeats 4000000
/-! The law's lines: the least at a share. -/
namespace Mx
open PySem L2 Evl Fra
open Sx (Mat ent Told Shows)
abbrev sLeastAt : Stmt := top 45
def lineQ (s a b : Rat) : Rat := s * a + (1 - s) * b
def leastAt (r0 r1 : List Rat) (s : Rat) : Rat := match List.zipWith (lineQ s) r0 r1 with
  | [] => 0
  | x :: xs => leastQ x xs
theorem leastQ_snoc (x y : Rat) (xs : List Rat) : leastQ x (xs ++ [y]) = if y < leastQ x xs then y else leastQ x xs := by
  unfold leastQ; rw [List.foldl_append]; rfl
def spLeastAt (K : PySem.W.Frag) : Sp := fun vs H Q _ => ∃ (m0 v : V) (r0 r1 : List Rat) (m : Nat) (s : Rat), vs = [m0, v] ∧ MaV K H m0 [r0, r1] ∧ FrV K H v s ∧ r0.length = m ∧ r1.length = m ∧ 0 < m ∧ m ≤ 100 ∧ (∀ q ∈ r0, Bits q 13) ∧ (∀ q ∈ r1, Bits q 13) ∧ Bits s 60 ∧ ∀ u H', Ex H H' → FrV K H' u (leastAt r0 r1 s) → Q u H'
theorem CL.of {g : Rat → Rat → Rat} {p q : Rat} {n : Nat} (h : Bits (g p q) n) (hn : n ≤ 2390) : CL g p q := pow_le h.2 hn
theorem line_bits {s a b : Rat} (hs : Bits s 60) (ha : Bits a 13) (hb : Bits b 13) : Bits (s * a) 73 ∧ Bits (1 - s) 62 ∧ Bits ((1 - s) * b) 75 ∧ Bits (lineQ s a b) 149 := by
  have bo : Bits (1 : Rat) 1 := ⟨by decide, by decide⟩
  have h1 : Bits (s * a) 73 := hs.mul ha
  have h2 : Bits (1 - s) 62 := bo.sub hs
  have h3 : Bits ((1 - s) * b) 75 := h2.mul hb
  exact ⟨h1, h2, h3, h1.add h3⟩
/-- a call of two fractions, told by what it gives -/
theorem gv_fr2 {K : PySem.W.Frag} {σ : L2.St} {H : Hp} {ta tb : TE} {g : Rat → Rat → Rat} {C : Rat → Rat → Prop} {p q : Rat} {a b : Nat} (h1 : Gv ta σ H (fun v H' => FrV K H' v p)) (h2 : Gv tb σ H (fun v H' => FrV K H' v q)) (ba : Bits p a) (bb : Bits q b) (ab : a + b < 8999) (c : C p q) :
    Gv (tCall (spFr2 K g C) [] E0 (tCons ta (tCons tb tNil))) σ H (fun v H' => FrV K H' v (g p q)) :=
  gv_call (ga_cons h1 (ga_cons h2 ga_nil (fun v Ha Hb e r => FrV.ex _ _ _ _ e r)) (fun v Ha Hb e r => FrV.ex _ _ _ _ e r)) fun vs' H5 e5 ⟨v, r, ev, f1, w, r2, ew, f2, er⟩ Q E q' => by
    subst ev ew er
    exact ⟨_, _, p, q, a, b, rfl, f1, f2, ba, bb, ab, c, fun u H6 e6 hu => q' u H6 e6 hu⟩
/-- (1, 1) written out -/
theorem gv_frac {K : PySem.W.Frag} {σ : L2.St} {H : Hp} {a b : Int} {q : Rat} (ha : a = q.num) (hb : b = q.den) : Gv (tTup (tCons (tC (.int a)) (tCons (tC (.int b)) tNil))) σ H (fun v H' => FrV K H' v q) := fun H1 e Q k =>
  ⟨by show 2 ≤ sizeLine; decide, fun p hp => k _ _ (Ex.new hp) (FrV.new ha hb)⟩
section
variable {P : Program} {w : World} {K : PySem.W.Frag} {mg : Str → Option Value} {base : Heap}
theorem scLeastAt : FnScope ["matrix", "share", "rest", "found", "one", "other", "mean"] ["matrix", "share"] (defScope sLeastAt) := ⟨rfl, rfl, rfl, by decide +kernel, rfl, by decide +kernel, by decide +kernel⟩
theorem ok_least_at (T : Bt mg) (F : Dn K mg "_law_least_at" sLeastAt ["matrix", "share"]) (GP : Fn P w K mg base "_law_plus" ["one", "other"] 2 (spFr2 K (· + ·) (CL (· + ·)))) (GM : Fn P w K mg base "_law_minus" ["one", "other"] 2 (spFr2 K (· - ·) (CL (· - ·)))) (GT : Fn P w K mg base "_law_times" ["one", "other"] 2 (spFr2 K (· * ·) (CL (· * ·)))) (GL : Fn P w K mg base "_law_less" ["one", "other"] 1 (spLess K)) :
    Fn P w K mg base "_law_least_at" ["matrix", "share"] 3 (spLeastAt K) := by
  refine F.fn scLeastAt (fun vs H Q E h => ?_) (fun f cdv A outer s0 H vs Q E hr h => ?_)
  · obtain ⟨_, _, _, _, _, _, rfl, _⟩ := h; rfl
  obtain ⟨m0, v, r0, r1, m, s, rfl, ⟨am, vsm, rfl, htm, hpm⟩, hv, l0, l1, mp, hm, b0, b1, bs, k⟩ := h
  refine ⟨_, pss_cons (ps_par (i := 2) (j := 3) (by rfl) scLeastAt.nd rfl rfl (by decide) rfl rfl (pa_cons (pe_fn GM hr (pa_cons (pe_tup (pa_cons pe_int (pa_cons pe_int pa_nil))) (pa_cons (pv 1) pa_nil))) (pa_cons pe_non pa_nil)) (by rfl))
    (pss_cons (ps_for PassesOwn.never rfl (RZ.pi_zipA (by rfl) T.zip (pa_cons (pe_ix ix_tup (pv 0) pe_int (fun _ _ => rfl)) (pa_cons (pe_ix ix_tup (pv 0) pe_int (fun _ _ => rfl)) pa_nil))) (pg_tup (by rfl) (pgs_cons (pg_name (i := 4) scLeastAt.nd rfl (Or.inl rfl)) (pgs_cons (pg_name (i := 5) scLeastAt.nd rfl (Or.inl rfl)) pgs_nil)))
      (pss_cons (ps_set (i := 6) scLeastAt.nd rfl (.inl rfl) (pe_fn GP hr (pa_cons (pe_fn GT hr (pa_cons (pv 1) (pa_cons (pv 4) pa_nil))) (pa_cons (pe_fn GT hr (pa_cons (pv 2) (pa_cons (pv 5) pa_nil))) pa_nil))))
      (pss_one (ps_set (i := 3) scLeastAt.nd rfl (.inl rfl) (pe_ifExp (PW.pt (pw_or (pt_cmpR op_isN1 (pv 3) pe_non (nomark _)) (pw_or1 (pt_val (pe_fn GL (hr.mono (by decide)) (pa_cons (pv 6) (pa_cons (pv 3) pa_nil))))))) (pv 6) (pv 3))))))
    (pss_one (ps_ret (pv 3)))), ?_⟩
  have bo : Bits (1 : Rat) 1 := ⟨by decide, by decide⟩
  have brest : Bits (1 - s) 62 := bo.sub bs
  -- the two rows
  obtain ⟨w0, w1, ew, ⟨a0, ws0, rfl, ht0, hp0⟩, ⟨a1, ws1, rfl, ht1, hp1⟩⟩ : ∃ w0 w1, vsm = [w0, w1] ∧ RoV K H w0 r0 ∧ RoV K H w1 r1 := by
    cases hpm with
    | cons h t => cases t with
      | cons h' t' => cases t'; exact ⟨_, _, rfl, h, h'⟩
  subst ew
  have grest : Gv (tCall (spFr2 K (· - ·) (CL (· - ·))) [] E0 (tCons (tTup (tCons (tC (.int 1)) (tCons (tC (.int 1)) tNil))) (tCons (tVar 1) tNil))) [some (.ref am), some v, none, none, none, none, none] H (fun u H' => FrV K H' u (1 - s)) :=
    gv_fr2 (p := 1) (gv_frac rfl rfl) (gv_var rfl fun H' e => hv.mono (ExT.of e)) bo bs (by decide) (CL.of brest (by decide))
  refine sq (s_parG grest (gv_c1 (v := .non)) (fun _ Ha Hb e r => FrV.ex _ _ _ _ e r) fun vr vf H1 e1 hrest hnon => ?_)
  subst hnon
  generalize hlines : List.zipWith (lineQ s) r0 r1 = lines
  have lenl : lines.length = m := by rw [← hlines, List.length_zipWith, l0, l1, Nat.min_self]
  have hz := (gi_zipT (K := K) (σ := [some (.ref am), some v, some vr, some .non, none, none, none]) (H := H1) (t := tOp (rIxT K) (tVar 0) (tC (.int 0))) (u := tOp (rIxT K) (tVar 0) (tC (.int 1))) (ev_op (ev_var (i := 0) rfl) ev_c (rv_ixT (ex_t e1 htm) at0)) (ev_op (ev_var (i := 0) rfl) ev_c (rv_ixT (ex_t e1 htm) at1)) (ex_t e1 ht0) (ex_t e1 ht1) (L2.Paired.mapP hp0 fun v x r => FrV.ex _ _ _ _ e1 r) (L2.Paired.mapP hp1 fun v x r => FrV.ex _ _ _ _ e1 r) FrV.ex FrV.ex).gn
  rw [l0, l1, Nat.min_self] at hz
  refine sq (s_for hz
    (fun H2 i σ' H' => Ex H2 H' ∧ ∃ fv o4 o5 o6, σ' = [some (.ref am), some v, some vr, some fv, o4, o5, o6] ∧ ((i = 0 ∧ fv = .non) ∨ ∃ x xs, lines.take i = x :: xs ∧ FrV K H' fv (leastQ x xs)))
    (fun H2 e2 => ⟨Ex.refl _, .non, none, none, none, rfl, .inl ⟨rfl, rfl⟩⟩) (fun _ _ _ _ p => p.1) ?_ ?_)
  · rintro H2 i x σ' H' H'' e2 hi ⟨e3, fv, o4, o5, o6, rfl, hfv⟩ e4 ⟨t, wa, wb, qa, qb, rfl, hT, hqa, hqb, fa, fb⟩
    refine ⟨t, _, rfl, hT, rfl, _, _, rfl, _, _, rfl, rfl, ?_⟩
    have ma := b0 _ (List.mem_of_getElem? hqa)
    have mb := b1 _ (List.mem_of_getElem? hqb)
    obtain ⟨t1, t2, t3, t4⟩ := line_bits bs ma mb
    have eH : Ex H H'' := ((e1.trans e2).trans e3).trans e4
    have gmean : Gv (tCall (spFr2 K (· + ·) (CL (· + ·))) [] E0 (tCons (tCall (spFr2 K (· * ·) (CL (· * ·))) [] E0 (tCons (tVar 1) (tCons (tVar 4) tNil))) (tCons (tCall (spFr2 K (· * ·) (CL (· * ·))) [] E0 (tCons (tVar 2) (tCons (tVar 5) tNil))) tNil))) [some (.ref am), some v, some vr, some fv, some wa, some wb, o6] H'' (fun u H' => FrV K H' u (lineQ s qa qb)) :=
      gv_fr2 (gv_fr2 (gv_var rfl fun H' e => hv.mono (ExT.of (eH.trans e))) (gv_var rfl fun H' e => fa.mono (ExT.of e)) bs ma (by decide) (CL.of t1 (by decide))) (gv_fr2 (gv_var rfl fun H' e => hrest.mono (ExT.of (((e2.trans e3).trans e4).trans e))) (gv_var rfl fun H' e => fb.mono (ExT.of e)) brest mb (by decide) (CL.of t3 (by decide))) t1 t3 (by decide) (CL.of (g := (· + ·)) (show Bits (s * qa + (1 - s) * qb) 149 from t4) (by decide))
    refine sq (s_asgG gmean fun vm H5 e5 hvm => ?_)
    have hline : lines[i]? = some (lineQ s qa qb) := by rw [← hlines, List.getElem?_zipWith, hqa, hqb]
    have lbits : ∀ q ∈ lines, Bits q 149 := fun q hq => by
      rw [← hlines] at hq
      obtain ⟨j, hj, e⟩ := List.getElem_of_mem hq
      rw [List.getElem_zipWith] at e
      rw [← e]
      exact (line_bits bs (b0 _ (List.getElem_mem _)) (b1 _ (List.getElem_mem _))).2.2.2
    rcases hfv with ⟨rfl, rfl⟩ | ⟨x, xs, ex, hf⟩
    · refine s_asg (v := vm) (ev_if (b := true) (et_is (et_or (a := true) (b := false) (et_cmp (ev_var rfl) ev_c (fun H6 _ Q6 q6 => ⟨rfl, q6 H6 (Ex.refl _)⟩)) (fun z => by cases z)) rfl) (fun _ => ev_var rfl) (fun z => by cases z)) fun H6 e6 => ?_
      refine ⟨(e3.trans e4).trans (e5.trans e6), vm, _, _, _, rfl, .inr ⟨lineQ s qa qb, [], ?_, hvm.mono (ExT.of e6)⟩⟩
      rw [List.take_add_one, hline]; rfl
    · have hf5 := hf.mono (ExT.of (e4.trans e5))
      have memf : leastQ x xs ∈ lines := List.mem_of_mem_take (i := i) (by rw [ex]; exact leastQ_mem x xs)
      have fvr : ∃ a, fv = .ref a := by obtain ⟨a, ea, _⟩ := hf; exact ⟨a, ea⟩
      obtain ⟨af, rfl⟩ := fvr
      have test : EvT (tOr (tTest (tOp rIsN (tVar 3) (tC .non))) (tB (tCall (spLess K) [] E0 (tCons (tVar 6) (tCons (tVar 3) tNil))))) [some (.ref am), some v, some vr, some (.ref af), some wa, some wb, some vm] H5 (decide (lineQ s qa qb < leastQ x xs)) :=
        et_is (et_or (a := false) (et_cmp (ev_var rfl) ev_c (fun H6 _ Q6 q6 => ⟨rfl, q6 H6 (Ex.refl _)⟩)) fun _ => et_B (ev_fn (ea_cons (ev_var rfl) (ea_cons (ev_var rfl) ea_nil)) fun H6 e6 Q6 E6 k6 => ⟨_, _, _, _, 149, 149, rfl, hvm.mono (ExT.of e6), hf5.mono (ExT.of e6), t4, lbits _ memf, by decide, k6 H6 (Ex.refl _)⟩)) rfl
      have tk : lines.take (i + 1) = x :: (xs ++ [lineQ s qa qb]) := by rw [List.take_add_one, hline, ex]; rfl
      by_cases c : lineQ s qa qb < leastQ x xs
      · refine s_asg (v := vm) (ev_if (b := true) (et_is test (decide_eq_true c)) (fun _ => ev_var rfl) (fun z => by cases z)) fun H6 e6 => ?_
        exact ⟨(e3.trans e4).trans (e5.trans e6), vm, _, _, _, rfl, .inr ⟨x, _, tk, by rw [leastQ_snoc, if_pos c]; exact hvm.mono (ExT.of e6)⟩⟩
      · refine s_asg (v := .ref af) (ev_if (b := false) (et_is test (decide_eq_false c)) (fun z => by cases z) (fun _ => ev_var rfl)) fun H6 e6 => ?_
        exact ⟨(e3.trans e4).trans (e5.trans e6), .ref af, _, _, _, rfl, .inr ⟨x, _, tk, by rw [leastQ_snoc, if_neg c]; exact hf5.mono (ExT.of e6)⟩⟩
  · rintro H2 σ' H' e2 ⟨e3, fv, o4, o5, o6, rfl, hfv⟩
    rcases hfv with ⟨z, _⟩ | ⟨x, xs, ex, hf⟩
    · omega
    · rw [List.take_of_length_le (by omega)] at ex
      refine ⟨fv, rfl, k _ _ ((e1.trans e2).trans e3) ?_⟩
      have : leastAt r0 r1 s = leastQ x xs := by unfold leastAt; rw [hlines, ex]
      rw [this]; exact hf
end
end Mx
end
section
set_option Elab.async false
set_option linter.all false
set_option maxRecDepth 100000
set_option maxHeartbeats 4000000
/-! The highest point under lines. -/
namespace Sx
open Fra
theorem argmax {P : Nat → Prop} (f : Nat → Rat) : ∀ m, (∃ j, j < m ∧ P j) → ∃ j, j < m ∧ P j ∧ ∀ i, i < m → P i → f i ≤ f j
  | 0, ⟨j, h, _⟩ => absurd h (Nat.not_lt_zero _)
  | m + 1, ⟨j, h, p⟩ => by
    by_cases q : ∃ j, j < m ∧ P j
    · obtain ⟨k, hk, pk, mx⟩ := argmax f m q
      by_cases pm : P m
      · by_cases c : f k ≤ f m
        · exact ⟨m, by omega, pm, fun i hi pi => by
            by_cases e : i = m
            · rw [e]; exact Rat.le_refl
            · exact Rat.le_trans (mx i (by omega) pi) c⟩
        · exact ⟨k, by omega, pk, fun i hi pi => by
            by_cases e : i = m
            · rw [e]; grind
            · exact mx i (by omega) pi⟩
      · exact ⟨k, by omega, pk, fun i hi pi => by
          by_cases e : i = m
          · rw [e] at pi; exact absurd pi pm
          · exact mx i (by omega) pi⟩
    · have e : j = m := Classical.byContradiction fun z => q ⟨j, by omega, p⟩
      subst e
      exact ⟨j, by omega, p, fun i hi pi => by
        by_cases e : i = j
        · rw [e]; exact Rat.le_refl
        · exact absurd ⟨i, by omega, pi⟩ q⟩
/-- weights under which the lines are no higher than v at both ends -/
structure Wt (m : Nat) (a b c : Nat → Rat) (v : Rat) : Prop where
  c0 : ∀ j, j < m → 0 ≤ c j
  one : sm m c = 1
  le1 : sm m (fun j => c j * a j) ≤ v
  le0 : sm m (fun j => c j * b j) ≤ v
theorem Wt.mix {m : Nat} {a b c : Nat → Rat} {v x : Rat} (w : Wt m a b c v) (x0 : 0 ≤ x) (x1 : x ≤ 1) : sm m (fun j => c j * ((x * a j + (1 - x) * b j) - v)) ≤ 0 := by
  have e : sm m (fun j => c j * ((x * a j + (1 - x) * b j) - v)) = x * sm m (fun j => c j * a j) + (1 - x) * sm m (fun j => c j * b j) - v * sm m c := by
    rw [← sm_mul, ← sm_mul, ← sm_mul, ← sm_add, ← sm_sub]
    exact sm_congr fun j _ => by grind
  rw [e, w.one]
  have h1 : x * sm m (fun j => c j * a j) ≤ x * v := Rat.mul_le_mul_of_nonneg_left w.le1 x0
  have h2 : (1 - x) * sm m (fun j => c j * b j) ≤ (1 - x) * v := Rat.mul_le_mul_of_nonneg_left w.le0 (by grind)
  grind
theorem Wt.up {m : Nat} {a b c : Nat → Rat} {v x : Rat} (w : Wt m a b c v) (x0 : 0 ≤ x) (x1 : x ≤ 1) : ∃ j, j < m ∧ x * a j + (1 - x) * b j ≤ v := by
  refine Classical.byContradiction fun no => ?_
  have all : ∀ j, j < m → v < x * a j + (1 - x) * b j := fun j hj => by
    refine Classical.byContradiction fun z => no ⟨j, hj, ?_⟩
    exact Rat.not_lt.mp z
  obtain ⟨k, hk, ck⟩ := sm_pos (n := m) (f := c) (by rw [w.one]; decide)
  have h := w.mix x0 x1
  have g := sm_ge (n := m) (f := fun j => c j * ((x * a j + (1 - x) * b j) - v)) (fun j hj => Rat.mul_nonneg (w.c0 j hj) (by have := all j hj; grind)) hk
  have p : 0 < c k * ((x * a k + (1 - x) * b k) - v) := Rat.mul_pos ck (by have := all k hk; grind)
  grind
/-- a line that does not rise goes through where all lines are at v or above -/
theorem Wt.flat {m : Nat} {a b c : Nat → Rat} {v x : Rat} (w : Wt m a b c v) (x0 : 0 ≤ x) (x1 : x < 1) (all : ∀ j, j < m → v ≤ x * a j + (1 - x) * b j) : ∃ k, k < m ∧ x * a k + (1 - x) * b k = v ∧ a k ≤ b k := by
  refine Classical.byContradiction fun no => ?_
  have h := w.mix x0 (by grind)
  have nn : ∀ j, j < m → 0 ≤ c j * ((x * a j + (1 - x) * b j) - v) := fun j hj => Rat.mul_nonneg (w.c0 j hj) (by have := all j hj; grind)
  have on : ∀ k, k < m → 0 < c k → x * a k + (1 - x) * b k = v := fun k hk ck => by
    have g := sm_ge (n := m) (f := fun j => c j * ((x * a j + (1 - x) * b j) - v)) nn hk
    have z : c k * ((x * a k + (1 - x) * b k) - v) = 0 := by have := nn k hk; grind
    have : (x * a k + (1 - x) * b k) - v = 0 := by
      rcases Rat.mul_eq_zero.mp z with q | q
      · grind
      · exact q
    grind
  have rise : ∀ k, k < m → 0 < c k → v < a k := fun k hk ck => by
    have e := on k hk ck
    have r : ¬ a k ≤ b k := fun z => no ⟨k, hk, e, z⟩
    have r' : 0 < a k - b k := by grind
    have p : 0 < (1 - x) * (a k - b k) := Rat.mul_pos (by grind) r'
    grind
  obtain ⟨k, hk, ck⟩ := sm_pos (n := m) (f := c) (by rw [w.one]; decide)
  have h1 := w.mix (x := 1) (by decide) (by decide)
  have nn1 : ∀ j, j < m → 0 ≤ c j * ((1 * a j + (1 - 1) * b j) - v) := fun j hj => by
    by_cases z : 0 < c j
    · exact Rat.mul_nonneg (w.c0 j hj) (by have := rise j hj z; grind)
    · have : c j = 0 := by have := w.c0 j hj; grind
      rw [this]; grind
  have g := sm_ge (n := m) (f := fun j => c j * ((1 * a j + (1 - 1) * b j) - v)) nn1 hk
  have p : 0 < c k * ((1 * a k + (1 - 1) * b k) - v) := Rat.mul_pos ck (by have := rise k hk ck; grind)
  grind
/-- one of the ends or of the crossings is as high as can be -/
theorem Wt.peak {m : Nat} {a b c : Nat → Rat} {v x : Rat} (w : Wt m a b c v) (x0 : 0 ≤ x) (x1 : x ≤ 1) (all : ∀ j, j < m → v ≤ x * a j + (1 - x) * b j) :
    (∀ j, j < m → v ≤ b j) ∨ (∀ j, j < m → v ≤ a j) ∨ ∃ y j k, 0 ≤ y ∧ y ≤ 1 ∧ j < m ∧ k < m ∧ j ≠ k ∧ 0 < (a j - b j) - (a k - b k) ∧ y * ((a j - b j) - (a k - b k)) = b k - b j ∧ ∀ i, i < m → v ≤ y * a i + (1 - y) * b i := by
  by_cases h0 : ∃ j, j < m ∧ b j < v
  · refine .inr ?_
    have rise : ∀ j, j < m → b j < v → 0 < a j - b j ∧ v - b j ≤ x * (a j - b j) := fun j hj hb => by
      have := all j hj
      have e : v - b j ≤ x * (a j - b j) := by grind
      refine ⟨?_, e⟩
      by_cases z : 0 < a j - b j
      · exact z
      · have : x * (a j - b j) ≤ x * 0 := Rat.mul_le_mul_of_nonneg_left (by grind) x0
        grind
    obtain ⟨j, hj, hb, mx⟩ := argmax (P := fun j => b j < v) (fun j => (v - b j) / (a j - b j)) m h0
    obtain ⟨rj, ej⟩ := rise j hj hb
    generalize hy : (v - b j) / (a j - b j) = y at mx
    have ey : y * (a j - b j) = v - b j := by rw [← hy]; exact Rat.div_mul_cancel (by grind)
    have y0 : 0 ≤ y := by rw [← hy]; exact div_nonneg' (by grind) rj
    have yx : y ≤ x := by
      rw [← ey] at ej
      by_cases z : y ≤ x
      · exact z
      · have : x * (a j - b j) < y * (a j - b j) := by
          have := Rat.mul_lt_mul_of_pos_right (Rat.not_le.mp z) rj
          exact this
        grind
    have allY : ∀ i, i < m → v ≤ y * a i + (1 - y) * b i := fun i hi => by
      by_cases hbi : b i < v
      · obtain ⟨ri, ei⟩ := rise i hi hbi
        have h := mx i hi hbi
        have h2 := Rat.mul_le_mul_of_nonneg_right h (Rat.le_of_lt ri)
        rw [Rat.div_mul_cancel (by grind)] at h2
        clear h mx ej hy
        grind
      · have h := all i hi
        by_cases z : 0 ≤ a i - b i
        · have := Rat.mul_nonneg y0 z
          grind
        · have : x * (a i - b i) ≤ y * (a i - b i) := by
            have h2 := Rat.mul_le_mul_of_nonneg_right yx (show 0 ≤ b i - a i by grind)
            grind
          grind
    by_cases y1 : y < 1
    · obtain ⟨k, hk, ek, fk⟩ := w.flat y0 y1 allY
      have ne : j ≠ k := fun z => by rw [← z] at fk; grind
      refine .inr ⟨y, j, k, y0, by grind, hj, hk, ne, by grind, by grind, allY⟩
    · have e1 : y = 1 := by clear mx ej hy ey; grind
      refine .inl fun i hi => ?_
      have h := allY i hi
      rw [e1] at h
      clear mx ej hy ey allY
      grind
  · exact .inl fun j hj => Rat.not_lt.mp fun z => h0 ⟨j, hj, z⟩
end Sx
end
section
set_option Elab.async false
set_option linter.all false
set_option maxRecDepth 100000
set_option maxHeartbeats 4000000
/-! The law's crossings in whole numbers. -/
namespace Sx
open Fra
def absI (i : Int) : Int := if i < 0 then -i else i
theorem num_cast (q : Rat) : (q.num : Rat) = q * (q.den : Rat) := by
  have := Rat.num_divInt_den q
  have h : (q.den : Rat) ≠ 0 := by
    have := Rat.natCast_pos.mpr (Nat.pos_of_ne_zero q.den_nz)
    grind
  have e := Rat.divInt_eq_div q.num (q.den : Int)
  rw [this] at e
  rw [Rat.intCast_natCast] at e
  rw [e]
  have h2 : ((q.num : Rat) / (q.den : Rat)) * (q.den : Rat) = (q.num : Rat) := Rat.div_mul_cancel h
  have h3 : ((q.num : Rat) / (q.den : Rat)).num = q.num ∧ ((q.num : Rat) / (q.den : Rat)).den = q.den := by rw [← e]; exact ⟨rfl, rfl⟩
  rw [h3.1, h3.2]
  exact h2.symm
/-- top and slope of two lines (a, b) and (c, d) -/
def topI (a b c d : Rat) : Int := (d.num * b.den - b.num * d.den) * a.den * c.den
def slopeI (a b c d : Rat) : Int := (a.num * b.den - b.num * a.den) * c.den * d.den - (c.num * d.den - d.num * c.den) * a.den * b.den
theorem topI_eq (a b c d : Rat) : (topI a b c d : Rat) = ((a.den : Rat) * b.den * c.den * d.den) * (d - b) := by
  unfold topI
  simp only [Rat.intCast_mul, Rat.intCast_sub, Rat.intCast_natCast, num_cast]
  grind
theorem slopeI_eq (a b c d : Rat) : (slopeI a b c d : Rat) = ((a.den : Rat) * b.den * c.den * d.den) * ((a - b) - (c - d)) := by
  unfold slopeI
  simp only [Rat.intCast_mul, Rat.intCast_sub, Rat.intCast_natCast, num_cast]
  grind
theorem den4_pos (a b c d : Rat) : (0 : Rat) < (a.den : Rat) * b.den * c.den * d.den := by
  have p : ∀ q : Rat, (0 : Rat) < (q.den : Rat) := fun q => Rat.natCast_pos.mpr (Nat.pos_of_ne_zero q.den_nz)
  exact Rat.mul_pos (Rat.mul_pos (Rat.mul_pos (p a) (p b)) (p c)) (p d)
theorem absI_pos {i : Int} (h : i ≠ 0) : 0 < absI i := by unfold absI; split <;> omega
/-- the share that is laid -/
theorem laid {t l : Int} (l0 : l ≠ 0) (h0 : 0 ≤ t * l) (h1 : t * l ≤ l * l) : 0 ≤ Rat.divInt (absI t) (absI l) ∧ Rat.divInt (absI t) (absI l) ≤ 1 ∧ Rat.divInt (absI t) (absI l) * (l : Rat) = (t : Rat) := by
  have lp := absI_pos l0
  have e : Rat.divInt (absI t) (absI l) = (absI t : Rat) / (absI l : Rat) := Rat.divInt_eq_div _ _
  have lq : (0 : Rat) < (absI l : Rat) := Rat.intCast_pos.mpr lp
  have tn : (0 : Rat) ≤ (absI t : Rat) := by
    have : 0 ≤ absI t := by unfold absI; split <;> omega
    exact_mod_cast this
  have tl : absI t ≤ absI l := by
    unfold absI
    by_cases a : t < 0 <;> by_cases b : l < 0
    · rw [if_pos a, if_pos b]
      have : l * l ≥ t * l := h1
      have h2 : (-l) * (-t) ≤ (-l) * (-l) := by
        have e1 : (-l) * (-t) = t * l := by rw [Int.neg_mul_neg, Int.mul_comm]
        have e2 : (-l) * (-l) = l * l := Int.neg_mul_neg _ _
        omega
      exact Int.le_of_mul_le_mul_left h2 (by omega)
    · have : t * l < 0 := Int.mul_neg_of_neg_of_pos a (by omega)
      omega
    · by_cases z : t = 0
      · rw [z, if_neg (by omega), if_pos b]; omega
      · have : t * l < 0 := Int.mul_neg_of_pos_of_neg (by omega) b
        omega
    · rw [if_neg a, if_neg b]
      have h2 : l * t ≤ l * l := by rw [Int.mul_comm l t]; exact h1
      exact Int.le_of_mul_le_mul_left h2 (by omega)
  refine ⟨by rw [e]; exact div_nonneg' tn lq, ?_, ?_⟩
  · rw [e]
    refine Classical.byContradiction fun z => ?_
    have z' : 1 < (absI t : Rat) / (absI l : Rat) := Rat.not_le.mp z
    have h2 := Rat.mul_lt_mul_of_pos_right z' lq
    rw [Rat.div_mul_cancel (by grind), Rat.one_mul] at h2
    have h3 : (absI t : Rat) ≤ (absI l : Rat) := by exact_mod_cast tl
    grind
  · rw [e]
    have hc : (absI t : Rat) / (absI l : Rat) * (absI l : Rat) = (absI t : Rat) := Rat.div_mul_cancel (by grind)
    by_cases a : t < 0 <;> by_cases b : l < 0
    · have e1 : absI t = -t := if_pos a
      have e2 : absI l = -l := if_pos b
      rw [e1, e2] at hc ⊢
      rw [Rat.intCast_neg, Rat.intCast_neg] at hc ⊢
      grind
    · have : t * l < 0 := Int.mul_neg_of_neg_of_pos a (by omega)
      omega
    · by_cases z : t = 0
      · have e1 : absI t = 0 := by rw [z]; rfl
        rw [e1, z]
        show ((0 : Int) : Rat) / _ * _ = ((0 : Int) : Rat)
        rw [Rat.intCast_zero]; grind
      · have : t * l < 0 := Int.mul_neg_of_pos_of_neg (by omega) b
        omega
    · have e1 : absI t = t := if_neg a
      have e2 : absI l = l := if_neg b
      rw [e1, e2] at hc ⊢
      exact hc
/-- a crossing in [0, 1] passes the law's test, and is what is laid -/
theorem crossed {a b c d y : Rat} (y0 : 0 ≤ y) (y1 : y ≤ 1) (s0 : (a - b) - (c - d) ≠ 0) (e : y * ((a - b) - (c - d)) = d - b) :
    slopeI a b c d ≠ 0 ∧ 0 ≤ topI a b c d * slopeI a b c d ∧ topI a b c d * slopeI a b c d ≤ slopeI a b c d * slopeI a b c d ∧ y = Rat.divInt (absI (topI a b c d)) (absI (slopeI a b c d)) := by
  have dp := den4_pos a b c d
  have ht := topI_eq a b c d
  have hs := slopeI_eq a b c d
  generalize (a.den : Rat) * b.den * c.den * d.den = D at *
  generalize topI a b c d = t at *
  generalize slopeI a b c d = l at *
  generalize (a - b) - (c - d) = s at *
  have lr : (l : Rat) ≠ 0 := by
    rw [hs]
    intro z
    rcases Rat.mul_eq_zero.mp z with q | q
    · grind
    · exact s0 q
  have l0 : l ≠ 0 := fun z => lr (by rw [z]; rfl)
  have yl : y * (l : Rat) = (t : Rat) := by rw [hs, ht, ← e]; grind
  have sq : (0 : Rat) ≤ (l : Rat) * (l : Rat) := by
    by_cases z : 0 ≤ (l : Rat)
    · exact Rat.mul_nonneg z z
    · have := Rat.mul_nonneg (show 0 ≤ -(l : Rat) by grind) (show 0 ≤ -(l : Rat) by grind)
      grind
  have h0 : (0 : Rat) ≤ (t : Rat) * (l : Rat) := by
    rw [← yl]
    have := Rat.mul_nonneg y0 sq
    grind
  have h1 : (t : Rat) * (l : Rat) ≤ (l : Rat) * (l : Rat) := by
    rw [← yl]
    have := Rat.mul_le_mul_of_nonneg_right y1 sq
    grind
  have i0 : 0 ≤ t * l := by exact_mod_cast h0
  have i1 : t * l ≤ l * l := by exact_mod_cast h1
  refine ⟨l0, i0, i1, ?_⟩
  have := (laid l0 i0 i1).2.2
  have h : (y - Rat.divInt (absI t) (absI l)) * (l : Rat) = 0 := by grind
  rcases Rat.mul_eq_zero.mp h with q | q
  · grind
  · exact absurd q lr
end Sx
end
section
set_option Elab.async false
set_option linter.all false
set_option maxRecDepth 100000
set_option maxHeartbeats 4000000
/-! The law's peak of lines. -/
namespace Mx
open PySem L2 Evl Fra
open Sx (Mat ent Told Shows)
abbrev sPeak : Stmt := top 46
/-- a heap without what stands at p -/
def hide (H : Hp) (p : Addr) : Hp := fun a => if a = p then none else H a
theorem hide_p {H : Hp} {p : Addr} : hide H p p = none := if_pos rfl
theorem hide_ne {H : Hp} {p a : Addr} (h : a ≠ p) : hide H p a = H a := if_neg h
theorem ex_hide {H : Hp} {p : Addr} : Ex (hide H p) H := fun a o e => by
  unfold hide at e
  by_cases z : a = p
  · rw [if_pos z] at e; cases e
  · rw [if_neg z] at e; exact e
theorem extT_hide {H : Hp} {p : Addr} {xs : List V} (h : H p = some (.lst xs)) : ExT H (hide H p) := fun a => by
  refine ⟨fun ys e => ?_, fun o u e => ?_⟩
  · rw [hide_ne (fun z => by rw [z, h] at e; cases e)]; exact e
  · rw [hide_ne (fun z => by rw [z, h] at e; cases e)]; exact e
/-- two lines cross at y -/
structure Cr (r0 r1 : List Rat) (i k : Nat) (y : Rat) : Prop where
  y0 : 0 ≤ y
  y1 : y ≤ 1
  s0 : (r0.getD i 0 - r1.getD i 0) - (r0.getD k 0 - r1.getD k 0) ≠ 0
  eq : y * ((r0.getD i 0 - r1.getD i 0) - (r0.getD k 0 - r1.getD k 0)) = r1.getD k 0 - r1.getD i 0
structure Pk (r0 r1 : List Rat) (m : Nat) (value share : Rat) : Prop where
  s0 : 0 ≤ share
  s1 : share ≤ 1
  bits : Bits share 60
  val : value = leastAt r0 r1 share
  at0 : leastAt r0 r1 0 ≤ value
  at1 : leastAt r0 r1 1 ≤ value
  cr : ∀ i, i < m → ∀ k, k < i → ∀ y, Cr r0 r1 i k y → leastAt r0 r1 y ≤ value
/-- a pair of fractions -/
def PeV (K : PySem.W.Frag) (H : Hp) (v : V) (x : Rat × Rat) : Prop := ∃ a v0 v1, v = .ref a ∧ SqT K H a [v0, v1] ∧ FrV K H v0 x.1 ∧ FrV K H v1 x.2
def spPeak (K : PySem.W.Frag) : Sp := fun vs H Q _ => ∃ (m0 : V) (r0 r1 : List Rat) (m : Nat), vs = [m0] ∧ MaV K H m0 [r0, r1] ∧ r0.length = m ∧ r1.length = m ∧ 0 < m ∧ m ≤ 64 ∧ (∀ q ∈ r0, Bits q 13) ∧ (∀ q ∈ r1, Bits q 13) ∧
  ∀ v H' value share, Ex H H' → PeV K H' v (value, share) → Pk r0 r1 m value share → Q v H'
/-- the shares gathered -/
structure Cl (cl : List Rat) : Prop where
  two : ∃ rest, cl = 0 :: 1 :: rest
  each : ∀ q ∈ cl, 0 ≤ q ∧ q ≤ 1 ∧ Bits q 60
theorem Cl.more {cl : List Rat} (h : Cl cl) {q : Rat} (q0 : 0 ≤ q) (q1 : q ≤ 1) (qb : Bits q 60) : Cl (cl ++ [q]) := by
  obtain ⟨⟨rest, rfl⟩, e⟩ := h
  refine ⟨⟨rest ++ [q], rfl⟩, fun p hp => ?_⟩
  rcases List.mem_append.mp hp with z | z
  · exact e p z
  · rw [List.mem_singleton] at z; rw [z]; exact ⟨q0, q1, qb⟩
section
variable {K : PySem.W.Frag} {σ : L2.St} {H : Hp} {D : Ends} {ta tb : TE} {α : Type} {R : PySem.W.Frag → Hp → V → α → Prop}
theorem gv_lst2 {x y : α} (h1 : Gv ta σ H (fun v H' => R K H' v x)) (h2 : Gv tb σ H (fun v H' => R K H' v y)) (mR : ∀ H1 H2 v x, Ex H1 H2 → R K H1 v x → R K H2 v x) : Gv (tLst (tCons ta (tCons tb tNil))) σ H (NwL R K H [x, y]) := fun H1 e Q q =>
  h1 H1 e _ fun v H2 e2 r => h2 H2 (e.trans e2) _ fun w H3 e3 r2 => ⟨by show 2 ≤ sizeLine; decide, fun p hp => q _ _ ((e2.trans e3).trans (Ex.new hp)) ⟨p, _, rfl, fresh_back ((e.trans e2).trans e3) hp, upd_same, .cons (mR _ _ _ _ (e3.trans (Ex.new hp)) r) (.cons (mR _ _ _ _ (Ex.new hp) r2) .nil)⟩⟩
theorem s_parD {i j : Nat} {A : V → Hp → Prop} {B : V → Hp → V → Hp → Prop} (h : Gv ta σ H A) (h2 : ∀ v H1, Ex H H1 → A v H1 → Gv tb σ H1 (B v H1)) (k : ∀ v w H1 H2, Ex H H1 → Ex H1 H2 → A v H1 → B v H1 w H2 → D.nx ((σ.set i (some v)).set j (some w)) H2) : tPar i j (tCons ta (tCons tb tNil)) D σ H :=
  h H (Ex.refl H) _ fun v H1 e a => (h2 v H1 e a).go fun w H2 e2 b => ⟨v, w, rfl, k v w H1 H2 e e2 a b⟩
theorem et_less {p q : Rat} {a b : Nat} (h1 : Gv ta σ H (fun v H' => FrV K H' v p)) (h2 : Gv tb σ H (fun v H' => FrV K H' v q)) (bp : Bits p a) (bq : Bits q b) (ab : a + b ≤ 100000) : EvT (tB (tCall (spLess K) [] E0 (tCons ta (tCons tb tNil)))) σ H (decide (p < q)) := fun H1 e Q k =>
  h1 H1 e _ fun v H2 e2 f1 => h2 H2 (e.trans e2) _ fun w H3 e3 f2 => ⟨v, w, p, q, a, b, rfl, FrV.ex _ _ _ _ e3 f1, f2, bp, bq, ab, _, rfl, k H3 (e2.trans e3)⟩
theorem leastAt_mem {r0 r1 : List Rat} {s : Rat} {m : Nat} (l0 : r0.length = m) (l1 : r1.length = m) (mp : 0 < m) : leastAt r0 r1 s ∈ List.zipWith (lineQ s) r0 r1 := by
  have ln : (List.zipWith (lineQ s) r0 r1).length = m := by rw [List.length_zipWith, l0, l1, Nat.min_self]
  unfold leastAt
  cases h : List.zipWith (lineQ s) r0 r1 with
  | nil => rw [h] at ln; exact absurd ln (by show ¬ 0 = m; omega)
  | cons x xs => exact leastQ_mem x xs
theorem leastAt_bits {r0 r1 : List Rat} {s : Rat} {m : Nat} (l0 : r0.length = m) (l1 : r1.length = m) (mp : 0 < m) (b0 : ∀ q ∈ r0, Bits q 13) (b1 : ∀ q ∈ r1, Bits q 13) (bs : Bits s 60) : Bits (leastAt r0 r1 s) 149 := by
  have h := leastAt_mem (s := s) l0 l1 mp
  obtain ⟨j, hj, e⟩ := List.getElem_of_mem h
  rw [List.getElem_zipWith] at e
  rw [← e]
  exact (line_bits bs (b0 _ (List.getElem_mem _)) (b1 _ (List.getElem_mem _))).2.2.2
theorem cutTo {vs : List V} {i : Nat} (h : i ≤ vs.length) : cutV vs none (some (i : Int)) = vs.take i := by
  unfold cutV
  rw [show HT.sIx vs.length 0 none = 0 from rfl, HT.sIx_nat, List.drop_zero, Nat.sub_zero]
  congr 1; omega
theorem ev_mulW {x y : Int} {a b : Nat} (h1 : Ev ta σ H (.int x)) (h2 : Ev tb σ H (.int y)) (bx : x.natAbs < 2 ^ a) (by_ : y.natAbs < 2 ^ b) (h : a + b ≤ 200000) : Ev (tOp (rI CMulW fun i j => .int (i * j)) ta tb) σ H (.int (x * y)) :=
  ev_op h1 h2 (rv_I (mul_ok bx by_ h))
end
section
variable {P : Program} {w : World} {K : PySem.W.Frag} {mg : Str → Option Value} {base : Heap}
theorem scPeak : FnScope ["matrix", "shares", "columns", "at", "one", "other", "mine", "its", "top", "slope", "low", "best", "share"] ["matrix"] (defScope sPeak) := ⟨rfl, rfl, rfl, by decide +kernel, rfl, by decide +kernel, by decide +kernel⟩
theorem ok_peak (T : Bt mg) (F : Dn K mg "_law_peak" sPeak ["matrix"]) (GS : Fn P w K mg base "_law_short" ["top", "low"] 1 (spShort K)) (GA : Fn P w K mg base "_law_least_at" ["matrix", "share"] 3 (spLeastAt K)) (GL : Fn P w K mg base "_law_less" ["one", "other"] 1 (spLess K)) :
    Fn P w K mg base "_law_peak" ["matrix"] 4 (spPeak K) := by
  refine F.fn scPeak (fun vs H Q E h => ?_) (fun f cdv A outer s0 H vs Q E hr h => ?_)
  · obtain ⟨_, _, _, _, rfl, _⟩ := h; rfl
  obtain ⟨m0, r0, r1, m, rfl, ⟨am, vsm, rfl, htm, hpm⟩, l0, l1, mp, hm, b0, b1, k⟩ := h
  refine ⟨_, pss_cons (ps_par (i := 1) (j := 2) (by rfl) scPeak.nd rfl rfl (by decide) rfl rfl (pa_cons (pe_lst (pa_cons (pe_tup (pa_cons pe_int (pa_cons pe_int pa_nil))) (pa_cons (pe_tup (pa_cons pe_int (pa_cons pe_int pa_nil))) pa_nil))) (pa_cons (pe_listZip rfl (by rfl) T.list (by rfl) T.zip (pa_cons (pe_ix ix_tup (pv 0) pe_int (fun _ _ => rfl)) (pa_cons (pe_ix ix_tup (pv 0) pe_int (fun _ _ => rfl)) pa_nil))) pa_nil)) (by rfl))
    (pss_cons (ps_for PassesOwn.never rfl (pi_enum (by rfl) T.enumerate (pa_cons (pv 2) pa_nil)) (pg_tup (by rfl) (pgs_cons (pg_name (i := 3) scPeak.nd rfl (Or.inl rfl)) (pgs_cons (pg_tup (by rfl) (pgs_cons (pg_name (i := 4) scPeak.nd rfl (Or.inl rfl)) (pgs_cons (pg_name (i := 5) scPeak.nd rfl (Or.inl rfl)) pgs_nil))) pgs_nil)))
      (pss_one (ps_for PassesOwn.never rfl (pi_list (pe_slice sl_list (pv 2) po_none (po_some (pv 3)))) (pg_tup (by rfl) (pgs_cons (pg_name (i := 6) scPeak.nd rfl (Or.inl rfl)) (pgs_cons (pg_name (i := 7) scPeak.nd rfl (Or.inl rfl)) pgs_nil)))
        (pss_cons (ps_set (i := 8) scPeak.nd rfl (.inl rfl) (pe_op op_sub (pe_op op_mulW (pe_ix ix_tup (pv 7) pe_int (fun _ _ => rfl)) (pe_ix ix_tup (pv 5) pe_int (fun _ _ => rfl))) (pe_op op_mulW (pe_ix ix_tup (pv 5) pe_int (fun _ _ => rfl)) (pe_ix ix_tup (pv 7) pe_int (fun _ _ => rfl)))))
        (pss_cons (ps_set (i := 9) scPeak.nd rfl (.inl rfl) (pe_op op_sub (pe_op op_mulW (pe_op op_mulW (pe_op op_sub (pe_op op_mulW (pe_ix ix_tup (pv 4) pe_int (fun _ _ => rfl)) (pe_ix ix_tup (pv 5) pe_int (fun _ _ => rfl))) (pe_op op_mulW (pe_ix ix_tup (pv 5) pe_int (fun _ _ => rfl)) (pe_ix ix_tup (pv 4) pe_int (fun _ _ => rfl)))) (pe_ix ix_tup (pv 6) pe_int (fun _ _ => rfl))) (pe_ix ix_tup (pv 7) pe_int (fun _ _ => rfl)))
            (pe_op op_mulW (pe_op op_mulW (pe_op op_sub (pe_op op_mulW (pe_ix ix_tup (pv 6) pe_int (fun _ _ => rfl)) (pe_ix ix_tup (pv 7) pe_int (fun _ _ => rfl))) (pe_op op_mulW (pe_ix ix_tup (pv 7) pe_int (fun _ _ => rfl)) (pe_ix ix_tup (pv 6) pe_int (fun _ _ => rfl)))) (pe_ix ix_tup (pv 4) pe_int (fun _ _ => rfl))) (pe_ix ix_tup (pv 5) pe_int (fun _ _ => rfl)))))
        (pss_cons (ps_set (i := 10) scPeak.nd rfl (.inl rfl) (pv 9))
        (pss_cons (ps_set (i := 8) scPeak.nd rfl (.inl rfl) (pe_op op_mulW (pe_op op_mulW (pv 8) (pe_ix ix_tup (pv 4) pe_int (fun _ _ => rfl))) (pe_ix ix_tup (pv 6) pe_int (fun _ _ => rfl))))
        (pss_one (ps_if (PW.pt (pw_and (pt_cmpR op_ne (pv 10) pe_int (nomark _)) (pw_and1 (pt_chain op_le op_le pe_int (pe_op op_mulW (pv 8) (pv 10)) (pe_op op_mulW (pv 10) (pv 10))))))
          (pss_one (ps_expr (pe_bm PySem.F.plainAttrs_list PySem.F.slot_list_append PySem.F.type_list_append mt_append (pv 1) (pa_cons (pe_fn GS (hr.mono (by decide)) (pa_cons (pe_callB call_abs (by rfl) T.abs (by decide +kernel) (pa_cons (pv 8) pa_nil)) (pa_cons (pe_callB call_abs (by rfl) T.abs (by decide +kernel) (pa_cons (pv 10) pa_nil)) pa_nil))) pa_nil)))) pss_nil)))))))))
    (pss_cons (ps_set (i := 11) scPeak.nd rfl (.inl rfl) (pe_ix ix_list (pv 1) pe_int (fun _ _ => rfl)))
    (pss_cons (ps_for PassesOwn.never rfl (pi_list (pv 1)) (pg_name (i := 12) scPeak.nd rfl (Or.inl rfl))
      (pss_one (ps_set (i := 11) scPeak.nd rfl (.inl rfl) (pe_ifExp (pt_val (pe_fn GL (hr.mono (by decide)) (pa_cons (pe_fn GA hr (pa_cons (pv 0) (pa_cons (pv 11) pa_nil))) (pa_cons (pe_fn GA hr (pa_cons (pv 0) (pa_cons (pv 12) pa_nil))) pa_nil)))) (pv 12) (pv 11)))))
    (pss_one (ps_ret (pe_tup (pa_cons (pe_fn GA hr (pa_cons (pv 0) (pa_cons (pv 11) pa_nil))) (pa_cons (pv 11) pa_nil)))))))), ?_⟩
  obtain ⟨w0, w1, ew, ⟨a0, ws0, rfl, ht0, hp0⟩, ⟨a1, ws1, rfl, ht1, hp1⟩⟩ : ∃ w0 w1, vsm = [w0, w1] ∧ RoV K H w0 r0 ∧ RoV K H w1 r1 := by
    cases hpm with
    | cons h t => cases t with
      | cons h' t' => cases t'; exact ⟨_, _, rfl, h, h'⟩
  subst ew
  have each : ∀ r ∈ [r0, r1], r.length = m := fun r hr => by
    rcases List.mem_cons.mp hr with e | hr
    · rw [e]; exact l0
    · rw [List.mem_singleton] at hr; rw [hr]; exact l1
  have gsh : Gv (tLst (tCons (tTup (tCons (tC (.int 0)) (tCons (tC (.int 1)) tNil))) (tCons (tTup (tCons (tC (.int 1)) (tCons (tC (.int 1)) tNil))) tNil))) [some (.ref am), none, none, none, none, none, none, none, none, none, none, none, none] H (NwL FrV K H [0, 1]) := gv_lst2 (gv_frac (q := 0) rfl rfl) (gv_frac (q := 1) rfl rfl) FrV.ex
  have gcol : ∀ H1, Ex H H1 → Gv (tLZ K (tCons (tOp (rIxT K) (tVar 0) (tC (.int 0))) (tCons (tOp (rIxT K) (tVar 0) (tC (.int 1))) tNil))) [some (.ref am), none, none, none, none, none, none, none, none, none, none, none, none] H1
      (fun w H2 => ∃ D vs, w = .ref D ∧ H1 D = none ∧ H2 D = some (.lst vs) ∧ Paired (RoV K H2) vs (colsOf [r0, r1] m)) := fun H1 e1 Ha ea Q q => by
    refine ea_cons (ev_op (ev_var (i := 0) rfl) ev_c (rv_ixT (ex_t e1 htm) at0)) (ea_cons (ev_op (ev_var (i := 0) rfl) ev_c (rv_ixT (ex_t e1 htm) at1)) ea_nil) Ha ea _ fun Hb eb => ?_
    have eHb := (e1.trans ea).trans eb
    refine ⟨[a0, a1], rfl, (by simp), (by show 2 ≤ 1000; decide), [ws0, ws1], m, mp, by omega, .cons ⟨ex_t eHb ht0, by rw [Paired.length hp0]; exact l0⟩ (.cons ⟨ex_t eHb ht1, by rw [Paired.length hp1]; exact l1⟩ .nil), fun D as H2 hD e2 hl hpD => ?_⟩
    have p2 : Paired (fun row r => Paired (FrV K Hb) row r) [ws0, ws1] [r0, r1] := .cons (L2.Paired.mapP hp0 fun v x r => FrV.ex _ _ _ _ eHb r) (.cons (L2.Paired.mapP hp1 fun v x r => FrV.ex _ _ _ _ eHb r) .nil)
    exact q _ H2 (eb.trans e2) ⟨D, _, rfl, fresh_back (ea.trans eb) hD, hl, cols_pr e2 hpD p2 each⟩
  refine sq (s_parD gsh (fun v H1 e1 _ => gcol H1 e1) fun v w H1 H2 e1 e2 ⟨S, wsS, ev, hS0, hS1, hpS⟩ ⟨D, vsD, ew, hD0, hD1, hpD⟩ => ?_)
  subst ev ew
  have DS : D ≠ S := fun z => by rw [z, hS1] at hD0; cases hD0
  have hS2 : H2 S = some (.lst wsS) := e2 _ _ hS1
  -- the base: all but the shares
  have xT : ExT H2 (hide H2 S) := extT_hide hS2
  have hDh : hide H2 S D = some (.lst vsD) := by rw [hide_ne DS]; exact hD1
  have hpDh : Paired (RoV K (hide H2 S)) vsD (colsOf [r0, r1] m) := L2.Paired.mapP hpD fun v x r => RoV.mono xT r
  have clen : (colsOf [r0, r1] m).length = m := by unfold colsOf; rw [List.length_map, List.length_range]
  have vlen : vsD.length = m := by rw [Paired.length hpDh, clen]
  have colAt : ∀ i x, (colsOf [r0, r1] m)[i]? = some x → i < m ∧ x = [r0.getD i 0, r1.getD i 0] := fun i x e => by
    have hi : i < m := by have := (List.getElem?_eq_some_iff.mp e).1; omega
    unfold colsOf at e
    rw [List.getElem?_map, List.getElem?_range hi] at e
    exact ⟨hi, by simpa using e.symm⟩
  have bits0 : ∀ i, i < m → Bits (r0.getD i 0) 13 := fun i hi => b0 _ (List.mem_of_getElem? (some_getD (d := 0) (by omega : i < r0.length)))
  have bits1 : ∀ i, i < m → Bits (r1.getD i 0) 13 := fun i hi => b1 _ (List.mem_of_getElem? (some_getD (d := 0) (by omega : i < r1.length)))
  have he := gi_enum (R := RoV) (K := K) (σ := [some (.ref am), some (.ref S), some (.ref D), none, none, none, none, none, none, none, none, none, none]) (t := tVar 2) (H := hide H2 S) (ev_var rfl) (sq_of hDh) hpDh RoV.ex
  rw [clen] at he
  dsimp only
  refine sq (s_for0 he ex_hide (fun i σ' H' => Ex (hide H2 S) H' ∧ ∃ o3 o4 o5 o6 o7 o8 o9 o10 ws cl, σ' = [some (.ref am), some (.ref S), some (.ref D), o3, o4, o5, o6, o7, o8, o9, o10, none, none] ∧ H' S = some (.lst ws) ∧ Paired (FrV K H') ws cl ∧ Cl cl ∧ cl.length ≤ 2 + 100 * i ∧
      ∀ a, a < i → ∀ k, k < a → ∀ y, Cr r0 r1 a k y → y ∈ cl)
    (fun H3 e3 => ⟨ex_hide.trans e3, none, none, none, none, none, none, none, none, wsS, [0, 1], rfl, e3 _ _ hS2, L2.Paired.mapP hpS fun v x r => FrV.ex _ _ _ _ (e2.trans e3) r, ⟨⟨[], rfl⟩, fun q hq => ?_⟩, by decide, fun a ha => absurd ha (Nat.not_lt_zero _)⟩) (fun _ _ _ p => p.1) ?_ ?_)
  · rcases List.mem_cons.mp hq with z | z
    · rw [z]; exact ⟨by decide, by decide, by decide, by decide⟩
    · rw [List.mem_singleton] at z; rw [z]; exact ⟨by decide, by decide, by decide, by decide⟩
  · rintro i x σ' H' H'' hi ⟨e, o3, o4, o5, o6, o7, o8, o9, o10, ws, cl, rfl, hws, hp, hcl, hlen, hcr⟩ e' ⟨t, w1, row, rfl, hT, hrow, ⟨ar, rs, rfl, hrt, hrp⟩⟩
    obtain ⟨him, er⟩ := colAt i row hrow
    subst er
    obtain ⟨va, vb, ers, fa, fb⟩ : ∃ va vb, rs = [va, vb] ∧ FrV K H'' va (r0.getD i 0) ∧ FrV K H'' vb (r1.getD i 0) := by
      cases hrp with
      | cons h t => cases t with
        | cons h' t' => cases t'; exact ⟨_, _, rfl, h, h'⟩
    subst ers
    refine ⟨t, _, rfl, hT, rfl, _, _, rfl, _, _, rfl, ar, _, rfl, hrt, rfl, _, _, rfl, _, _, rfl, rfl, rfl, ?_⟩
    have ee := e.trans e'
    have hws'' : H'' S = some (.lst ws) := e' _ _ hws
    have gsl : Gv (tSl (rSlL K) (tVar 2) tNoPart (tPart (tVar 3))) [some (.ref am), some (.ref S), some (.ref D), some (.int i), some va, some vb, o6, o7, o8, o9, o10, none, none] H'' (NwL RoV K H'' ((colsOf [r0, r1] m).take i)) :=
      gv_slice (ev_var rfl) eo_none (eo_some (ev_var rfl)) (sq_of (ee _ _ hDh)) (cutTo (by omega)) (paired_take i (L2.Paired.mapP hpDh fun v x r => RoV.ex _ _ _ _ ee r)) RoV.ex
    refine s_forNG gsl fun vL H3 e3 ⟨DL, vsL, evL, hDL, hDLl, hpL⟩ => ?_
    have DLS : DL ≠ S := fun z => by rw [z, hws''] at hDL; cases hDL
    have hws3 : H3 S = some (.lst ws) := e3 _ _ hws''
    have xT3 : ExT H3 (hide H3 S) := extT_hide hws3
    have llen : vsL.length = i := by rw [Paired.length hpL, List.length_take, clen]; omega
    -- what stood ahead stands still
    have eB : Ex (hide H2 S) (hide H3 S) := fun a o q => by
      have aS : a ≠ S := fun z => by rw [z, hide_p] at q; cases q
      rw [hide_ne aS]; exact e3 _ _ (ee _ _ q)
    refine ⟨DL, vsL, evL, hDLl, fun k σ' H' => Ex (hide H3 S) H' ∧ ∃ o6 o7 o8 o9 o10 ws cl, σ' = [some (.ref am), some (.ref S), some (.ref D), some (.int i), some va, some vb, o6, o7, o8, o9, o10, none, none] ∧ H' S = some (.lst ws) ∧ Paired (FrV K H') ws cl ∧ Cl cl ∧ cl.length ≤ 2 + 100 * i + k ∧
      (∀ a, a < i → ∀ k, k < a → ∀ y, Cr r0 r1 a k y → y ∈ cl) ∧ ∀ k', k' < k → ∀ y, Cr r0 r1 i k' y → y ∈ cl, ?_, ?_, ?_, ?_⟩
    · exact ⟨ex_hide, o6, o7, o8, o9, o10, ws, cl, rfl, hws3, L2.Paired.mapP hp fun v x r => FrV.ex _ _ _ _ (e'.trans e3) r, hcl, hlen, hcr, fun k' hk => absurd hk (Nat.not_lt_zero _)⟩
    · rintro k σ' H' hk ⟨eh, _⟩
      exact sq_of (eh _ _ (by rw [hide_ne DLS]; exact hDLl))
    · rintro k x σ' H4 hx ⟨eh, o6', o7', o8', o9', o10', ws', cl', rfl, hwsS, hpS', hcl', hlen', hcr', hcri⟩
      have hki : k < i := by have := (List.getElem?_eq_some_iff.mp hx).1; omega
      obtain ⟨rowk, hrowk, frow⟩ := wk_list.pget hpL hx
      rw [List.getElem?_take_of_lt hki] at hrowk
      obtain ⟨hkm, erk⟩ := colAt k rowk hrowk
      subst erk
      obtain ⟨ark, rsk, rfl, hrtk, hrpk⟩ := RoV.ex _ _ _ _ eh (RoV.mono xT3 frow)
      obtain ⟨vc, vd, ersk, fc, fd⟩ : ∃ vc vd, rsk = [vc, vd] ∧ FrV K H4 vc (r0.getD k 0) ∧ FrV K H4 vd (r1.getD k 0) := by
        cases hrpk with
        | cons h t => cases t with
          | cons h' t' => cases t'; exact ⟨_, _, rfl, h, h'⟩
      subst ersk
      refine ⟨ark, _, rfl, hrtk, rfl, _, _, rfl, _, _, rfl, rfl, ?_⟩
      have fa4 : FrV K H4 va (r0.getD i 0) := ((fa.mono (ExT.of e3)).mono xT3).mono (ExT.of eh)
      have fb4 : FrV K H4 vb (r1.getD i 0) := ((fb.mono (ExT.of e3)).mono xT3).mono (ExT.of eh)
      have ba := bits0 i him
      have bb := bits1 i him
      have bc := bits0 k hkm
      have bd := bits1 k hkm
      generalize hA : r0.getD i 0 = A at *
      generalize hB : r1.getD i 0 = Bq at *
      generalize hC : r0.getD k 0 = Cq at *
      generalize hDq : r1.getD k 0 = Dq at *
      have fr : ∀ (j : Nat) (v : V) (q : Rat) (σ : L2.St) (H5 : Hp), Ex H4 H5 → σ[j]? = some (some v) → FrV K H4 v q → Ev (tOp (rIxT K) (tVar j) (tC (.int 0))) σ H5 (.int q.num) ∧ Ev (tOp (rIxT K) (tVar j) (tC (.int 1))) σ H5 (.int q.den) := fun j v q σ H5 e hj ⟨a, ev, h⟩ => by
        subst ev
        exact ⟨ev_ixT0 (w := .non) (ev_var hj) (ex_t e h), ev_ixT1 (ev_var hj) (ex_t e h)⟩
      have ml : ∀ {x y : Int} {a b : Nat}, x.natAbs < 2 ^ a → y.natAbs < 2 ^ b → (x * y).natAbs < 2 ^ (a + b) := fun h1 h2 => mul_lt h1 h2
      -- top, slope
      have t0b : (Dq.num * Bq.den - Bq.num * Dq.den).natAbs < 2 ^ 27 := sub_lt (ml bd.1 (nd bb.2)) (ml bb.1 (nd bd.2))
      have x1b : (A.num * Bq.den - Bq.num * A.den).natAbs < 2 ^ 27 := sub_lt (ml ba.1 (nd bb.2)) (ml bb.1 (nd ba.2))
      have x2b : (Cq.num * Dq.den - Dq.num * Cq.den).natAbs < 2 ^ 27 := sub_lt (ml bc.1 (nd bd.2)) (ml bd.1 (nd bc.2))
      have tb40 := ml t0b (nd ba.2)
      have tb53 : (Sx.topI A Bq Cq Dq).natAbs < 2 ^ 53 := ml tb40 (nd bc.2)
      have s1b := ml x1b (nd bc.2)
      have s1c := ml s1b (nd bd.2)
      have s2b := ml x2b (nd ba.2)
      have s2c := ml s2b (nd bb.2)
      have sb54 : (Sx.slopeI A Bq Cq Dq).natAbs < 2 ^ 54 := sub_lt s1c s2c
      refine sq (s_asg (v := .int (Dq.num * Bq.den - Bq.num * Dq.den)) (ev_op (ev_mulW (fr 7 vd Dq _ _ (Ex.refl _) rfl fd).1 (fr 5 vb Bq _ _ (Ex.refl _) rfl fb4).2 bd.1 (nd bb.2) (by decide)) (ev_mulW (fr 5 vb Bq _ _ (Ex.refl _) rfl fb4).1 (fr 7 vd Dq _ _ (Ex.refl _) rfl fd).2 bb.1 (nd bd.2) (by decide)) rv_I0) fun H5 e5 => ?_)
      refine sq (s_asg (v := .int (Sx.slopeI A Bq Cq Dq)) (ev_op
          (ev_mulW (ev_mulW (ev_op (ev_mulW (fr 4 va A _ _ e5 rfl fa4).1 (fr 5 vb Bq _ _ e5 rfl fb4).2 ba.1 (nd bb.2) (by decide)) (ev_mulW (fr 5 vb Bq _ _ e5 rfl fb4).1 (fr 4 va A _ _ e5 rfl fa4).2 bb.1 (nd ba.2) (by decide)) rv_I0) (fr 6 vc Cq _ _ e5 rfl fc).2 x1b (nd bc.2) (by decide)) (fr 7 vd Dq _ _ e5 rfl fd).2 s1b (nd bd.2) (by decide))
          (ev_mulW (ev_mulW (ev_op (ev_mulW (fr 6 vc Cq _ _ e5 rfl fc).1 (fr 7 vd Dq _ _ e5 rfl fd).2 bc.1 (nd bd.2) (by decide)) (ev_mulW (fr 7 vd Dq _ _ e5 rfl fd).1 (fr 6 vc Cq _ _ e5 rfl fc).2 bd.1 (nd bc.2) (by decide)) rv_I0) (fr 4 va A _ _ e5 rfl fa4).2 x2b (nd ba.2) (by decide)) (fr 5 vb Bq _ _ e5 rfl fb4).2 s2b (nd bb.2) (by decide)) rv_I0) fun H6 e6 => ?_)
      have e46 := e5.trans e6
      refine sq (s_asg (v := .int (Sx.slopeI A Bq Cq Dq)) (ev_var rfl) fun H7 e7 => ?_)
      have e47 := e46.trans e7
      refine sq (s_asg (v := .int (Sx.topI A Bq Cq Dq)) (ev_mulW (ev_mulW (ev_var rfl) (fr 4 va A _ _ e47 rfl fa4).2 t0b (nd ba.2) (by decide)) (fr 6 vc Cq _ _ e47 rfl fc).2 tb40 (nd bc.2) (by decide)) fun H8 e8 => ?_)
      have e48 := e47.trans e8
      generalize ht : Sx.topI A Bq Cq Dq = tt at *
      generalize hl : Sx.slopeI A Bq Cq Dq = ll at *
      have cross : ∀ y, Cr r0 r1 i k y → ll ≠ 0 ∧ 0 ≤ tt * ll ∧ tt * ll ≤ ll * ll ∧ y = Rat.divInt (Sx.absI tt) (Sx.absI ll) := fun y hy => by
        have s0 := hy.s0
        have eq := hy.eq
        rw [hA, hB, hC, hDq] at s0 eq
        have := Sx.crossed hy.y0 hy.y1 s0 eq
        rw [ht, hl] at this
        exact this
      have hws8 : H8 S = some (.lst ws') := e48 _ _ hwsS
      have test : EvT (tAnd (tTest (tOp rNe (tVar 10) (tC (.int 0)))) (tTest (tChain (rI0 fun i j => .bl (decide (i ≤ j))) (rI0 fun i j => .bl (decide (i ≤ j))) (tC (.int 0)) (tOp (rI CMulW fun i j => .int (i * j)) (tVar 8) (tVar 10)) (tOp (rI CMulW fun i j => .int (i * j)) (tVar 10) (tVar 10))))) [some (.ref am), some (.ref S), some (.ref D), some (.int i), some va, some vb, some vc, some vd, some (.int tt), some (.int ll), some (.int ll), none, none] H8 (!decide (ll = 0) && (decide (0 ≤ tt * ll) && decide (tt * ll ≤ ll * ll))) :=
        et_and (et_neI (ev_var rfl) ev_c) fun _ => et_test (ev_chain ev_c (ev_mulW (ev_var rfl) (ev_var rfl) tb53 sb54 (by decide)) (ev_mulW (ev_var rfl) (ev_var rfl) sb54 sb54 (by decide)))
      refine s_when test (fun yes H9 e9 => ?_) fun no H9 e9 => ?_
      · obtain ⟨l0, q0, q1⟩ : ll ≠ 0 ∧ 0 ≤ tt * ll ∧ tt * ll ≤ ll * ll := by
          simp only [Bool.and_eq_true, Bool.not_eq_true', decide_eq_false_iff_not, decide_eq_true_eq] at yes
          exact ⟨yes.1, yes.2.1, yes.2.2⟩
        obtain ⟨d0, d1, _⟩ := Sx.laid l0 q0 q1
        have ab : ∀ z : Int, (if z < 0 then -z else z) = Sx.absI z := fun _ => rfl
        have abn : ∀ z : Int, (Sx.absI z).natAbs = z.natAbs := fun z => by unfold Sx.absI; split <;> omega
        have dbits : Bits (Rat.divInt (Sx.absI tt) (Sx.absI ll)) 60 := by
          have lp := Sx.absI_pos l0
          exact Bits.divInt (by omega) (by rw [abn]; exact pow_le tb53 (by decide)) (by rw [abn]; exact pow_le sb54 (by decide))
        have gq : Gv (tCall (spShort K) [] E0 (tCons (tCB (fun xs H Q => ∃ i, xs = [.int i] ∧ Q (.int (if i < 0 then -i else i)) H) (tCons (tVar 8) tNil)) (tCons (tCB (fun xs H Q => ∃ i, xs = [.int i] ∧ Q (.int (if i < 0 then -i else i)) H) (tCons (tVar 10) tNil)) tNil))) [some (.ref am), some (.ref S), some (.ref D), some (.int i), some va, some vb, some vc, some vd, some (.int tt), some (.int ll), some (.int ll), none, none] H9 (fun u H' => FrV K H' u (Rat.divInt (Sx.absI tt) (Sx.absI ll))) := by
          refine gv_call (B := fun vs' _ => vs' = [.int (Sx.absI tt), .int (Sx.absI ll)]) (fun H5 e5 Q q => ea_cons (ev_cb (ea_cons (ev_var (H := H9) rfl) ea_nil) fun Ha ea Qa qa => ⟨tt, rfl, qa Ha (Ex.refl _)⟩) (ea_cons (ev_cb (ea_cons (ev_var rfl) ea_nil) fun Ha ea Qa qa => ⟨ll, rfl, qa Ha (Ex.refl _)⟩) ea_nil) H5 e5 Q fun H6 e6 => q _ H6 e6 rfl) fun vs' H5 e5 hv' Q E q' => ?_
          subst hv'
          exact ⟨_, _, rfl, Sx.absI_pos l0, by rw [abn]; exact pow_le sb54 (by decide), pow_le dbits.2 (by decide), fun u H6 e6 hu => q' u H6 e6 hu⟩
        have hws9 : H9 S = some (.lst ws') := e9 _ _ hws8
        have wl : ws'.length = cl'.length := Paired.length hpS'
        refine s_appG hws9 (ev_var rfl) gq (by omega) fun vq Hq eq hvq => ?_
        have up : ExT Hq (upd Hq S (.lst (ws' ++ [vq]))) := ext_set (eq _ _ hws9)
        refine ⟨((eh.trans e48).trans (e9.trans eq)).mut hide_p, _, _, _, _, _, ws' ++ [vq], cl' ++ [Rat.divInt (Sx.absI tt) (Sx.absI ll)], rfl, upd_same, ?_, hcl'.more d0 d1 dbits, by rw [List.length_append, List.length_singleton]; omega, fun a ha k2 hk2 y hy => List.mem_append_left _ (hcr' a ha k2 hk2 y hy), fun k2 hk2 y hy => ?_⟩
        · exact paired_append (L2.Paired.mapP hpS' fun v x r => r.mono ((ExT.of ((e48.trans e9).trans eq)).trans up)) (.cons (hvq.mono up) .nil)
        · by_cases z : k2 = k
          · subst z
            rw [(cross y hy).2.2.2]
            exact List.mem_append_right _ (List.mem_singleton.mpr rfl)
          · exact List.mem_append_left _ (hcri k2 (by omega) y hy)
      · refine ⟨(eh.trans e48).trans e9, _, _, _, _, _, ws', cl', rfl, e9 _ _ hws8, L2.Paired.mapP hpS' fun v x r => FrV.ex _ _ _ _ (e48.trans e9) r, hcl', by omega, hcr', fun k2 hk2 y hy => ?_⟩
        by_cases z : k2 = k
        · subst z
          obtain ⟨c1, c2, c3, _⟩ := cross y hy
          rw [decide_eq_false c1, decide_eq_true c2, decide_eq_true c3] at no
          cases no
        · exact hcri k2 (by omega) y hy
    · rintro σ' H4 ⟨eh, o6', o7', o8', o9', o10', ws', cl', rfl, hwsS, hpS', hcl', hlen', hcr', hcri⟩
      rw [llen] at hlen' hcri
      refine ⟨eB.trans eh, _, _, _, _, _, _, _, _, ws', cl', rfl, hwsS, hpS', hcl', by omega, fun a ha k hk y hy => ?_⟩
      by_cases z : a = i
      · subst z; exact hcri k hk y hy
      · exact hcr' a (by omega) k hk y hy
  · rintro σ' H' ⟨e, o3, o4, o5, o6, o7, o8, o9, o10, ws, cl, rfl, hws, hp, hcl, hlen, hcr⟩
    obtain ⟨rest, ecl⟩ := hcl.two
    obtain ⟨v0, wr, ewr, f0⟩ : ∃ v0 wr, ws = v0 :: wr ∧ FrV K H' v0 0 := by
      rw [ecl] at hp
      cases hp with
      | cons h t => exact ⟨_, _, rfl, h⟩
    have cl0 : cl[0]? = some 0 := by rw [ecl]; rfl
    have ee : Ex H (hide H2 S) := fun a o q => by
      rw [hide_ne (fun z => by rw [z, hS0] at q; cases q)]; exact e2 _ _ (e1 _ _ q)
    have eH := ee.trans e
    refine sq (s_asg (v := v0) (ev_op (ev_var rfl) ev_c (rv_ixL (sq_of hws) (by rw [ewr]; exact at0))) fun H3 e3 => ?_)
    have hws3 : H3 S = some (.lst ws) := e3 _ _ hws
    have hp3 : Paired (FrV K H3) ws cl := L2.Paired.mapP hp fun v x r => FrV.ex _ _ _ _ e3 r
    have eH3 := eH.trans e3
    -- the least at a share, asked
    have gla : ∀ (σ : L2.St) (H4 : Hp) (j : Nat) (v : V) (q : Rat), Ex H H4 → σ[0]? = some (some (.ref am)) → σ[j]? = some (some v) → FrV K H4 v q → Bits q 60 → Gv (tCall (spLeastAt K) [] E0 (tCons (tVar 0) (tCons (tVar j) tNil))) σ H4 (fun u H' => FrV K H' u (leastAt r0 r1 q)) := fun σ H4 j v q e4 h0 hj hq bq => by
      refine gv_call (B := fun vs' _ => vs' = [.ref am, v]) (fun H5 e5 Q q => ea_cons (ev_var (H := H4) h0) (ea_cons (ev_var hj) ea_nil) H5 e5 Q fun H6 e6 => q _ H6 e6 rfl) fun vs' H5 e5 hv' Q E q' => ?_
      subst hv'
      have e45 := e4.trans e5
      exact ⟨_, _, r0, r1, m, q, rfl, ⟨am, _, rfl, ex_t e45 htm, L2.Paired.mapP hpm fun v x r => RoV.ex _ _ _ _ e45 r⟩, hq.mono (ExT.of e5), l0, l1, mp, by omega, b0, b1, bq, fun u H6 e6 hu => q' u H6 e6 hu⟩
    have hl := (gi_list (K := K) (σ := [some (.ref am), some (.ref S), some (.ref D), o3, o4, o5, o6, o7, o8, o9, o10, some v0, none]) (t := tVar 1) (ev_var rfl) (sq_of hws3) hp3 FrV.ex).gn
    refine sq (s_for hl (fun H4 i σ' H' => Ex H4 H' ∧ ∃ vb o12 bq, σ' = [some (.ref am), some (.ref S), some (.ref D), o3, o4, o5, o6, o7, o8, o9, o10, some vb, o12] ∧ FrV K H' vb bq ∧ bq ∈ cl ∧ ∀ j, j < i → leastAt r0 r1 (cl.getD j 0) ≤ leastAt r0 r1 bq)
      (fun H4 e4 => ⟨Ex.refl _, v0, none, 0, rfl, f0.mono (ExT.of (e3.trans e4)), List.mem_of_getElem? cl0, fun j hj => absurd hj (Nat.not_lt_zero _)⟩) (fun _ _ _ _ p => p.1) ?_ ?_)
    · rintro H4 i x σ' H5 H6 e4 hi ⟨e5, vb, o12, bq, rfl, fb, hbm, hmax⟩ e6 ⟨q, hq, fq⟩
      have qm : q ∈ cl := List.mem_of_getElem? hq
      have eH6 := ((eH3.trans e4).trans e5).trans e6
      have fb6 := fb.mono (ExT.of e6)
      have bb60 := (hcl.each _ hbm).2.2
      have bq60 := (hcl.each _ qm).2.2
      have test : EvT (tB (tCall (spLess K) [] E0 (tCons (tCall (spLeastAt K) [] E0 (tCons (tVar 0) (tCons (tVar 11) tNil))) (tCons (tCall (spLeastAt K) [] E0 (tCons (tVar 0) (tCons (tVar 12) tNil))) tNil)))) [some (.ref am), some (.ref S), some (.ref D), o3, o4, o5, o6, o7, o8, o9, o10, some vb, some x] H6 (decide (leastAt r0 r1 bq < leastAt r0 r1 q)) :=
        et_less (gla _ H6 11 vb bq eH6 rfl rfl fb6 bb60) (gla _ H6 12 x q eH6 rfl rfl fq bq60) (leastAt_bits l0 l1 mp b0 b1 bb60) (leastAt_bits l0 l1 mp b0 b1 bq60) (by decide)
      have eq : cl.getD i 0 = q := getD_of hq
      by_cases c : leastAt r0 r1 bq < leastAt r0 r1 q
      · refine s_asg (v := x) (ev_if (b := true) (et_is test (decide_eq_true c)) (fun _ => ev_var rfl) (fun z => by cases z)) fun H7 e7 => ?_
        refine ⟨(e5.trans e6).trans e7, x, _, q, rfl, fq.mono (ExT.of e7), qm, fun j hj => ?_⟩
        by_cases z : j = i
        · rw [z, eq]; exact Rat.le_refl
        · exact Rat.le_trans (hmax j (by omega)) (Rat.le_of_lt c)
      · refine s_asg (v := vb) (ev_if (b := false) (et_is test (decide_eq_false c)) (fun z => by cases z) (fun _ => ev_var rfl)) fun H7 e7 => ?_
        refine ⟨(e5.trans e6).trans e7, vb, _, bq, rfl, fb6.mono (ExT.of e7), hbm, fun j hj => ?_⟩
        by_cases z : j = i
        · rw [z, eq]; exact Rat.not_lt.mp c
        · exact hmax j (by omega)
    · rintro H4 σ' H5 e4 ⟨e5, vb, o12, bq, rfl, fb, hbm, hmax⟩
      have eH5 := (eH3.trans e4).trans e5
      obtain ⟨q0, q1, qb⟩ := hcl.each _ hbm
      have all : ∀ y ∈ cl, leastAt r0 r1 y ≤ leastAt r0 r1 bq := fun y hy => by
        obtain ⟨j, hj, ej⟩ := List.getElem_of_mem hy
        have := hmax j hj
        rw [getD_of (show cl[j]? = some y by simp [hj, ej])] at this
        exact this
      have fin := gv_tup (ga_cons (gla [some (.ref am), some (.ref S), some (.ref D), o3, o4, o5, o6, o7, o8, o9, o10, some vb, o12] H5 11 vb bq eH5 rfl rfl fb qb) (ga_cons (gv_var1 (i := 11) (v := vb) rfl) ga_nil (fun _ _ _ _ h => h)) (fun v Ha Hb e r => FrV.ex _ _ _ _ e r)) (fun vs' H' ⟨v, r, e1, _, v2, r2, e2, _, e5⟩ => by rw [e1, e2, e5]; show 2 ≤ 100000; decide)
      refine s_retG fin fun v H6 e6 ⟨p, vs', H7, ev, hp0', hp1', e7, v1, r1', ev1, f1, v2, r2, ev2, f2, ev3⟩ => ?_
      subst ev ev1 ev2 ev3 f2
      refine k _ H6 (leastAt r0 r1 bq) bq (eH5.trans e6) ⟨p, v1, v2, rfl, st_of hp1', f1.mono (ExT.of e7), fb.mono (ExT.of e6)⟩ ⟨q0, q1, qb, rfl, all 0 (by rw [ecl]; simp), all 1 (by rw [ecl]; simp), fun i hi k' hk y hy => all y (hcr i hi k' hk y hy)⟩
end
end Mx
end
section
set_option Elab.async false
set_option linter.all false
set_option maxRecDepth 100000
set_option maxHeartbeats 4000000
/-! The peak is the value; two certificates have one value. -/
namespace Mx
open Fra
open Sx (Mat ent Told Shows sm Wt)
theorem leastAt_ge {r0 r1 : List Rat} {s v : Rat} {m : Nat} (l0 : r0.length = m) (l1 : r1.length = m) (mp : 0 < m) (h : ∀ j, j < m → v ≤ s * r0.getD j 0 + (1 - s) * r1.getD j 0) : v ≤ leastAt r0 r1 s := by
  have hm := leastAt_mem (s := s) l0 l1 mp
  obtain ⟨j, hj, e⟩ := List.getElem_of_mem hm
  rw [List.getElem_zipWith] at e
  rw [List.length_zipWith, l0, l1, Nat.min_self] at hj
  rw [← e]
  have := h j hj
  rw [List.getD_eq_getElem?_getD, List.getD_eq_getElem?_getD, List.getElem?_eq_getElem (by omega : j < r0.length), List.getElem?_eq_getElem (by omega : j < r1.length)] at this
  exact this
theorem leastAt_le {r0 r1 : List Rat} {s : Rat} {m j : Nat} (l0 : r0.length = m) (l1 : r1.length = m) (hj : j < m) : leastAt r0 r1 s ≤ s * r0.getD j 0 + (1 - s) * r1.getD j 0 := by
  have e : (List.zipWith (lineQ s) r0 r1)[j]? = some (lineQ s (r0.getD j 0) (r1.getD j 0)) := by
    rw [List.getElem?_zipWith, some_getD (d := 0) (by omega : j < r0.length), some_getD (d := 0) (by omega : j < r1.length)]
  have hm := List.mem_of_getElem? e
  unfold leastAt
  cases h : List.zipWith (lineQ s) r0 r1 with
  | nil => rw [h] at hm; cases hm
  | cons x xs => rw [h] at hm; exact leastQ_le x xs _ hm
theorem peak_val {r0 r1 : List Rat} {m : Nat} {v value share : Rat} {rs cs : List Rat} (l0 : r0.length = m) (l1 : r1.length = m) (mp : 0 < m) (s : Shows [r0, r1] 2 m v rs cs) (p : Pk r0 r1 m value share) : v = value := by
  obtain ⟨x0, y0, ers⟩ : ∃ x0 y0, rs = [x0, y0] := by
    have := s.rl
    cases rs with
    | nil => cases this
    | cons a r => cases r with
      | nil => cases this
      | cons b r => cases r with
        | nil => exact ⟨a, b, rfl⟩
        | cons c r => simp at this
  subst ers
  have sum : x0 + y0 = 1 := by
    have := s.rsum
    have e : sumQ [x0, y0] = 0 + x0 + y0 := rfl
    rw [e] at this; grind
  have ey : y0 = 1 - x0 := by grind
  have x0n : 0 ≤ x0 := s.r0 _ (by simp)
  have y0n : 0 ≤ y0 := s.r0 _ (by simp)
  have w : Wt m (fun j => r0.getD j 0) (fun j => r1.getD j 0) (fun j => cs.getD j 0) v := by
    refine ⟨fun j hj => s.c0 _ (List.mem_of_getElem? (some_getD (d := 0) (by rw [s.cl]; exact hj))), ?_, ?_, ?_⟩
    · have := s.csum
      rw [Sx.sumQ_sm, s.cl] at this; exact this
    · have := s.row 0 (by decide)
      rw [Sx.sumQ_zip (n := m) s.cl (show ([r0, r1].getD 0 []).length = m from l0)] at this
      exact this
    · have := s.row 1 (by decide)
      rw [Sx.sumQ_zip (n := m) s.cl (show ([r0, r1].getD 1 []).length = m from l1)] at this
      exact this
  have all : ∀ j, j < m → v ≤ x0 * r0.getD j 0 + (1 - x0) * r1.getD j 0 := fun j hj => by
    have := s.col j hj
    have e : sumQ (List.zipWith (· * ·) [x0, y0] ([r0, r1].map (·.getD j 0))) = 0 + x0 * r0.getD j 0 + y0 * r1.getD j 0 := rfl
    rw [e, ey] at this; grind
  have up : value ≤ v := by
    obtain ⟨j, hj, h⟩ := w.up p.s0 p.s1
    rw [p.val]
    exact Rat.le_trans (leastAt_le l0 l1 hj) h
  have low : v ≤ value := by
    rcases w.peak x0n (by grind) all with h | h | ⟨y, j, k, hy0, hy1, hj, hk, ne, s0, eq, h⟩
    · refine Rat.le_trans (leastAt_ge l0 l1 mp fun j hj => ?_) p.at0
      have := h j hj
      grind
    · refine Rat.le_trans (leastAt_ge l0 l1 mp fun j hj => ?_) p.at1
      have := h j hj
      grind
    · by_cases z : k < j
      · exact Rat.le_trans (leastAt_ge l0 l1 mp h) (p.cr j hj k z y ⟨hy0, hy1, by grind, eq⟩)
      · exact Rat.le_trans (leastAt_ge l0 l1 mp h) (p.cr k hk j (by omega) y ⟨hy0, hy1, by grind, by grind⟩)
  exact Rat.le_antisymm low up
/-- weak duality -/
theorem shows_one {M : List (List Rat)} {n m : Nat} (mat : Mat n m M) {v v' : Rat} {rs cs rs' cs' : List Rat} (s : Shows M n m v rs cs) (s' : Shows M n m v' rs' cs') : v ≤ v' := by
  have e1 : ∀ j, j < m → v ≤ sm n fun i => rs.getD i 0 * ent M i j := fun j hj => by
    have := s.col j hj
    rw [Sx.sumQ_zip (n := n) s.rl (by rw [List.length_map]; exact mat.rows)] at this
    rw [Sx.sm_congr (g := fun i => rs.getD i 0 * (M.map (·.getD j 0)).getD i 0) fun i hi => ?_]
    · exact this
    · congr 1
      unfold ent
      simp only [List.getD_eq_getElem?_getD, List.getElem?_map]
      cases h : M[i]? with
      | none => simp
      | some r => simp
  have e2 : ∀ i, i < n → (sm m fun j => cs'.getD j 0 * ent M i j) ≤ v' := fun i hi => by
    have := s'.row i hi
    rw [Sx.sumQ_zip (n := m) s'.cl (mat.row hi)] at this
    exact this
  have c1 : sm m (fun j => cs'.getD j 0) = 1 := by have := s'.csum; rw [Sx.sumQ_sm, s'.cl] at this; exact this
  have r1 : sm n (fun i => rs.getD i 0) = 1 := by have := s.rsum; rw [Sx.sumQ_sm, s.rl] at this; exact this
  have cn : ∀ j, j < m → 0 ≤ cs'.getD j 0 := fun j hj => s'.c0 _ (List.mem_of_getElem? (some_getD (d := 0) (by rw [s'.cl]; exact hj)))
  have rn : ∀ i, i < n → 0 ≤ rs.getD i 0 := fun i hi => s.r0 _ (List.mem_of_getElem? (some_getD (d := 0) (by rw [s.rl]; exact hi)))
  have a : sm m (fun j => cs'.getD j 0 * v) ≤ sm m (fun j => cs'.getD j 0 * sm n fun i => rs.getD i 0 * ent M i j) := Sx.sm_le fun j hj => Rat.mul_le_mul_of_nonneg_left (e1 j hj) (cn j hj)
  have b : sm n (fun i => rs.getD i 0 * sm m fun j => cs'.getD j 0 * ent M i j) ≤ sm n (fun i => rs.getD i 0 * v') := Sx.sm_le fun i hi => Rat.mul_le_mul_of_nonneg_left (e2 i hi) (rn i hi)
  have e : sm m (fun j => cs'.getD j 0 * sm n fun i => rs.getD i 0 * ent M i j) = sm n (fun i => rs.getD i 0 * sm m fun j => cs'.getD j 0 * ent M i j) := by
    rw [Sx.sm_congr (g := fun j => sm n fun i => cs'.getD j 0 * (rs.getD i 0 * ent M i j)) fun j _ => (Sx.sm_mul _ _ _).symm, Sx.sm_comm, Sx.sm_congr fun i _ => ?_]
    rw [← Sx.sm_mul]
    exact Sx.sm_congr fun j _ => by grind
  rw [Sx.sm_mul_r, c1, Rat.one_mul] at a
  rw [Sx.sm_mul_r, r1, Rat.one_mul] at b
  rw [e] at a
  exact Rat.le_trans a b
/-- the value of a matrix -/
def IsVal (M : List (List Rat)) (n m : Nat) (value : Rat) : Prop := ∀ v rs cs, Shows M n m v rs cs → v = value
theorem isVal_of {M : List (List Rat)} {n m : Nat} (mat : Mat n m M) {v : Rat} {rs cs : List Rat} (s : Shows M n m v rs cs) : IsVal M n m v := fun v' rs' cs' s' => Rat.le_antisymm (shows_one mat s' s) (shows_one mat s s')
end Mx
end
section
set_option Elab.async false
set_option linter.all false
set_option maxRecDepth 100000
set_option maxHeartbeats 4000000
/-! The law's own look at shares. -/
namespace Mx
open PySem L2 Evl Fra
open Sx (Mat ent Told Shows)
abbrev sIsShown : Stmt := top 47
def spIsShown (K : PySem.W.Frag) : Sp := fun vs H Q _ => ∃ (m0 v0 : V) (M : List (List Rat)) (n m : Nat) (x : Rat × List Rat × List Rat) (d B : Nat), vs = [m0, v0] ∧ MaV K H m0 M ∧ Good M n m ∧ ToV K H v0 x ∧ Bits x.1 2170 ∧ 0 < d ∧ d < 2 ^ 2130 ∧ 0 < B ∧ B < 2 ^ 2130 ∧ (∀ q ∈ x.2.1, Cd d B q) ∧ (∀ q ∈ x.2.2, Cd d B q) ∧ x.2.1.length ≤ 64 ∧ x.2.2.length ≤ 64 ∧
  ∀ b H', Ex H H' → (b = true ↔ Shows M n m x.1 x.2.1 x.2.2) → Q (.bl b) H'
def tTIf (tc ta tb : TT) : TT := fun σ H Q => tc σ H fun k H1 => if k = true then ta σ H1 Q else tb σ H1 Q
theorem pt_if {X : Cx} {c a b : Expr} {pos : Pos} {tc ta tb : TT} (hc : PT X c tc) (ha : PT X a ta) (hb : PT X b tb) : PT X (.IfExp c a b pos) (tTIf tc ta tb) := by
  refine ⟨fun pins s σ H Q I h => ?_⟩
  refine PyProof.Rows.isTrue_IfExp (thn (hc.run pins s σ H _ I h) fun d s1 ⟨H1, I1, q1⟩ => ?_)
  cases d with
  | true => exact ha.run pins s1 σ H1 Q I1 q1
  | false => exact hb.run pins s1 σ H1 Q I1 q1
section
variable {K : PySem.W.Frag} {σ : L2.St} {H : Hp} {D : Ends} {t ta tb tc : TE} {α : Type} {R : PySem.W.Frag → Hp → V → α → Prop}
theorem gv_tup2 {x y : α} (h1 : Gv ta σ H (fun v H' => R K H' v x)) (h2 : Gv tb σ H (fun v H' => R K H' v y)) (mR : ∀ H1 H2 v x, Ex H1 H2 → R K H1 v x → R K H2 v x) : Gv (tTup (tCons ta (tCons tb tNil))) σ H (NwT R K H [x, y]) := fun H1 e Q q =>
  h1 H1 e _ fun v H2 e2 r => h2 H2 (e.trans e2) _ fun w H3 e3 r2 => ⟨by show 2 ≤ sizeLine; decide, fun p hp => q _ _ ((e2.trans e3).trans (Ex.new hp)) ⟨p, _, rfl, fresh_back ((e.trans e2).trans e3) hp, upd_same, .cons (mR _ _ _ _ (e3.trans (Ex.new hp)) r) (.cons (mR _ _ _ _ (Ex.new hp) r2) .nil)⟩⟩
theorem gn_tup {xs : List α} (ht : Gv t σ H (fun v H' => TuV R K H' v xs)) (mR : ∀ H1 H2 v x, Ex H1 H2 → R K H1 v x → R K H2 v x) : Gn (iTup K t) σ H xs.length (fun i H' v => ∃ x, xs[i]? = some x ∧ R K H' v x) := fun H1 e1 R' k => ht H1 e1 _ fun v H2 e2 ⟨a, vs, ev, hl, p⟩ => ⟨a, ev, ⟨vs, hl⟩, k _ H2 e2 (wk_tup hl p mR)⟩
theorem et_neF {v : V} {p q : Rat} (h1 : Ev ta σ H v) (f : FrV K H v p) (h2 : Gv tb σ H (fun w H' => FrV K H' w q)) : EvT (tTest (tOp (rNeD K) ta tb)) σ H (!decide (p = q)) := fun H1 e Q k =>
  h1 H1 e _ fun H2 e2 => h2 H2 (e.trans e2) _ fun w H3 e3 g => ⟨_, _, (f.mono (ExT.of ((e.trans e2).trans e3))).dp, g.dp, fr_shaped _ _, fr_shaped _ _, _, rfl, by rw [fr_eqv]; exact k H3 (e2.trans e3)⟩
theorem et_tTIf {c a b : Bool} {t1 t2 t3 : TT} (h1 : EvT t1 σ H c) (h2 : c = true → EvT t2 σ H a) (h3 : c = false → EvT t3 σ H b) : EvT (tTIf t1 t2 t3) σ H (if c = true then a else b) := fun H1 e Q k => h1 H1 e _ fun H2 e2 => by
  cases c with
  | true => exact h2 rfl H2 (e.trans e2) Q fun H3 e3 => k H3 (e2.trans e3)
  | false => exact h3 rfl H2 (e.trans e2) Q fun H3 e3 => k H3 (e2.trans e3)
/-- lines, shares, which way -/
def TrL (K : PySem.W.Frag) (H : Hp) (v : V) (x : List (List Rat) × List Rat × Bool) : Prop := ∃ a vl vq, v = .ref a ∧ SqT K H a [vl, vq, .bl x.2.2] ∧ MaV K H vl x.1 ∧ RoV K H vq x.2.1
theorem TrL.ex : ∀ H1 H2 v x, Ex H1 H2 → TrL K H1 v x → TrL K H2 v x := fun _ _ _ _ e ⟨a, vl, vq, ev, h, m, r⟩ => ⟨a, vl, vq, ev, ex_t e h, MaV.mono (ExT.of e) m, RoV.mono (ExT.of e) r⟩
theorem gv_tri {ls : List (List Rat)} {qs : List Rat} {sg : Bool} (h1 : Gv ta σ H (fun v H' => MaV K H' v ls)) (h2 : Gv tb σ H (fun v H' => RoV K H' v qs)) : Gv (tTup (tCons ta (tCons tb (tCons (tC (.bl sg)) tNil)))) σ H (fun v H' => TrL K H' v (ls, qs, sg)) := fun H1 e Q q =>
  h1 H1 e _ fun v H2 e2 r => h2 H2 (e.trans e2) _ fun w H3 e3 r2 => ⟨by show 3 ≤ sizeLine; decide, fun p hp => q _ _ ((e2.trans e3).trans (Ex.new hp)) ⟨p, _, _, rfl, st_of upd_same, MaV.mono (ExT.of (e3.trans (Ex.new hp))) r, RoV.mono (ExT.of (Ex.new hp)) r2⟩⟩
end
def okSh (qs : List Rat) : Prop := sumQ qs = 1 ∧ ∀ q ∈ qs, 0 ≤ q
def okLn (val : Rat) (x : List (List Rat) × List Rat × Bool) (line : List Rat) : Prop := if x.2.2 = true then val ≤ sumQ (List.zipWith (· * ·) x.2.1 line) else sumQ (List.zipWith (· * ·) x.2.1 line) ≤ val
section
variable {P : Program} {w : World} {K : PySem.W.Frag} {mg : Str → Option Value} {base : Heap}
theorem scIsShown : FnScope ["matrix", "told", "value", "rows", "columns", "shares", "total", "share", "lines", "sign", "line", "number"] ["matrix", "told"] (defScope sIsShown) := ⟨rfl, rfl, rfl, by decide +kernel, rfl, by decide +kernel, by decide +kernel⟩
theorem ok_is_shown (T : Bt mg) (F : Dn K mg "_law_is_shown" sIsShown ["matrix", "told"]) (GP : Fn P w K mg base "_law_plus" ["one", "other"] 2 (spFr2 K (· + ·) (CL (· + ·)))) (GT : Fn P w K mg base "_law_times" ["one", "other"] 2 (spFr2 K (· * ·) (CL (· * ·)))) (GL : Fn P w K mg base "_law_less" ["one", "other"] 1 (spLess K)) (GU : Fn P w K mg base "_law_turned" ["matrix"] 1 (spTurned K)) :
    Fn P w K mg base "_law_is_shown" ["matrix", "told"] 3 (spIsShown K) := by
  refine F.fn scIsShown (fun vs H Q E h => ?_) (fun f cdv A outer s0 H vs Q E hr h => ?_)
  · obtain ⟨_, _, _, _, _, _, _, _, rfl, _⟩ := h; rfl
  obtain ⟨m0, v0, M, n, m, x, d, B, rfl, hm, g, hv, hb1, d0, hd, B0, hB, hr1, hc1, hrl, hcl, k⟩ := h
  refine ⟨_, pss_cons (ps_asg (pv 1) (pg_tup (by rfl) (pgs_cons (pg_name (i := 2) scIsShown.nd rfl (Or.inl rfl)) (pgs_cons (pg_name (i := 3) scIsShown.nd rfl (Or.inl rfl)) (pgs_cons (pg_name (i := 4) scIsShown.nd rfl (Or.inl rfl)) pgs_nil)))))
    (pss_cons (ps_if (PW.pt (pw_or (pt_cmpR op_ne (pe_callB call_len (by rfl) T.len PySem.boot_len (pa_cons (pv 3) pa_nil)) (pe_callB call_len (by rfl) T.len PySem.boot_len (pa_cons (pv 0) pa_nil)) (nomark _))
        (pw_or1 (pt_cmpR op_ne (pe_callB call_len (by rfl) T.len PySem.boot_len (pa_cons (pv 4) pa_nil)) (pe_callB call_len (by rfl) T.len PySem.boot_len (pa_cons (pe_ix ix_tup (pv 0) pe_int (fun _ _ => rfl)) pa_nil)) (nomark _))))) (pss_one (ps_ret pe_bl)) pss_nil)
    (pss_cons (ps_for PassesOwn.never rfl (pi_tup (pe_tup (pa_cons (pv 3) (pa_cons (pv 4) pa_nil)))) (pg_name (i := 5) scIsShown.nd rfl (Or.inl rfl))
      (pss_cons (ps_set (i := 6) scIsShown.nd rfl (.inl rfl) (pe_tup (pa_cons pe_int (pa_cons pe_int pa_nil))))
      (pss_cons (ps_for PassesOwn.never rfl (pi_tup (pv 5)) (pg_name (i := 7) scIsShown.nd rfl (Or.inl rfl)) (pss_one (ps_set (i := 6) scIsShown.nd rfl (.inl rfl) (pe_fn GP hr (pa_cons (pv 6) (pa_cons (pv 7) pa_nil))))))
      (pss_one (ps_if (PW.pt (pw_or (pt_cmpR (op_neD hr.units) (pv 6) (pe_tup (pa_cons pe_int (pa_cons pe_int pa_nil))) (nomark _))
          (pw_or1 (pt_val (pe_callB (cr_any rfl) (by rfl) T.any (by decide +kernel) (pa_cons (pe_lc (own := [("share", 7)]) (g := gName 7) (by rfl) scIsShown.nd (pi_tup (pv 5)) (blkOk_by (own := [("share", 7)]) (N := ["matrix", "told", "value", "rows", "columns", "shares", "total", "share", "lines", "sign", "line", "number"]) (sc := defScope sIsShown) (by decide +kernel))
            (fun _ _ _ _ _ => pg_name (i := 7) scIsShown.nd rfl (Or.inl rfl)) (fun _ _ _ _ _ => pts_nil) (fun _ _ _ _ _ => pe_or (pe_cmpR (r := rI0 fun i j => .bl (decide (i < j))) op_lt (pe_ix (r := rIxT K) ix_tup (pv 7) pe_int (fun _ _ => rfl)) pe_int (nomark _)) (pe_one (pe_cmpR (r := rI0 fun i j => .bl (decide (i < j))) op_lt (pe_ix (r := rIxT K) ix_tup (pv 7) pe_int (fun _ _ => rfl)) pe_int (nomark _))))) pa_nil)))))) (pss_one (ps_ret pe_bl)) pss_nil)))))
    (pss_cons (ps_for PassesOwn.never rfl (pi_tup (pe_tup (pa_cons (pe_tup (pa_cons (pe_fn GU (hr.mono (by decide)) (pa_cons (pv 0) pa_nil)) (pa_cons (pv 3) (pa_cons pe_bl pa_nil)))) (pa_cons (pe_tup (pa_cons (pv 0) (pa_cons (pv 4) (pa_cons pe_bl pa_nil)))) pa_nil))))
        (pg_tup (by rfl) (pgs_cons (pg_name (i := 8) scIsShown.nd rfl (Or.inl rfl)) (pgs_cons (pg_name (i := 5) scIsShown.nd rfl (Or.inl rfl)) (pgs_cons (pg_name (i := 9) scIsShown.nd rfl (Or.inl rfl)) pgs_nil))))
      (pss_one (ps_for PassesOwn.never rfl (pi_tup (pv 8)) (pg_name (i := 10) scIsShown.nd rfl (Or.inl rfl))
        (pss_cons (ps_set (i := 6) scIsShown.nd rfl (.inl rfl) (pe_tup (pa_cons pe_int (pa_cons pe_int pa_nil))))
        (pss_cons (ps_for PassesOwn.never rfl (RZ.pi_zipA (by rfl) T.zip (pa_cons (pv 5) (pa_cons (pv 10) pa_nil))) (pg_tup (by rfl) (pgs_cons (pg_name (i := 7) scIsShown.nd rfl (Or.inl rfl)) (pgs_cons (pg_name (i := 11) scIsShown.nd rfl (Or.inl rfl)) pgs_nil)))
          (pss_one (ps_set (i := 6) scIsShown.nd rfl (.inl rfl) (pe_fn GP hr (pa_cons (pv 6) (pa_cons (pe_fn GT hr (pa_cons (pv 7) (pa_cons (pv 11) pa_nil))) pa_nil))))))
        (pss_one (ps_if (pt_if (pt_val (pv 9)) (pt_val (pe_fn GL (hr.mono (by decide)) (pa_cons (pv 6) (pa_cons (pv 2) pa_nil)))) (pt_val (pe_fn GL (hr.mono (by decide)) (pa_cons (pv 2) (pa_cons (pv 6) pa_nil))))) (pss_one (ps_ret pe_bl)) pss_nil)))))))
    (pss_one (ps_ret pe_bl))))), ?_⟩
  obtain ⟨val, rs, cs⟩ := x
  obtain ⟨av, w0, w1, w2, rfl, htv, f0, ⟨ar, wr, rfl, htr, hpr⟩, ⟨ac, wc, rfl, htc, hpc⟩⟩ := hv
  obtain ⟨am, vsm, rfl, htm, hpm⟩ := hm
  dsimp only at f0 hpr hpc hb1 hr1 hc1 hrl hcl k
  have n0 := g.mat.n0
  have m0 := g.mat.m0
  have n64 := g.n64
  have m64 := g.m64
  have lenm : vsm.length = n := by rw [Paired.length hpm, g.mat.rows]
  obtain ⟨vr0, hvr0⟩ : ∃ v, vsm[0]? = some v := ⟨vsm[0]'(by omega), by simp [show 0 < vsm.length by omega]⟩
  obtain ⟨row0, hrow0, ⟨a0, ws0, rfl, ht0, hp0⟩⟩ := wk_list.pget hpm hvr0
  have len0 : ws0.length = m := by rw [Paired.length hp0]; exact g.mat.each _ (List.mem_of_getElem? hrow0)
  have at0' : atI vsm 0 = some (.ref a0) := by have := atI_nat hvr0; exact this
  refine sq (t := tAsg (tVar 1) (gTup K 3 (gCons (gName 2) (gCons (gName 3) (gCons (gName 4) gNil))))) ⟨_, rfl, av, _, rfl, htv, rfl, _, _, rfl, _, _, rfl, _, _, rfl, rfl, ?_⟩
  have test1 : EvT (tOr (tTest (tOp rNe (tCB (fun xs H Q => ∃ x n, xs = [x] ∧ LenV K x H n ∧ Q (.int n) H) (tCons (tVar 3) tNil)) (tCB (fun xs H Q => ∃ x n, xs = [x] ∧ LenV K x H n ∧ Q (.int n) H) (tCons (tVar 0) tNil)))) (tTest (tOp rNe (tCB (fun xs H Q => ∃ x n, xs = [x] ∧ LenV K x H n ∧ Q (.int n) H) (tCons (tVar 4) tNil)) (tCB (fun xs H Q => ∃ x n, xs = [x] ∧ LenV K x H n ∧ Q (.int n) H) (tCons (tOp (rIxT K) (tVar 0) (tC (.int 0))) tNil)))))
      [some (V.ref am), some (V.ref av), some w0, some (.ref ar), some (.ref ac), none, none, none, none, none, none, none] H (!decide ((rs.length : Int) = n) || !decide ((cs.length : Int) = m)) :=
    et_or (et_neI (ev_lenT (n := rs.length) (ev_var rfl) htr (Paired.length hpr)) (ev_lenT (ev_var rfl) htm lenm)) fun _ => et_neI (ev_lenT (n := cs.length) (ev_var rfl) htc (Paired.length hpc)) (ev_lenT (ev_op (ev_var rfl) ev_c (rv_ixT htm at0')) ht0 len0)
  dsimp only
  refine s_ifret test1 (fun yes H1 e1 => ?_) fun no H1 e1 => ?_
  · refine k false H1 e1 ⟨fun z => (by cases z), fun s => ?_⟩
    rw [decide_eq_true (show (rs.length : Int) = n by rw [s.rl]), decide_eq_true (show (cs.length : Int) = m by rw [s.cl])] at yes
    cases yes
  obtain ⟨rl, cl⟩ : rs.length = n ∧ cs.length = m := by
    by_cases a : (rs.length : Int) = n
    · by_cases b : (cs.length : Int) = m
      · exact ⟨by omega, by omega⟩
      · rw [decide_eq_true a, decide_eq_false b] at no; cases no
    · rw [decide_eq_false a] at no; cases no
  have g2 : Gv (tTup (tCons (tVar 3) (tCons (tVar 4) tNil))) [some (V.ref am), some (V.ref av), some w0, some (.ref ar), some (.ref ac), none, none, none, none, none, none, none] H1 (NwT RoV K H1 [rs, cs]) :=
    gv_tup2 (R := RoV) (gv_var rfl fun H' e => RoV.mono (ExT.of (e1.trans e)) ⟨ar, wr, rfl, htr, hpr⟩) (gv_var rfl fun H' e => RoV.mono (ExT.of (e1.trans e)) ⟨ac, wc, rfl, htc, hpc⟩) RoV.ex
  have hg2 := gn_tup (g2.imp fun v H' _ h => h.tu) RoV.ex
  have bo : Bits (0 : Rat) 1 := ⟨by decide, by decide⟩
  have shq : ∀ qs ∈ [rs, cs], (∀ q ∈ qs, Cd d B q) ∧ qs.length ≤ 64 ∧ (Shows M n m val rs cs → okSh qs) := fun qs hqs => by
    rcases List.mem_cons.mp hqs with z | z
    · rw [z]; exact ⟨hr1, hrl, fun s => ⟨s.rsum, s.r0⟩⟩
    · rw [List.mem_singleton] at z; rw [z]; exact ⟨hc1, hcl, fun s => ⟨s.csum, s.c0⟩⟩
  refine sq (s_for hg2 (fun H2 i σ' H' => Ex H2 H' ∧ ∃ o5 o6 o7, σ' = [some (V.ref am), some (V.ref av), some w0, some (.ref ar), some (.ref ac), o5, o6, o7, none, none, none, none] ∧ ∀ qs ∈ [rs, cs].take i, okSh qs)
    (fun H2 e2 => ⟨Ex.refl _, none, none, none, rfl, fun qs h => (by cases h)⟩) (fun _ _ _ _ p => p.1) ?_ ?_)
  · rintro H2 i x σ' H3 H4 e2 hi ⟨e3, o5, o6, o7, rfl, hok⟩ e4 ⟨qs, hqs, ⟨aq, vq, rfl, htq, hpq⟩⟩
    have hqm : qs ∈ [rs, cs] := List.mem_of_getElem? hqs
    obtain ⟨hcd, hql, hsh⟩ := shq qs hqm
    have eH4 : Ex H H4 := ((e1.trans e2).trans e3).trans e4
    refine sq (s_asgG (gv_frac (K := K) (a := 0) (b := 1) (q := 0) rfl rfl) fun vt H5 e5 fvt => ?_)
    have hq5 := (gi_tup (K := K) (σ := [some (V.ref am), some (V.ref av), some w0, some (.ref ar), some (.ref ac), some (.ref aq), some vt, o7, none, none, none, none]) (t := tVar 5) (ev_var rfl) (ex_t e5 htq) (L2.Paired.mapP hpq fun v x r => FrV.ex _ _ _ _ e5 r) FrV.ex).gn
    have fine := fine_of hcd d0 hd hB hql
    have pbits : ∀ j, j ≤ qs.length → Bits (sumQ (qs.take j)) 2140 := fun j hj => (sumQ_Cd hcd j hj).bits d0 fine.2.2.1 (Nat.lt_of_le_of_lt (Nat.mul_le_mul_right _ (by omega)) fine.2.2.2.1)
    refine sq (s_for hq5 (fun H6 j σ' H' => Ex H6 H' ∧ ∃ vt o7, σ' = [some (V.ref am), some (V.ref av), some w0, some (.ref ar), some (.ref ac), some (.ref aq), some vt, o7, none, none, none, none] ∧ FrV K H' vt (sumQ (qs.take j)))
      (fun H6 e6 => ⟨Ex.refl _, vt, o7, rfl, fvt.mono (ExT.of e6)⟩) (fun _ _ _ _ p => p.1) ?_ ?_)
    · rintro H6 j x σ' H7 H8 e6 hj ⟨e7, vt, o7, rfl, fvt⟩ e8 ⟨q, hq, fq⟩
      have qcd := (hcd q (List.mem_of_getElem? hq)).bits d0 fine.2.2.1 (Nat.lt_of_le_of_lt (by rw [Nat.add_mul]; omega) fine.2.2.2.1)
      refine s_asgG (gv_fr2 (g := (· + ·)) (gv_var (i := 6) rfl fun H' e => fvt.mono (ExT.of (e8.trans e))) (gv_var (i := 7) rfl fun H' e => fq.mono (ExT.of e)) (pbits j (by omega)) qcd (by decide) (CL.of (g := (· + ·)) (n := 2140) (by show Bits (sumQ (qs.take j) + q) 2140; rw [← sumQ_take hq]; exact pbits (j + 1) (by omega)) (by decide))) fun v H9 e9 hv => ?_
      exact ⟨(e7.trans e8).trans e9, v, _, rfl, by rw [sumQ_take hq]; exact hv⟩
    · rintro H6 σ' H7 e6 ⟨e7, vt, o7, rfl, fvt⟩
      rw [List.take_length] at fvt
      have eq7 : Ex H4 H7 := (e5.trans e6).trans e7
      have lcb := gv_lc (R := BlV) (K := K) (g := gName 7) (te := tOrV (tOp (rI0 fun i j => .bl (decide (i < j))) (tOp (rIxT K) (tVar 7) (tC (.int 0))) (tC (.int 0))) (tOp (rI0 fun i j => .bl (decide (i < j))) (tOp (rIxT K) (tVar 7) (tC (.int 1))) (tC (.int 1)))) (vs := [7]) (σ := [some (V.ref am), some (V.ref av), some w0, some (.ref ar), some (.ref ac), some (.ref aq), some vt, o7, none, none, none, none]) (H := H7)
        (gi_tup (K := K) (ev_var (i := 5) rfl) (ex_t eq7 htq) (L2.Paired.mapP hpq fun v x r => FrV.ex _ _ _ _ eq7 r) FrV.ex).gn (by omega) (fun j => decide ((qs.getD j 0).num < 0) || decide (((qs.getD j 0).den : Int) < 1)) (fun _ _ _ _ _ r => r)
        (fun j y H8 Q1 hj e8 ⟨q, hq, ⟨af, ef, hf⟩⟩ kk => by
          subst ef
          refine kk [some (V.ref am), some (V.ref av), some w0, some (.ref ar), some (.ref ac), some (.ref aq), some vt, some (.ref af), none, none, none, none] H8 (Ex.refl _) rfl ?_
          rw [getD_of hq]
          exact gv_of (ev_orV (ev_op (ev_ixT0 (w := .non) (ev_var rfl) hf) ev_c rv_I0) fun _ => ev_op (ev_ixT1 (ev_var rfl) hf) ev_c rv_I0) fun _ _ => rfl)
      have test2 := et_or (et_neF (K := K) (σ := [some (V.ref am), some (V.ref av), some w0, some (.ref ar), some (.ref ac), some (.ref aq), some vt, o7, none, none, none, none]) (H := H7) (ta := tVar 6) (ev_var rfl) fvt (gv_frac (K := K) (a := 1) (b := 1) (q := 1) rfl rfl)) fun _ => et_B (ev_any lcb)
      refine s_when test2 (fun yes H8 e8 => ?_) fun no H8 e8 => ?_
      · refine k false H8 (((eH4.trans e5).trans (e6.trans e7)).trans e8) ⟨fun z => (by cases z), fun s => ?_⟩
        obtain ⟨h1, h2⟩ := hsh s
        rw [decide_eq_true h1, Bool.not_true, Bool.false_or, List.any_eq_true] at yes
        obtain ⟨b, hb, hbt⟩ := yes
        obtain ⟨j, hj, rfl⟩ := List.mem_map.mp hb
        have hq := some_getD (d := 0) (List.mem_range.mp hj)
        have nn := h2 _ (List.mem_of_getElem? hq)
        have hd1 : ¬ (((qs.getD j 0).den : Int) < 1) := by have := (qs.getD j 0).den_nz; omega
        have hn1 : ¬ (qs.getD j 0).num < 0 := by have := Rat.num_nonneg.mpr nn; omega
        rw [decide_eq_false hd1, decide_eq_false hn1] at hbt
        cases hbt
      · refine ⟨(e3.trans e4).trans (((e5.trans e6).trans e7).trans e8), _, _, _, rfl, fun q' hq' => ?_⟩
        rw [List.take_add_one, hqs] at hq'
        rcases List.mem_append.mp hq' with z | z
        · exact hok q' z
        · have : q' = qs := by simpa using z
          rw [this]
          have n1 : sumQ qs = 1 := by
            refine Classical.byContradiction fun z => ?_
            rw [decide_eq_false z] at no; cases no
          refine ⟨n1, fun q hq => ?_⟩
          refine Classical.byContradiction fun z => ?_
          rw [decide_eq_true n1, Bool.not_true, Bool.false_or, List.any_eq_false] at no
          obtain ⟨j, hj, ej⟩ := List.getElem_of_mem hq
          have hb := no _ (List.mem_map_of_mem (f := fun j => decide ((qs.getD j 0).num < 0) || decide (((qs.getD j 0).den : Int) < 1)) (List.mem_range.mpr hj))
          rw [getD_of (show qs[j]? = some q by simp [hj, ej])] at hb
          have : q.num < 0 := by
            refine Classical.byContradiction fun y => z (Rat.num_nonneg.mp (by omega))
          rw [decide_eq_true this] at hb
          exact hb rfl
  · rintro H2 σ' H3 e2 ⟨e3, o5, o6, o7, rfl, hok⟩
    have okr : okSh rs := hok rs (by simp)
    have okc : okSh cs := hok cs (by simp)
    have eH3 : Ex H H3 := (e1.trans e2).trans e3
    have htri : Gv (tTup (tCons (tTup (tCons (tCall (spTurned K) [] E0 (tCons (tVar 0) tNil)) (tCons (tVar 3) (tCons (tC (.bl true)) tNil)))) (tCons (tTup (tCons (tVar 0) (tCons (tVar 4) (tCons (tC (.bl false)) tNil)))) tNil))) [some (V.ref am), some (V.ref av), some w0, some (.ref ar), some (.ref ac), o5, o6, o7, none, none, none, none] H3 (NwT TrL K H3 [(colsOf M m, rs, true), (M, cs, false)]) :=
      gv_tup2 (R := TrL) (gv_tri (ls := colsOf M m) (qs := rs) (sg := true) (fun H4 e4 Q q => ev_var (i := 0) rfl H4 e4 _ fun H5 e5 => ⟨_, M, n, m, rfl, MaV.mono (ExT.of ((eH3.trans e4).trans e5)) ⟨am, vsm, rfl, htm, hpm⟩, g.mat, by omega, by omega, fun v H6 e6 hv => q v H6 (e5.trans e6) hv⟩) (gv_var rfl fun H' e => RoV.mono (ExT.of (eH3.trans e)) ⟨ar, wr, rfl, htr, hpr⟩))
        (gv_tri (ls := M) (qs := cs) (sg := false) (gv_var rfl fun H' e => MaV.mono (ExT.of (eH3.trans e)) ⟨am, vsm, rfl, htm, hpm⟩) (gv_var rfl fun H' e => RoV.mono (ExT.of (eH3.trans e)) ⟨ac, wc, rfl, htc, hpc⟩)) TrL.ex
    have hg3 := gn_tup (htri.imp fun v H' _ h => h.tu) TrL.ex
    have fact : ∀ x ∈ [(colsOf M m, rs, true), (M, cs, false)], (∀ q ∈ x.2.1, Cd d B q) ∧ x.2.1.length ≤ 64 ∧ (∀ line ∈ x.1, ∀ q ∈ line, Cd 42 4200 q) ∧ (Shows M n m val rs cs → ∀ line ∈ x.1, okLn val x line) := fun x hx => by
      rcases List.mem_cons.mp hx with z | z
      · subst z
        refine ⟨hr1, hrl, fun line hl => ?_, fun s line hl => ?_⟩
        · obtain ⟨j, hj, rfl⟩ := List.mem_map.mp hl
          exact col_cd g (List.mem_range.mp hj)
        · obtain ⟨j, hj, rfl⟩ := List.mem_map.mp hl
          exact s.col j (List.mem_range.mp hj)
      · rw [List.mem_singleton] at z
        subst z
        refine ⟨hc1, hcl, fun line hl q hq => (g.num line hl q hq).2.2, fun s line hl => ?_⟩
        obtain ⟨i, hi, e⟩ := List.getElem_of_mem hl
        have := s.row i (by rw [← g.mat.rows]; exact hi)
        rw [getD_of (show M[i]? = some line by simp [hi, e])] at this
        exact this
    have bval : Bits val 2170 := hb1
    refine sq (s_for hg3 (fun H4 i σ' H' => Ex H4 H' ∧ ∃ o5 o6 o7 o8 o9 o10 o11, σ' = [some (V.ref am), some (V.ref av), some w0, some (.ref ar), some (.ref ac), o5, o6, o7, o8, o9, o10, o11] ∧ ∀ x ∈ [(colsOf M m, rs, true), (M, cs, false)].take i, ∀ line ∈ x.1, okLn val x line)
      (fun H4 e4 => ⟨Ex.refl _, o5, o6, o7, none, none, none, none, rfl, fun x h => (by cases h)⟩) (fun _ _ _ _ p => p.1) ?_ ?_)
    · rintro H4 i vx σ' H5 H6 e4 hi ⟨e5, o5, o6, o7, o8, o9, o10, o11, rfl, hok2⟩ e6 ⟨x, hx, ⟨ax, vl, vq, rfl, hxt, ⟨al, wl, rfl, hlt, hlp⟩, ⟨aq, wq, rfl, hqt, hqp⟩⟩⟩
      obtain ⟨hcd, hql, hln, hsh⟩ := fact x (List.mem_of_getElem? hx)
      have eH6 : Ex H H6 := ((eH3.trans e4).trans e5).trans e6
      refine ⟨ax, _, rfl, hxt, rfl, _, _, rfl, _, _, rfl, _, _, rfl, rfl, ?_⟩
      obtain ⟨ls, qs, sg⟩ := x
      dsimp only at hlp hqp hcd hql hln hsh hxt
      have hl6 := (gi_tup (K := K) (H := H6) (σ := [some (V.ref am), some (V.ref av), some w0, some (.ref ar), some (.ref ac), some (.ref aq), o6, o7, some (.ref al), some (.bl sg), o10, o11]) (t := tVar 8) (ev_var rfl) hlt hlp RoV.ex).gn
      refine s_for hl6 (fun H7 j σ' H' => Ex H7 H' ∧ ∃ o6 o7 o10 o11, σ' = [some (V.ref am), some (V.ref av), some w0, some (.ref ar), some (.ref ac), some (.ref aq), o6, o7, some (.ref al), some (.bl sg), o10, o11] ∧ ∀ line ∈ ls.take j, okLn val (ls, qs, sg) line)
        (fun H7 e7 => ⟨Ex.refl _, o6, o7, o10, o11, rfl, fun line h => (by cases h)⟩) (fun _ _ _ _ p => p.1) ?_ ?_
      · rintro H7 j vy σ' H8 H9 e7 hj ⟨e8, o6, o7, o10, o11, rfl, hok3⟩ e9 ⟨line, hline, ⟨ay, wy, rfl, hyt, hyp⟩⟩
        have lm := List.mem_of_getElem? hline
        have lcd := hln line lm
        have eq9 : Ex H6 H9 := (e7.trans e8).trans e9
        refine sq (s_asgG (gv_frac (K := K) (a := 0) (b := 1) (q := 0) rfl rfl) fun vt H10 e10 fvt => ?_)
        have hz := (gi_zipT (K := K) (H := H10) (σ := [some (V.ref am), some (V.ref av), some w0, some (.ref ar), some (.ref ac), some (.ref aq), some vt, o7, some (.ref al), some (.bl sg), some (.ref ay), o11]) (t := tVar 5) (u := tVar 10) (ev_var rfl) (ev_var rfl) (ex_t (eq9.trans e10) hqt) (ex_t e10 hyt) (L2.Paired.mapP hqp fun v x r => FrV.ex _ _ _ _ (eq9.trans e10) r) (L2.Paired.mapP hyp fun v x r => FrV.ex _ _ _ _ e10 r) FrV.ex FrV.ex).gn
        have all : ∀ q ∈ List.zipWith (· * ·) qs line, Cd (d * 42) (B * 4200) q := fun q hq => by
          obtain ⟨i, hi, e⟩ := List.getElem_of_mem hq
          rw [List.getElem_zipWith] at e
          rw [← e]
          exact (hcd _ (List.getElem_mem _)).mul (lcd _ (List.getElem_mem _))
        obtain ⟨f1, f2⟩ := mean_fits hd hB hql
        have zlen : (List.zipWith (· * ·) qs line).length ≤ qs.length := by rw [List.length_zipWith]; omega
        have pbits : ∀ k, k ≤ (List.zipWith (· * ·) qs line).length → Bits (sumQ ((List.zipWith (· * ·) qs line).take k)) 2170 := fun k hk => (sumQ_Cd all k hk).bits (Nat.mul_pos d0 (by decide)) f1 (Nat.lt_of_le_of_lt (Nat.mul_le_mul_right _ (by omega)) f2)
        have f3 : B * 4200 < 2 ^ 2170 := Nat.lt_of_le_of_lt (by rw [Nat.add_mul]; omega) f2
        refine sq (s_for hz (fun H11 k σ' H' => Ex H11 H' ∧ ∃ vt o7 o11, σ' = [some (V.ref am), some (V.ref av), some w0, some (.ref ar), some (.ref ac), some (.ref aq), some vt, o7, some (.ref al), some (.bl sg), some (.ref ay), o11] ∧ FrV K H' vt (sumQ ((List.zipWith (· * ·) qs line).take k)))
          (fun H11 e11 => ⟨Ex.refl _, vt, o7, o11, rfl, fvt.mono (ExT.of e11)⟩) (fun _ _ _ _ p => p.1) ?_ ?_)
        · rintro H11 k vz σ' H12 H13 e11 hk ⟨e12, vt, o7, o11, rfl, fvt⟩ e13 ⟨tz, w1, z1, x1, y1, rfl, hT, hxi, hyi, fx, fy⟩
          refine ⟨tz, _, rfl, hT, rfl, _, _, rfl, _, _, rfl, rfl, ?_⟩
          have hzk : (List.zipWith (· * ·) qs line)[k]? = some (x1 * y1) := by rw [List.getElem?_zipWith, hxi, hyi]
          have hzm := List.mem_of_getElem? hzk
          have bx : Bits x1 2130 := (hcd _ (List.mem_of_getElem? hxi)).bits d0 hd hB
          have bY : Bits y1 13 := (lcd _ (List.mem_of_getElem? hyi)).bits (by decide) (by decide) (by decide)
          have bxy : Bits (x1 * y1) 2170 := (all _ hzm).bits (Nat.mul_pos d0 (by decide)) f1 f3
          have hkl : k + 1 ≤ (List.zipWith (· * ·) qs line).length := by
            have := (List.getElem?_eq_some_iff.mp hzk).1; omega
          refine s_asgG (gv_fr2 (g := (· + ·)) (gv_var (i := 6) rfl fun H' e => fvt.mono (ExT.of (e13.trans e))) (gv_fr2 (g := (· * ·)) (gv_var (i := 7) rfl fun H' e => fx.mono (ExT.of e)) (gv_var (i := 11) rfl fun H' e => fy.mono (ExT.of e)) bx bY (by decide) (CL.of (g := (· * ·)) (n := 2170) bxy (by decide))) (pbits k (by omega)) bxy (by decide) (CL.of (g := (· + ·)) (n := 2170) (by show Bits (sumQ ((List.zipWith (· * ·) qs line).take k) + x1 * y1) 2170; rw [← sumQ_take hzk]; exact pbits (k + 1) hkl) (by decide))) fun v H14 e14 hv => ?_
          exact ⟨(e12.trans e13).trans e14, v, _, _, rfl, by rw [sumQ_take hzk]; exact hv⟩
        · rintro H11 σ' H12 e11 ⟨e12, vt, o7, o11, rfl, fvt⟩
          have lenz : (List.zipWith (· * ·) qs line).length = min qs.length line.length := List.length_zipWith
          rw [List.take_of_length_le (by omega)] at fvt
          have bt : Bits (sumQ (List.zipWith (· * ·) qs line)) 2170 := by
            have := pbits (List.zipWith (· * ·) qs line).length (Nat.le_refl _)
            rw [List.take_length] at this; exact this
          have eq12 : Ex H6 H12 := (eq9.trans e10).trans (e11.trans e12)
          have gt : Gv (tVar 6) [some (V.ref am), some (V.ref av), some w0, some (.ref ar), some (.ref ac), some (.ref aq), some vt, o7, some (.ref al), some (.bl sg), some (.ref ay), o11] H12 (fun v H' => FrV K H' v (sumQ (List.zipWith (· * ·) qs line))) := gv_var rfl fun H' e => fvt.mono (ExT.of e)
          have gw : Gv (tVar 2) [some (V.ref am), some (V.ref av), some w0, some (.ref ar), some (.ref ac), some (.ref aq), some vt, o7, some (.ref al), some (.bl sg), some (.ref ay), o11] H12 (fun v H' => FrV K H' v val) := gv_var rfl fun H' e => f0.mono (ExT.of ((eH6.trans eq12).trans e))
          have test3 := et_tTIf (c := sg) (a := decide (sumQ (List.zipWith (· * ·) qs line) < val)) (b := decide (val < sumQ (List.zipWith (· * ·) qs line))) (t1 := tB (tVar 9)) (et_B (ev_var (i := 9) rfl)) (fun _ => et_less gt gw bt bval (by decide)) (fun _ => et_less gw gt bval bt (by decide))
          refine s_when test3 (fun yes H13 e13 => ?_) fun no H13 e13 => ?_
          · refine k false H13 ((eH6.trans eq12).trans e13) ⟨fun z => (by cases z), fun s => ?_⟩
            have := hsh s line lm
            cases sg with
            | true => exact absurd (of_decide_eq_true (by simpa using yes)) (Rat.not_lt.mpr this)
            | false => exact absurd (of_decide_eq_true (by simpa using yes)) (Rat.not_lt.mpr this)
          · refine ⟨((e8.trans e9).trans e10).trans ((e11.trans e12).trans e13), _, _, _, _, rfl, fun l' hl' => ?_⟩
            rw [List.take_add_one, hline] at hl'
            rcases List.mem_append.mp hl' with z | z
            · exact hok3 l' z
            · have : l' = line := by simpa using z
              rw [this]
              cases sg with
              | true => exact Rat.not_lt.mp (of_decide_eq_false (by simpa using no))
              | false => exact Rat.not_lt.mp (of_decide_eq_false (by simpa using no))
      · rintro H7 σ' H8 e7 ⟨e8, o6, o7, o10, o11, rfl, hok3⟩
        rw [List.take_length] at hok3
        refine ⟨(e5.trans e6).trans (e7.trans e8), _, _, _, _, _, _, _, rfl, fun x' hx' => ?_⟩
        rw [List.take_add_one, hx] at hx'
        rcases List.mem_append.mp hx' with z | z
        · exact hok2 x' z
        · have : x' = (ls, qs, sg) := by simpa using z
          rw [this]
          exact hok3
    · rintro H4 σ' H5 e4 ⟨e5, o5, o6, o7, o8, o9, o10, o11, rfl, hok2⟩
      have h1 := hok2 (colsOf M m, rs, true) (by simp)
      have h2 := hok2 (M, cs, false) (by simp)
      refine k true H5 ((eH3.trans e4).trans e5) ⟨fun _ => ⟨rl, cl, okr.2, okc.2, okr.1, okc.1, fun j hj => ?_, fun i hi => ?_⟩, fun _ => rfl⟩
      · exact h1 _ (List.mem_map_of_mem (f := fun j => M.map (·.getD j 0)) (List.mem_range.mpr hj))
      · exact h2 _ (List.mem_of_getElem? (some_getD (d := []) (by rw [g.mat.rows]; exact hi)))
end
end Mx
end
section
set_option Elab.async false
set_option linter.all false
set_option maxRecDepth 100000
set_option maxHeartbeats 4000000
/-! The pot: _law_take. -/
namespace Mx
open PySem L2 Evl Fra
open Sx (Mat ent Told Shows)
abbrev sTake : Stmt := top 36
/-- the pot on the heap, the rest as H0 has it; at most t takes so far -/
structure PoV (H0 H : Hp) (p : Addr) (t : Nat) : Prop where
  ex : Ex H0 H
  h0 : H0 p = none
  pot : ∃ x y z : Int, H p = some (.lst [.int x, .int y, .int z]) ∧ 0 ≤ x ∧ 0 ≤ y ∧ y < 2 ^ 61 ∧ 0 ≤ z ∧ z ≤ t
theorem PoV.mono {H0 H H' : Hp} {p : Addr} {t : Nat} (h : PoV H0 H p t) (e : Ex H H') : PoV H0 H' p t := by
  obtain ⟨ex, h0, x, y, z, hp, r⟩ := h
  exact ⟨ex.trans e, h0, x, y, z, e _ _ hp, r⟩
/-- the rest is what stands now, but for the pot -/
theorem PoV.here {H0 H : Hp} {p : Addr} {t : Nat} (h : PoV H0 H p t) : PoV (hide H p) H p t := ⟨ex_hide, hide_p, h.pot⟩
theorem PoV.le {H0 H : Hp} {p : Addr} {t u : Nat} (h : PoV H0 H p t) (e : t ≤ u) : PoV H0 H p u := by
  obtain ⟨ex, h0, x, y, z, hp, r1, r2, r3, r4, r5⟩ := h
  exact ⟨ex, h0, x, y, z, hp, r1, r2, r3, r4, by omega⟩
theorem PoV.extT {H0 H H2 : Hp} {p : Addr} {t u : Nat} (h : PoV H0 H p t) (g : PoV (hide H p) H2 p u) : ExT H H2 := by
  obtain ⟨ex, h0, x, y, z, hp, _⟩ := h
  exact (extT_hide hp).trans (ExT.of g.ex)
theorem PoV.base {H0 H H2 : Hp} {p : Addr} {t u : Nat} (h : PoV H0 H p t) (g : PoV (hide H p) H2 p u) : PoV H0 H2 p u := by
  refine ⟨fun a o e => ?_, h.h0, g.pot⟩
  have ne : a ≠ p := fun z => by rw [z, h.h0] at e; cases e
  exact g.ex _ _ (by rw [hide_ne ne]; exact h.ex _ _ e)
def spTake : Sp := fun vs H Q _ => ∃ (p : Addr) (H0 : Hp) (u : Int) (t : Nat), vs = [.ref p, .int u] ∧ PoV H0 H p t ∧ 0 < u ∧ u < 2 ^ 60 ∧ t < 100000 ∧ ∀ (d : Nat) H', (d : Int) < u → PoV H0 H' p (t + 1) → Q (.int d) H'
section
variable {K : PySem.W.Frag} {σ : L2.St} {H : Hp} {ta : TE}
theorem ev_int {i : Int} (h : Ev ta σ H (.int i)) : Ev (tCB (fun xs H Q => (∃ i, xs = [.int i] ∧ Q (.int i) H) ∨ ∃ k, xs = [.bl k] ∧ Q (.int (if k then 1 else 0)) H) (tCons ta tNil)) σ H (.int i) :=
  ev_cb (ea_cons h ea_nil) fun H1 e Q q => .inl ⟨_, rfl, q H1 (Ex.refl _)⟩
end
section
variable {P : Program} {w : World} {K : PySem.W.Frag} {mg : Str → Option Value} {base : Heap}
theorem scTake : FnScope ["pot", "upto", "digit", "prime", "blend"] ["pot", "upto"] (defScope sTake) := ⟨rfl, rfl, rfl, by decide +kernel, rfl, by decide +kernel, by decide +kernel⟩
theorem ok_take (T : Bt mg) (F : Dn K mg "_law_take" sTake ["pot", "upto"]) : Fn P w K mg base "_law_take" ["pot", "upto"] 1 spTake := by
  refine F.fn scTake (fun vs H Q E h => ?_) (fun f cdv A outer s0 H vs Q E hr h => ?_)
  · obtain ⟨_, _, _, _, rfl, _⟩ := h; rfl
  obtain ⟨p, H0, u, t, rfl, hp, u0, ub, ht, k⟩ := h
  refine ⟨_, pss_cons (ps_if (pt_cmpR op_gt (pe_ix ix_list (pv 0) pe_int (fun _ _ => rfl)) pe_int (nomark _))
      (pss_cons (ps_set (i := 2) scTake.nd rfl (.inl rfl) (pe_op op_mod (pe_callTy call_int1 (by rfl) T.int (by decide +kernel) (pa_cons (pe_ix ix_list (pv 0) pe_int (fun _ _ => rfl)) pa_nil)) (pv 1)))
      (pss_cons (ps_asg (pe_op op_fdivW (pe_ix ix_list (pv 0) pe_int (fun _ _ => rfl)) (pv 1)) (pg_sub (pv 0) pe_int set_list))
      (pss_one (ps_ret (pv 2))))) pss_nil)
    (pss_cons (ps_asg (pe_op op_add (pe_ix ix_list (pv 0) pe_int (fun _ _ => rfl)) pe_int) (pg_sub (pv 0) pe_int set_list))
    (pss_cons (ps_set (i := 3) scTake.nd rfl (.inl rfl) (pe_ix ix_list (pe_lst (pa_cons pe_int (pa_cons pe_int (pa_cons pe_int (pa_cons pe_int pa_nil))))) (pe_op op_mod (pe_callTy call_int1 (by rfl) T.int (by decide +kernel) (pa_cons (pe_ix ix_list (pv 0) pe_int (fun _ _ => rfl)) pa_nil)) pe_int) (fun _ _ => rfl)))
    (pss_cons (ps_set (i := 4) scTake.nd rfl (.inl rfl) (pe_op op_mod (pe_callTy call_int1 (by rfl) T.int (by decide +kernel) (pa_cons (pe_op op_pow (pe_callTy call_int1 (by rfl) T.int (by decide +kernel) (pa_cons (pe_op op_add (pe_op op_add (pe_ix ix_list (pv 0) pe_int (fun _ _ => rfl)) (pe_op op_mul (pe_op op_mul pe_int (pe_ix ix_list (pv 0) pe_int (fun _ _ => rfl))) (pe_ix ix_list (pv 0) pe_int (fun _ _ => rfl)))) pe_int) pa_nil)) pe_int) pa_nil)) (pv 3)))
    (pss_one (ps_ret (pe_op op_mod (pe_callTy call_int1 (by rfl) T.int (by decide +kernel) (pa_cons (pe_op op_fdivW (pe_op op_mul (pv 4) (pe_op op_add (pe_op op_mod (pe_callTy call_int1 (by rfl) T.int (by decide +kernel) (pa_cons (pv 4) pa_nil)) pe_int) (pe_op op_mul pe_int (pe_ix ix_list (pv 0) pe_int (fun _ _ => rfl))))) pe_int) pa_nil)) (pv 1))))))), ?_⟩
  obtain ⟨ex, h0, x, y, z, hl, x0, y0, yb, z0, zb⟩ := hp
  have at0 : ∀ {H' : Hp} {a b c : Int} {o2 o3 o4 : Option V}, H' p = some (.lst [.int a, .int b, .int c]) → Ev (tOp (rIxL K) (tVar 0) (tC (.int 0))) [some (.ref p), some (.int u), o2, o3, o4] H' (.int a) := fun h => ev_op (ev_var rfl) ev_c (rv_ixL (sq_of h) rfl)
  have at1 : ∀ {H' : Hp} {a b c : Int} {o2 o3 o4 : Option V}, H' p = some (.lst [.int a, .int b, .int c]) → Ev (tOp (rIxL K) (tVar 0) (tC (.int 1))) [some (.ref p), some (.int u), o2, o3, o4] H' (.int b) := fun h => ev_op (ev_var rfl) ev_c (rv_ixL (sq_of h) rfl)
  have at2 : ∀ {H' : Hp} {a b c : Int} {o2 o3 o4 : Option V}, H' p = some (.lst [.int a, .int b, .int c]) → Ev (tOp (rIxL K) (tVar 0) (tC (.int 2))) [some (.ref p), some (.int u), o2, o3, o4] H' (.int c) := fun h => ev_op (ev_var rfl) ev_c (rv_ixL (sq_of h) rfl)
  have ud : CDivW 0 u := wide_div (b := 60) u0 (by omega) (by decide) (by decide)
  have test : EvT (tTest (tOp (rI0 fun i j => .bl (decide (j < i))) (tOp (rIxL K) (tVar 0) (tC (.int 0))) (tC (.int 0)))) [some (.ref p), some (.int u), none, none, none] H (decide (0 < x)) := et_cmp (at0 hl) ev_c (rv_I0 (g := fun i j => .bl (decide (j < i))))
  refine sq (s_when test (fun yes H1 e1 => ?_) fun no H1 e1 => ?_)
  · have hl1 := e1 _ _ hl
    refine sq (s_asg (v := .int (x % u)) (ev_op (ev_int (at0 hl1)) (ev_var rfl) (rv_I u0)) fun H2 e2 => ?_)
    have hl2 := e2 _ _ hl1
    refine sq (s_setL (j := 0) hl2 (ev_op (at0 hl2) (ev_var rfl) (rv_I (g := fun i j => .int (i / j)) ud)) (ev_var rfl) ev_c (by show 0 < 3; decide) fun H3 e3 => ?_)
    obtain ⟨d, hd⟩ := Int.eq_ofNat_of_zero_le (Int.emod_nonneg x (by omega : u ≠ 0))
    refine ⟨.int (x % u), rfl, ?_⟩
    show Q (.int (x % u)) _
    rw [hd]
    exact k d _ (by rw [← hd]; exact Int.emod_lt_of_pos x u0) ⟨(((ex.trans e1).trans e2).trans e3).mut h0, h0, x / u, y, z, upd_same, Int.ediv_nonneg x0 (by omega), y0, yb, z0, by omega⟩
  · have hl1 := e1 _ _ hl
    refine sq (s_setL (j := 2) hl1 (ev_op (at2 hl1) ev_c (rv_I0 (g := fun i j => .int (i + j)))) (ev_var rfl) ev_c (by show 2 < 3; decide) fun H2 e2 => ?_)
    obtain ⟨H3, hH3⟩ : ∃ H3, upd H2 p (.lst [.int x, .int y, .int (z + 1)]) = H3 := ⟨_, rfl⟩
    have hl3 : H3 p = some (.lst [.int x, .int y, .int (z + 1)]) := by rw [← hH3]; exact upd_same
    have ex3 : Ex H0 H3 := by rw [← hH3]; exact ((ex.trans e1).trans e2).mut h0
    have eH3 : upd H2 p (.lst ([V.int x, .int y, .int z].set 2 (.int (z + 1)))) = H3 := hH3
    dsimp only
    rw [eH3]
    obtain ⟨pr, hpr, pr0, prb⟩ : ∃ pr : Int, atI [V.int 2147483647, .int 2147483629, .int 2147483587, .int 2147483579] ((z + 1) % 4) = some (.int pr) ∧ 0 < pr ∧ pr < 2 ^ 31 := by
      have h1 := Int.emod_nonneg (z + 1) (by decide : (4 : Int) ≠ 0)
      have h2 := Int.emod_lt_of_pos (z + 1) (by decide : (0 : Int) < 4)
      generalize (z + 1) % 4 = r at h1 h2
      have : r = 0 ∨ r = 1 ∨ r = 2 ∨ r = 3 := by omega
      rcases this with h | h | h | h <;> subst h
      · exact ⟨_, rfl, by decide, by decide⟩
      · exact ⟨_, rfl, by decide, by decide⟩
      · exact ⟨_, rfl, by decide, by decide⟩
      · exact ⟨_, rfl, by decide, by decide⟩
    have gp : Gv (tOp (rIxL K) (tLst (tCons (tC (.int 2147483647)) (tCons (tC (.int 2147483629)) (tCons (tC (.int 2147483587)) (tCons (tC (.int 2147483579)) tNil))))) (tOp (rI (fun _ j => 0 < j) fun i j => .int (i % j)) (tCB (fun xs H Q => (∃ i, xs = [.int i] ∧ Q (.int i) H) ∨ ∃ k, xs = [.bl k] ∧ Q (.int (if k then 1 else 0)) H) (tCons (tOp (rIxL K) (tVar 0) (tC (.int 2))) tNil)) (tC (.int 4))))
        [some (.ref p), some (.int u), none, none, none] H3 (fun v _ => v = .int pr) := fun H4 e4 Q4 k4 => ⟨by show 4 ≤ sizeLine; decide, fun q hq =>
      ev_op (H := upd H4 q _) (ev_int (at2 (Ex.new hq _ _ (e4 _ _ hl3)))) ev_c (rv_I (C := fun _ j => 0 < j) (g := fun i j => .int (i % j)) (by decide)) _ (Ex.refl _) _ fun H5 e5 => ⟨q, _, _, _, rfl, rfl, sq_of (e5 _ _ upd_same), hpr, k4 _ H5 ((Ex.new hq).trans e5) rfl⟩⟩
    refine sq (s_asgG gp fun v H4 e4 hv => ?_)
    subst hv
    have hl4 := e4 _ _ hl3
    have zz : z + 1 ≤ 100000 := by omega
    have z2 : (z + 1) * (z + 1) ≤ 100000 * 100000 := Int.mul_le_mul zz zz (by omega) (by decide)
    have z3 : 0 ≤ (z + 1) * (z + 1) := Int.mul_nonneg (by omega) (by omega)
    have eb : 147487 * (z + 1) * (z + 1) = 147487 * ((z + 1) * (z + 1)) := Int.mul_assoc _ _ _
    refine sq (s_asg (v := .int ((y + 147487 * (z + 1) * (z + 1) + 4231) ^ (3 : Int).toNat % pr)) (ev_op (ev_int (ev_op (ev_int (ev_op (ev_op (at1 hl4) (ev_op (ev_op ev_c (at2 hl4) (rv_I (g := fun i j => .int (i * j)) (C := CMul) (.inl ⟨by decide, by decide⟩))) (at2 hl4) (rv_I (g := fun i j => .int (i * j)) (C := CMul) (.inr ⟨by omega, by omega⟩))) (rv_I0 (g := fun i j => .int (i + j)))) ev_c (rv_I0 (g := fun i j => .int (i + j)))))
      ev_c (rv_I (g := fun i j => .int (i ^ j.toNat)) (C := CPow) ⟨by decide, by decide, by rw [eb]; omega⟩))) (ev_var rfl) (rv_I (g := fun i j => .int (i % j)) (C := fun _ j => 0 < j) pr0)) fun H5 e5 => ?_)
    have hl5 := e5 _ _ hl4
    have b0 := Int.emod_nonneg ((y + 147487 * (z + 1) * (z + 1) + 4231) ^ (3 : Int).toNat) (show pr ≠ 0 by omega)
    have b1 := Int.emod_lt_of_pos ((y + 147487 * (z + 1) * (z + 1) + 4231) ^ (3 : Int).toNat) pr0
    generalize (y + 147487 * (z + 1) * (z + 1) + 4231) ^ (3 : Int).toNat % pr = b at b0 b1
    have last : ∀ v : Int, ∃ d : Nat, v % u = d ∧ (d : Int) < u := fun v => by
      obtain ⟨d, hd⟩ := Int.eq_ofNat_of_zero_le (Int.emod_nonneg v (by omega : u ≠ 0))
      exact ⟨d, hd, by rw [← hd]; exact Int.emod_lt_of_pos v u0⟩
    have ev := ev_op (H := H5) (σ := [some (.ref p), some (.int u), none, some (.int pr), some (.int b)]) (ev_int (ev_op (ev_op (ev_var (i := 4) rfl) (ev_op (ev_op (ev_int (ev_var (i := 4) rfl)) ev_c (rv_I (g := fun i j => .int (i % j)) (C := fun _ j => 0 < j) (by decide : (0 : Int) < 10007))) (ev_op ev_c (at2 hl5) (rv_I (g := fun i j => .int (i * j)) (C := CMul) (i := 3433) (.inl ⟨by decide, by decide⟩))) (rv_I0 (g := fun i j => .int (i + j)))) (rv_I (g := fun i j => .int (i * j)) (C := CMul) (.inl ⟨by omega, by omega⟩))) ev_c (rv_I (g := fun i j => .int (i / j)) (C := CDivW) (j := 307) (wide_div (b := 60) (by decide) (by decide) (by decide) (by decide))))) (ev_var (i := 1) rfl) (rv_I (g := fun i j => .int (i % j)) (C := fun _ j => 0 < j) u0)
    refine ev _ (Ex.refl _) _ fun H6 e6 => ?_
    obtain ⟨d, hd, hdu⟩ := last (b * (b % 10007 + 3433 * (z + 1)) / 307)
    rw [hd]
    exact k d H6 hdu ⟨((ex3.trans e4).trans e5).trans e6, h0, x, y, z + 1, e6 _ _ hl5, x0, y0, yb, by omega, by omega⟩
end
end Mx
end
section
set_option Elab.async false
set_option linter.all false
set_option maxRecDepth 100000
set_option maxHeartbeats 4000000
/-! The pot: _law_of, _law_fraction. -/
namespace Mx
open PySem L2 Evl Fra
open Sx (Mat ent Told Shows)
abbrev sOf : Stmt := top 37
abbrev sFraction : Stmt := top 48
theorem PoV.ne {H0 H : Hp} {p q : Addr} {t : Nat} (h : PoV H0 H p t) (e : H q = none) : q ≠ p := fun z => by
  obtain ⟨_, _, _, hp, _⟩ := h.pot
  rw [z, hp] at e; cases e
def spOf : Sp := fun vs H Q _ => ∃ (p q : Addr) (H0 : Hp) (xs : List V) (t : Nat), vs = [.ref p, .ref q] ∧ PoV H0 H p t ∧ H q = some (.lst xs) ∧ q ≠ p ∧ 0 < xs.length ∧ xs.length ≤ 1000 ∧ t < 100000 ∧ ∀ (i : Nat) v H', xs[i]? = some v → PoV H0 H' p (t + 1) → PoV (hide H p) H' p (t + 1) → Q v H'
/-- numbers that the law draws -/
def Num (q : Rat) : Prop := 0 ≤ q ∧ q ≤ 100 ∧ Cd 42 4200 q
def spFraction (K : PySem.W.Frag) : Sp := fun vs H Q _ => ∃ (p : Addr) (H0 : Hp) (t : Nat), vs = [.ref p] ∧ PoV H0 H p t ∧ t + 3 < 100000 ∧ ∀ v H' q, FrV K H' v q → Num q → PoV H0 H' p (t + 3) → Q v H'
theorem frac_ok {t l : Int} (hl : l = 1 ∨ l = 2 ∨ l = 3 ∨ l = 7) (t0 : 0 ≤ t) (t1 : t ≤ 100 * l) : Num (Rat.divInt t l) := by
  have tq : (0 : Rat) ≤ (t : Rat) := by exact_mod_cast t0
  have tq1 : (t : Rat) ≤ 100 * (l : Rat) := by exact_mod_cast t1
  have l0 : (l : Rat) ≠ 0 := by
    have : l ≠ 0 := by omega
    exact_mod_cast this
  have e : Rat.divInt t l * (l : Rat) = (t : Rat) := by
    rw [Rat.divInt_eq_div]; exact Rat.div_mul_cancel l0
  generalize Rat.divInt t l = q at e
  rcases hl with z | z | z | z <;> subst z
  · have e' : q * 1 = t := e
    have t' : (t : Rat) ≤ 100 * 1 := tq1
    refine ⟨by grind, by grind, t * 42, ?_, by omega⟩
    show q * ((42 : Nat) : Rat) = _
    rw [Rat.intCast_mul, ← e']
    show q * 42 = q * 1 * 42
    grind
  · have e' : q * 2 = t := e
    have t' : (t : Rat) ≤ 100 * 2 := tq1
    refine ⟨by grind, by grind, t * 21, ?_, by omega⟩
    show q * ((42 : Nat) : Rat) = _
    rw [Rat.intCast_mul, ← e']
    show q * 42 = q * 2 * 21
    grind
  · have e' : q * 3 = t := e
    have t' : (t : Rat) ≤ 100 * 3 := tq1
    refine ⟨by grind, by grind, t * 14, ?_, by omega⟩
    show q * ((42 : Nat) : Rat) = _
    rw [Rat.intCast_mul, ← e']
    show q * 42 = q * 3 * 14
    grind
  · have e' : q * 7 = t := e
    have t' : (t : Rat) ≤ 100 * 7 := tq1
    refine ⟨by grind, by grind, t * 6, ?_, by omega⟩
    show q * ((42 : Nat) : Rat) = _
    rw [Rat.intCast_mul, ← e']
    show q * 42 = q * 7 * 6
    grind
section
variable {P : Program} {w : World} {K : PySem.W.Frag} {mg : Str → Option Value} {base : Heap}
theorem scOf : FnScope ["pot", "some"] ["pot", "some"] (defScope sOf) := ⟨rfl, rfl, rfl, by decide +kernel, rfl, by decide +kernel, by decide +kernel⟩
theorem ok_of (T : Bt mg) (F : Dn K mg "_law_of" sOf ["pot", "some"]) (GT : Fn P w K mg base "_law_take" ["pot", "upto"] 1 spTake) : Fn P w K mg base "_law_of" ["pot", "some"] 2 spOf := by
  refine F.fn scOf (fun vs H Q E h => ?_) (fun f cdv A outer s0 H vs Q E hr h => ?_)
  · obtain ⟨_, _, _, _, _, rfl, _⟩ := h; rfl
  obtain ⟨p, q, H0, xs, t, rfl, hp, hq, ne, l0, l1, ht, k⟩ := h
  refine ⟨_, pss_one (ps_ret (pe_ix ix_list (pv 1) (pe_fn GT hr (pa_cons (pv 0) (pa_cons (pe_callB call_len (by rfl) T.len PySem.boot_len (pa_cons (pv 1) pa_nil)) pa_nil))) (fun _ _ => rfl))), ?_⟩
  refine ⟨_, rfl, _, rfl, _, rfl, _, xs.length, rfl, .inl ⟨xs, sq_of hq, rfl⟩, p, hide H p, _, t, rfl, hp.here, by omega, by omega, ht, fun d H' hd g => ?_⟩
  have hi : d < xs.length := by omega
  have e : xs[d]? = some (xs[d]'hi) := by simp [hi]
  exact ⟨q, xs, _, _, rfl, rfl, sq_of (g.ex _ _ (by rw [hide_ne ne]; exact hq)), atI_nat e, k d _ H' e (hp.base g) g⟩
theorem scFraction : FnScope ["pot", "low"] ["pot"] (defScope sFraction) := ⟨rfl, rfl, rfl, by decide +kernel, rfl, by decide +kernel, by decide +kernel⟩
theorem ok_fraction (T : Bt mg) (F : Dn K mg "_law_fraction" sFraction ["pot"]) (GT : Fn P w K mg base "_law_take" ["pot", "upto"] 1 spTake) (GO : Fn P w K mg base "_law_of" ["pot", "some"] 2 spOf) (GS : Fn P w K mg base "_law_short" ["top", "low"] 1 (spShort K)) : Fn P w K mg base "_law_fraction" ["pot"] 3 (spFraction K) := by
  refine F.fn scFraction (fun vs H Q E h => ?_) (fun f cdv A outer s0 H vs Q E hr h => ?_)
  · obtain ⟨_, _, _, rfl, _⟩ := h; rfl
  obtain ⟨p, H0, t, rfl, hp, ht, k⟩ := h
  refine ⟨_, pss_cons (ps_set (i := 1) scFraction.nd rfl (.inl rfl) (pe_callTy call_int1 (by rfl) T.int (by decide +kernel) (pa_cons (pe_fn GO hr (pa_cons (pv 0) (pa_cons (pe_lst (pa_cons pe_int (pa_cons pe_int (pa_cons pe_int (pa_cons pe_int (pa_cons pe_int (pa_cons pe_int pa_nil))))))) pa_nil))) pa_nil)))
    (pss_one (ps_ret (pe_fn GS (hr.mono (by decide)) (pa_cons (pe_callTy call_int1 (by rfl) T.int (by decide +kernel) (pa_cons (pe_fn GO hr (pa_cons (pv 0) (pa_cons (pe_lst (pa_cons pe_int (pa_cons (pe_op op_mul pe_int (pv 1)) (pa_cons (pe_op op_mul pe_int (pv 1)) (pa_cons (pe_fn GT (hr.mono (by decide)) (pa_cons (pv 0) (pa_cons (pe_op op_add (pe_op op_mul pe_int (pv 1)) pe_int) pa_nil))) pa_nil))))) pa_nil))) pa_nil)) (pa_cons (pv 1) pa_nil))))), ?_⟩
  refine sq ⟨_, rfl, by show 6 ≤ sizeLine; decide, fun q hq => ?_⟩
  refine ⟨p, q, H0, _, t, rfl, hp.mono (Ex.new hq), upd_same, hp.ne hq, by show 0 < 6; decide, by show 6 ≤ 1000; decide, by omega, fun i v H1 hi g _ => ?_⟩
  obtain ⟨l, rfl, hl⟩ : ∃ l : Int, v = .int l ∧ (l = 1 ∨ l = 2 ∨ l = 3 ∨ l = 7) := by
    have := List.mem_of_getElem? hi
    simp only [List.mem_cons, List.not_mem_nil, or_false] at this
    rcases this with z | z | z | z | z | z
    · exact ⟨_, z, .inl rfl⟩
    · exact ⟨_, z, .inl rfl⟩
    · exact ⟨_, z, .inl rfl⟩
    · exact ⟨_, z, .inr (.inl rfl)⟩
    · exact ⟨_, z, .inr (.inr (.inl rfl))⟩
    · exact ⟨_, z, .inr (.inr (.inr rfl))⟩
  have l0 : 0 < l ∧ l ≤ 7 := by omega
  refine .inl ⟨l, rfl, ?_⟩
  have mc : ∀ c : Int, c = 100 ∨ c = 50 → CMul c l := fun c hc => .inr ⟨by omega, by omega⟩
  refine ⟨_, rfl, _, rfl, _, _, rfl, rfl, mc 100 (.inl rfl), _, rfl, _, _, rfl, rfl, mc 50 (.inr rfl), _, rfl, _, rfl, _, _, rfl, rfl, mc 100 (.inl rfl), _, _, rfl, rfl, p, H0, _, t + 1, rfl, g, by omega, by omega, by omega, fun d H2 hd g2 => ?_⟩
  refine ⟨by show 4 ≤ sizeLine; decide, fun q2 hq2 => ?_⟩
  refine ⟨p, q2, H0, _, t + 2, rfl, g2.mono (Ex.new hq2), upd_same, g2.ne hq2, by show 0 < 4; decide, by show 4 ≤ 1000; decide, by omega, fun i v H3 hi g3 _ => ?_⟩
  obtain ⟨c, rfl, c0, c1⟩ : ∃ c : Int, v = .int c ∧ 0 ≤ c ∧ c ≤ 100 * l := by
    have := List.mem_of_getElem? hi
    simp only [List.mem_cons, List.not_mem_nil, or_false] at this
    rcases this with z | z | z | z
    · exact ⟨_, z, by omega, by omega⟩
    · exact ⟨_, z, by omega, by omega⟩
    · exact ⟨_, z, by omega, by omega⟩
    · exact ⟨_, z, by omega, by omega⟩
  have num := frac_ok hl c0 c1
  have nb : Bits (Rat.divInt c l) 13 := num.2.2.bits (by decide) (by decide) (by decide)
  refine .inl ⟨c, rfl, _, rfl, c, l, rfl, l0.1, ?_, ?_, fun u H4 e4 fu => k u H4 _ fu num (g3.mono e4)⟩
  · exact Nat.lt_of_lt_of_le (show l.natAbs < 2 ^ 13 by omega) (Nat.pow_le_pow_right (by decide) (by decide))
  · exact pow_le nb.2 (by decide)
end
end Mx
end
section
set_option Elab.async false
set_option linter.all false
set_option maxRecDepth 100000
set_option maxHeartbeats 4000000
/-! Comprehensions that draw from the pot. -/
namespace Mx
open PySem L2 Evl Fra
open Sx (Mat ent Told Shows)
section
variable {K : PySem.W.Frag} {α : Type} {R : PySem.W.Frag → Hp → V → α → Prop} {S : α → Prop} {J : It} {B : Nat → Hp → V → Prop}
theorem lcP {g : TG} {te : TE} {vs : List Nat} {σ : L2.St} {H2 : Hp} {p D : Addr} {t c n : Nat} {Qd : Hp → Prop} (w : Wk J n (hide H2 p) B) (hp : PoV (hide H2 p) H2 p t) (hD : H2 D = none) (hn : n ≤ 100000) (mR : ∀ H1 H2 v x, ExT H1 H2 → R K H1 v x → R K H2 v x)
    (hs : ∀ i x H' Q, i < n → PoV (hide H2 p) H' p (t + i * c) → B i H' x → (∀ σ2 H3, Ex H' H3 → wipe σ2 vs = wipe σ vs → (∀ Q' : VK, (∀ y H4 r, PoV (hide H' p) H4 p (t + (i + 1) * c) → R K H4 y r → S r → Q' y H4) → te σ2 H3 Q') → Q σ2 H3) → g x (wipe σ vs) H' Q)
    (hd : ∀ H5 acc rs, PoV (hide H2 p) H5 p (t + n * c) → H5 D = some (.lst acc) → Paired (R K H5) acc rs → rs.length = n → (∀ r ∈ rs, S r) → Qd H5) :
    ∃ W : Nat → Nat → Hp → Prop, (∃ m, W 0 m (upd H2 D (.lst []))) ∧ ∀ i m H, W i m H →
      (J.stop i H ∧ Qd H) ∨ (J.go i H ∧ ∃ Nx : Hp → Prop, (∀ H', Nx H' → ∃ m', m' < m ∧ W (i + 1) m' H') ∧ ∀ x H', J.yld i H x H' → g x (wipe σ vs) H' fun σ2 H2 => wipe σ2 vs = wipe σ vs ∧ tYes σ2 H2 fun b H3 =>
        if b = true then te σ2 H3 fun y H4 => ∃ acc, H4 D = some (.lst acc) ∧ acc.length < sizeLine ∧ Nx (upd H4 D (.lst (acc ++ [y]))) else Nx H3) := by
  obtain ⟨G, wk, gg⟩ := w
  have Dp : D ≠ p := hp.ne hD
  have hbD : hide H2 p D = none := by rw [hide_ne Dp]; exact hD
  refine lc_it wk (fun i H' => PoV (hide H2 p) H' p (t + i * c) ∧ ∃ acc rs, H' D = some (.lst acc) ∧ Paired (R K H') acc rs ∧ rs.length = i ∧ ∀ r ∈ rs, S r) ?_ (fun i H' _ q => gg H' q.1.ex) ?_ ?_
  · refine ⟨?_, [], [], upd_same, .nil, rfl, fun r h => (by cases h)⟩
    rw [Nat.zero_mul, Nat.add_zero]
    exact hp.mono (Ex.new hD)
  · rintro i x H' H'' hin ⟨hp', acc, rs, hacc, hpr, hlen, hS⟩ ⟨e'', hB⟩
    have hp2 := hp'.mono e''
    have acc2 := e'' _ _ hacc
    refine hs i x H'' _ hin hp2 (hB hp'.ex) fun σ2 H3 e3 hw hv => ⟨hw, ?_⟩
    unfold tYes
    dsimp only
    try rw [if_pos rfl]
    refine hv _ fun y H4 r g4 hr hSr => ?_
    have acc4 : H4 D = some (.lst acc) := g4.ex _ _ (by rw [hide_ne Dp]; exact acc2)
    have al : acc.length = i := by rw [← hlen]; exact Paired.length hpr
    have up : ExT H4 (upd H4 D (.lst (acc ++ [y]))) := (ExT.refl H4).put (fun xs z => by rw [acc4] at z; cases z) (fun o u z => by rw [acc4] at z; cases z)
    have eT : ExT H' H4 := (ExT.of e'').trans (hp2.extT g4)
    obtain ⟨ex5, h05, a, b, z, hpot, r5⟩ := hp2.base g4
    refine ⟨acc, acc4, by rw [al]; exact Nat.lt_of_lt_of_le hin (sz_of hn), ⟨ex5.mut hbD, h05, a, b, z, by rw [upd_ne Dp.symm]; exact hpot, r5⟩, acc ++ [y], rs ++ [r], upd_same, ?_, by rw [List.length_append, hlen]; rfl, fun q hq => ?_⟩
    · exact paired_append (L2.Paired.mapP hpr fun v x r => mR _ _ v x (eT.trans up) r) (.cons (mR _ _ _ _ up hr) .nil)
    · rcases List.mem_append.mp hq with z | z
      · exact hS q z
      · rw [List.mem_singleton] at z; rw [z]; exact hSr
  · rintro H' ⟨hp', acc, rs, hacc, hpr, hlen, hS⟩
    exact hd H' acc rs hp' hacc hpr hlen hS
end
end Mx
end
section
set_option Elab.async false
set_option linter.all false
set_option maxRecDepth 100000
set_option maxHeartbeats 4000000
/-! _law_lines. -/
namespace Mx
open PySem L2 Evl Fra
open Sx (Mat ent Told Shows)
abbrev sLines : Stmt := top 49
def spLines (K : PySem.W.Frag) : Sp := fun vs H Q _ => ∃ (p : Addr) (H0 : Hp) (t m : Nat), vs = [.ref p, .int m] ∧ PoV H0 H p t ∧ 0 < m ∧ m ≤ 32 ∧ t + 300 < 100000 ∧
  ∀ v H' r0 r1, MaV K H' v [r0, r1] → r0.length = m → r1.length = m → (∀ q ∈ r0, Num q) → (∀ q ∈ r1, Num q) → PoV H0 H' p (t + 300) → Q v H'
section
variable {P : Program} {w : World} {K : PySem.W.Frag} {mg : Str → Option Value} {base : Heap}
theorem scLines : FnScope ["pot", "many", "lap", "columns"] ["pot", "many"] (defScope sLines) := ⟨rfl, rfl, rfl, by decide +kernel, rfl, by decide +kernel, by decide +kernel⟩
theorem ok_lines (T : Bt mg) (F : Dn K mg "_law_lines" sLines ["pot", "many"]) (GT : Fn P w K mg base "_law_take" ["pot", "upto"] 1 spTake) (GO : Fn P w K mg base "_law_of" ["pot", "some"] 2 spOf) (GF : Fn P w K mg base "_law_fraction" ["pot"] 3 (spFraction K)) (GU : Fn P w K mg base "_law_turned" ["matrix"] 1 (spTurned K)) :
    Fn P w K mg base "_law_lines" ["pot", "many"] 4 (spLines K) := by
  refine F.fn scLines (fun vs H Q E h => ?_) (fun f cdv A outer s0 H vs Q E hr h => ?_)
  · obtain ⟨_, _, _, _, rfl, _⟩ := h; rfl
  obtain ⟨p, H0, t, m, rfl, hp, m0, m1, ht, k⟩ := h
  refine ⟨_, pss_cons (ps_setLc (i := 3) (own := [("lap", 2)]) (g := gName 2) (by rfl) scLines.nd rfl rfl (sw_true rfl rfl rfl (by decide +kernel)) (pi_range1 (by rfl) T.range (pa_cons (pv 1) pa_nil)) (blkOk_by (own := [("lap", 2)]) (N := ["pot", "many", "lap", "columns"]) (sc := defScope sLines) (by decide +kernel))
      (fun _ _ _ _ _ => pg_name (i := 2) scLines.nd rfl (Or.inl rfl)) (fun _ _ _ _ _ => pts_nil) (fun _ _ _ _ _ => pe_tup (pa_cons (pe_fn GF hr (pa_cons (pv 0) pa_nil)) (pa_cons (pe_fn GF hr (pa_cons (pv 0) pa_nil)) pa_nil))))
    (pss_cons (ps_for PassesOwn.never rfl (pi_range1 (by rfl) T.range (pa_cons (pe_fn GT (hr.mono (by decide)) (pa_cons (pv 0) (pa_cons pe_int pa_nil))) pa_nil)) (pg_name (i := 2) scLines.nd rfl (Or.inl rfl))
      (pss_one (ps_asg (pe_fn GO (hr.mono (by decide)) (pa_cons (pv 0) (pa_cons (pv 3) pa_nil))) (pg_sub (pv 3) (pe_fn GT (hr.mono (by decide)) (pa_cons (pv 0) (pa_cons (pv 1) pa_nil))) set_list))))
    (pss_one (ps_ret (pe_fn GU (hr.mono (by decide)) (pa_cons (pe_callTy call_tuple_of (by rfl) T.tuple (by decide +kernel) (pa_cons (pv 3) pa_nil)) pa_nil))))), ?_⟩
  refine sq ⟨_, rfl, (m : Int), rfl, by omega, by omega, fun D hD => ?_⟩
  have Dp : D ≠ p := hp.ne hD
  have h0D : H0 D = none := fresh_back hp.ex hD
  refine lcP (K := K) (R := RoV) (S := fun r => r.length = 2 ∧ ∀ q ∈ r, Num q) (n := m) (c := 6) (t := t) (B := fun i _ v => v = .int (0 + (i : Int))) wk_range hp.here hD (by omega) (fun _ _ _ _ e r => RoV.mono e r) (fun i x H' Q' hi g hB kk => ?_) fun H5 acc rs g5 hacc hpr hlen hS => ?_
  · refine kk [some (.ref p), some (.int m), some x, none] H' (Ex.refl _) rfl fun Q2 q2 => ?_
    refine ⟨_, rfl, p, hide H' p, t + i * 6, rfl, g.here, by omega, fun v1 H4 q1 f1 n1 g4 => ?_⟩
    refine ⟨_, rfl, p, hide H4 p, t + i * 6 + 3, rfl, g4.here, by omega, fun v2 H5 q2' f2 n2 g5 => ?_⟩
    refine ⟨by show 2 ≤ sizeLine; decide, fun a ha => q2 _ _ [q1, q2'] (((g4.base g5).mono (Ex.new ha)).le (by omega)) ⟨a, [v1, v2], rfl, st_of upd_same, .cons (f1.mono ((g4.extT g5).trans (ExT.of (Ex.new ha)))) (.cons (f2.mono (ExT.of (Ex.new ha))) .nil)⟩ ⟨rfl, fun q hq => ?_⟩⟩
    rcases List.mem_cons.mp hq with z | z
    · rw [z]; exact n1
    · rw [List.mem_singleton] at z; rw [z]; exact n2
  have g5' := hp.base g5
  dsimp only
  refine sq ⟨_, rfl, p, hide H5 p, 3, t + m * 6, rfl, g5.here, by decide, by decide, by omega, fun d H6 hd g6 => ⟨(d : Int), rfl, by omega, by omega, ?_⟩⟩
  refine for_it (walk_range (lo := 0) (n := d)) (fun i σ' H' => PoV H0 H' p (t + m * 6 + 1 + 2 * i) ∧ ∃ o2 acc rs, σ' = [some (.ref p), some (.int m), o2, some (.ref D)] ∧ H' D = some (.lst acc) ∧ Paired (RoV K H') acc rs ∧ rs.length = m ∧ ∀ r ∈ rs, r.length = 2 ∧ ∀ q ∈ r, Num q) ?_ (fun _ _ _ _ _ => True.intro) ?_ ?_
  · exact ⟨g5'.base g6, none, acc, rs, rfl, g6.ex _ _ (by rw [hide_ne Dp]; exact hacc), L2.Paired.mapP hpr fun v x r => RoV.mono (g5.extT g6) r, hlen, hS⟩
  · rintro i x σ' H' H'' hi ⟨g7, o2, acc, rs, rfl, hacc, hpr, hlen, hS⟩ y
    obtain ⟨rfl, rfl⟩ := y
    have al : acc.length = m := by rw [← hlen]; exact Paired.length hpr
    refine ⟨_, rfl, _, rfl, p, D, H0, acc, _, rfl, g7, hacc, Dp, by omega, by omega, by omega, fun j v H8 hj g8 g8h => ?_⟩
    refine ⟨_, rfl, _, rfl, _, rfl, p, hide H8 p, (m : Int), _, rfl, g8.here, by omega, by omega, by omega, fun d2 H9 hd2 g9 => ?_⟩
    have acc8 : H8 D = some (.lst acc) := g8h.ex _ _ (by rw [hide_ne Dp]; exact hacc)
    have acc9 : H9 D = some (.lst acc) := g9.ex _ _ (by rw [hide_ne Dp]; exact acc8)
    refine ⟨D, acc, (d2 : Int), d2, rfl, rfl, acc9, ixN_nat (by omega), ?_⟩
    obtain ⟨r, hr, fr⟩ := wk_list.pget hpr hj
    have up : ExT H9 (upd H9 D (.lst (acc.set d2 v))) := ext_set acc9
    have eT := ((g7.extT g8h).trans (g8.extT g9)).trans up
    obtain ⟨ex5, h05, a, b, z, hpot, r1, r2, r3, r4, r5⟩ := g8.base g9
    refine ⟨⟨ex5.mut h0D, h05, a, b, z, by rw [upd_ne Dp.symm]; exact hpot, r1, r2, r3, r4, by omega⟩, _, _, rs.set d2 r, rfl, upd_same, paired_set (L2.Paired.mapP hpr fun v x r => RoV.mono eT r) (RoV.mono eT fr), by rw [List.length_set]; exact hlen, fun q hq => ?_⟩
    rcases List.mem_or_eq_of_mem_set hq with z | z
    · exact hS q z
    · rw [z]; exact hS r (List.mem_of_getElem? hr)
  · rintro σ' H' ⟨g7, o2, acc, rs, rfl, hacc, hpr, hlen, hS⟩
    refine ⟨_, rfl, D, acc, rfl, .inl ⟨sq_of hacc, fun l hl => ⟨_, rs, m, 2, rfl, ⟨l, acc, rfl, st_of upd_same, L2.Paired.mapP hpr fun v x r => RoV.mono (ExT.of (Ex.new hl)) r⟩, ⟨hlen, fun r hr => (hS r hr).1, m0, by decide⟩, by omega, by decide, fun v H9 e9 hv => ?_⟩⟩⟩
    have num : ∀ j, j < 2 → ∀ q ∈ rs.map (fun r => r.getD j 0), Num q := fun j hj q hq => by
      obtain ⟨r, hr, rfl⟩ := List.mem_map.mp hq
      exact (hS r hr).2 _ (List.mem_of_getElem? (some_getD (by rw [(hS r hr).1]; exact hj)))
    exact k v H9 (rs.map fun r : List Rat => r.getD 0 (0 : Rat)) (rs.map fun r : List Rat => r.getD 1 (0 : Rat)) hv (by rw [List.length_map]; exact hlen) (by rw [List.length_map]; exact hlen) (num 0 (by decide)) (num 1 (by decide)) (((g7.mono (Ex.new hl)).mono e9).le (by omega))
end
end Mx
end
section
set_option Elab.async false
set_option linter.all false
set_option maxRecDepth 100000
set_option maxHeartbeats 4000000
/-! _law_pot. -/
namespace Mx
open PySem L2 Evl Fra
open Sx (Mat ent Told Shows)
abbrev sPot : Stmt := top 35
def CPowB (i j : Int) : Prop := 0 ≤ j ∧ (Builtin.Int.intBits i : Int) * j ≤ 2 ^ 27
theorem op_powB {X : Cx} : OpR X (binaryOp .Pow) (rI CPowB fun i j => .int (i ^ j.toNat)) := opI fun _ _ _ _ _ _ _ hc q => PyProof.Rows.pow_int hc.1 hc.2 q
def spPot (K : PySem.W.Frag) : Sp := fun vs H Q _ => ∃ (l : Addr) (ns : List Int) (k : Nat), vs = [.ref l, .int k] ∧ SqL K H l (ns.map V.int) ∧ k ≤ 10 ∧ ns.length ≤ 1000000 ∧ ∀ p H', PoV H H' p 0 → Q (.ref p) H'
section
variable {P : Program} {w : World} {K : PySem.W.Frag} {mg : Str → Option Value} {base : Heap}
theorem scPot : FnScope ["script", "place", "cell", "own", "small"] ["script", "place"] (defScope sPot) := ⟨rfl, rfl, rfl, by decide +kernel, rfl, by decide +kernel, by decide +kernel⟩
theorem ok_pot (T : Bt mg) (F : Dn K mg "_law_pot" sPot ["script", "place"]) : Fn P w K mg base "_law_pot" ["script", "place"] 1 (spPot K) := by
  refine F.fn scPot (fun vs H Q E h => ?_) (fun f cdv A outer s0 H vs Q E hr h => ?_)
  · obtain ⟨_, _, _, rfl, _⟩ := h; rfl
  obtain ⟨l, ns, k, rfl, hl, hk, hn, kk⟩ := h
  refine ⟨_, pss_cons (ps_set (i := 2) scPot.nd rfl (.inl rfl) (pe_ifExp (pt_cmpR op_lt (pv 1) (pe_callB call_len (by rfl) T.len PySem.boot_len (pa_cons (pv 0) pa_nil)) (nomark _)) (pe_ix ix_list (pv 0) (pv 1) (fun _ _ => rfl))
      (pe_op op_add (pe_op op_add (pe_op op_mod (pe_callTy call_int1 (by rfl) T.int (by decide +kernel) (pa_cons (pe_callB (cr_sum rfl) (by rfl) T.sum (by decide +kernel) (pa_cons (pe_slice sl_list (pv 0) po_none (po_some pe_int)) pa_nil)) pa_nil)) pe_int) (pe_op op_mul pe_int (pv 1))) pe_int)))
    (pss_cons (ps_set (i := 3) scPot.nd rfl (.inl rfl) (pe_op op_mul (pe_op op_mod (pe_callTy call_int1 (by rfl) T.int (by decide +kernel) (pa_cons (pe_callB call_abs (by rfl) T.abs (by decide +kernel) (pa_cons (pv 2) pa_nil)) pa_nil)) (pe_op op_powB (pe_op op_pow pe_int pe_int) pe_int))
      (pe_callTy call_int1 (by rfl) T.int (by decide +kernel) (pa_cons (pe_cmpR op_ge (pe_callB call_abs (by rfl) T.abs (by decide +kernel) (pa_cons (pv 2) pa_nil)) (pe_op op_pow pe_int pe_int) (nomark _)) pa_nil))))
    (pss_cons (ps_set (i := 4) scPot.nd rfl (.inl rfl) (pe_op op_mod (pe_callTy call_int1 (by rfl) T.int (by decide +kernel) (pa_cons (pv 2) pa_nil)) pe_int))
    (pss_one (ps_ret (pe_lst (pa_cons (pv 3) (pa_cons (pe_op op_mod (pe_callTy call_int1 (by rfl) T.int (by decide +kernel) (pa_cons (pe_op op_add (pe_op op_add (pe_op op_mul (pv 4) pe_int) (pe_op op_mul (pe_op op_mul pe_int (pv 1)) (pv 1))) pe_int) pa_nil)) pe_int) (pa_cons pe_int pa_nil)))))))), ?_⟩
  have bi : ∀ b : Bool, (0 : Int) ≤ (if b = true then (1 : Int) else 0) ∧ (if b = true then (1 : Int) else 0) ≤ (1 : Int) := fun b => by cases b <;> decide
  have cm : CMul 5697 (k : Int) := .inl ⟨by decide, by decide⟩
  refine sq (s_asgG (P := fun v _ => ∃ c : Int, v = .int c) (fun H1 e1 Q1 q1 => ?_) fun v H1 e1 ⟨c, ev⟩ => ?_)
  · refine ⟨_, rfl, _, rfl, _, (ns.map V.int).length, rfl, .inl ⟨_, ex_l e1 hl, rfl⟩, _, _, rfl, rfl, _, rfl, ?_⟩
    by_cases hj : k < ns.length
    · have hd : decide (((k : Nat) : Int) < (((ns.map V.int).length : Nat) : Int)) = true := decide_eq_true (by rw [List.length_map]; omega)
      dsimp only
      rw [if_pos hd]
      have e : (ns.map V.int)[k]? = some (.int (ns[k]'hj)) := by simp [hj]
      exact ⟨_, rfl, _, rfl, l, _, _, _, rfl, rfl, ex_l e1 hl, atI_nat e, q1 _ H1 (Ex.refl _) ⟨_, rfl⟩⟩
    · have hd : ¬ decide (((k : Nat) : Int) < (((ns.map V.int).length : Nat) : Int)) = true := fun z => by
        have z2 := of_decide_eq_true z
        rw [List.length_map] at z2
        omega
      dsimp only
      rw [if_neg hd]
      have cut : cutV (ns.map V.int) none (some 1) = (ns.take 1).map V.int := by
        cases ns with
        | nil => rfl
        | cons a r => exact (cutTo (vs := (a :: r).map V.int) (i := 1) (by simp)).trans (by simp)
      refine ⟨_, rfl, _, rfl, l, _, rfl, ex_l e1 hl, fun p hp => ?_⟩
      rw [cut]
      exact ⟨p, ns.take 1, rfl, sq_of upd_same, .inl ⟨_, rfl, _, _, rfl, rfl, (show (0 : Int) < 1000003 by decide), _, rfl, _, _, rfl, rfl, cm, _, _, rfl, rfl, _, _, rfl, rfl, q1 _ _ (Ex.new hp) ⟨_, rfl⟩⟩⟩
  subst ev
  have p0 : (0 : Int) < ((10 : Int) ^ (60 : Int).toNat) ^ (5 : Int).toNat := Int.pow_pos (Int.pow_pos (by decide))
  dsimp only
  refine sq (s_asgG (P := fun v _ => ∃ x : Int, v = .int x ∧ 0 ≤ x) (fun H2 e2 Q2 q2 => ?_) fun v H2 e2 ⟨x, ev, x0⟩ => ?_)
  · refine ⟨_, rfl, c, rfl, .inl ⟨_, rfl, _, _, rfl, rfl, ⟨by decide, by decide, by decide⟩, _, _, rfl, rfl, ⟨by decide, by decide +kernel⟩, _, _, rfl, rfl, p0, _, rfl, c, rfl, _, _, rfl, rfl, ⟨by decide, by decide, by decide⟩, _, _, rfl, rfl, .inr ⟨_, rfl, _, _, rfl, rfl, ?_, q2 _ H2 (Ex.refl _) ⟨_, rfl, Int.mul_nonneg (Int.emod_nonneg _ (by omega)) ?_⟩⟩⟩⟩
    · exact .inr ⟨Int.lt_of_lt_of_le (by decide) (bi _).1, Int.lt_of_le_of_lt (bi _).2 (by decide)⟩
    · exact (bi _).1
  subst ev
  refine sq (s_asg (v := .int (c % 2305843009213693951)) (ev_op (ev_int (ev_var (i := 2) rfl)) ev_c (rv_I (g := fun i j => .int (i % j)) (C := fun _ j => 0 < j) (by decide))) fun H3 e3 => ?_)
  generalize c % 2305843009213693951 = s
  refine ⟨_, rfl, _, rfl, _, _, rfl, rfl, .inr ⟨by decide, by decide⟩, _, rfl, _, _, rfl, rfl, .inl ⟨by decide, by decide⟩, _, rfl, _, _, rfl, rfl, .inr ⟨by omega, by omega⟩, _, _, rfl, rfl, _, _, rfl, rfl, .inl ⟨_, rfl, _, _, rfl, rfl, (show (0 : Int) < 2305843009213693921 by decide), by show 3 ≤ sizeLine; decide, fun p hp => ?_⟩⟩
  generalize hy : (s * 99529 + 14869 * (k : Int) * (k : Int) + 4455) = y
  have b0 := Int.emod_nonneg y (by decide : (2305843009213693921 : Int) ≠ 0)
  have b1 := Int.emod_lt_of_pos y (by decide : (0 : Int) < 2305843009213693921)
  exact kk p _ ⟨((e1.trans e2).trans e3).trans (Ex.new hp), fresh_back ((e1.trans e2).trans e3) hp, x, _, 0, upd_same, x0, b0, by omega, by decide, by decide⟩
end
end Mx
end
section
set_option Elab.async false
set_option linter.all false
set_option maxRecDepth 100000
set_option maxHeartbeats 4000000
/-! _law_cells. -/
namespace Mx
open PySem L2 Evl Fra
abbrev sCells : Stmt := top 38
def spCells (K : PySem.W.Frag) : Sp := fun vs H Q _ => ∃ (l : Addr) (ns : List Int), vs = [.ref l, .int 2] ∧ SqL K H l (ns.map V.int) ∧ ∀ p n H', Ex H H' → H p = none → n ≤ 2 → H' p = some (.lst ((List.range n).map fun i => V.int (i : Nat))) → Q (.ref p) H'
section
variable {P : Program} {w : World} {K : PySem.W.Frag} {mg : Str → Option Value} {base : Heap}
theorem scCells : FnScope ["script", "limit"] ["script", "limit"] (defScope sCells) := ⟨rfl, rfl, rfl, by decide +kernel, rfl, by decide +kernel, by decide +kernel⟩
theorem ok_cells (T : Bt mg) (F : Dn K mg "_law_cells" sCells ["script", "limit"]) : Fn P w K mg base "_law_cells" ["script", "limit"] 1 (spCells K) := by
  refine F.fn scCells (fun vs H Q E h => ?_) (fun f cdv A outer s0 H vs Q E hr h => ?_)
  · obtain ⟨_, _, rfl, _⟩ := h; rfl
  obtain ⟨l, ns, rfl, hl, k⟩ := h
  refine ⟨_, pss_one (ps_ret (pe_listRg rfl (by rfl) T.list (prg_1 (by rfl) T.range (pe_callB (call_max2 rfl) (by rfl) T.max (by decide +kernel) (pa_cons pe_int (pa_cons (pe_callB (call_min2 rfl) (by rfl) T.min (by decide +kernel) (pa_cons (pv 1) (pa_cons (pe_callB call_len (by rfl) T.len PySem.boot_len (pa_cons (pv 0) pa_nil)) pa_nil))) pa_nil)))))), ?_⟩
  obtain ⟨n, hn, h2⟩ : ∃ n : Nat, (if (if ((ns.map V.int).length : Int) < 2 then ((ns.map V.int).length : Int) else 2) > 1 then (if ((ns.map V.int).length : Int) < 2 then ((ns.map V.int).length : Int) else 2) else (1 : Int)) = (n : Int) ∧ n ≤ 2 := by
    generalize (ns.map V.int).length = c
    by_cases h : (c : Int) < 2
    · rw [if_pos h]
      by_cases h1 : (c : Int) > 1
      · rw [if_pos h1]; exact ⟨c, rfl, by omega⟩
      · rw [if_neg h1]; exact ⟨1, rfl, by decide⟩
    · rw [if_neg h, if_pos (by decide)]; exact ⟨2, rfl, by decide⟩
  refine ⟨_, rfl, _, rfl, _, _, rfl, .inl ⟨_, hl, rfl⟩, _, _, rfl, _, _, rfl, (n : Int), congrArg V.int hn, RgOk.of_le (by decide) (by omega) (by decide) (by omega), fun q hq => ?_⟩
  refine k q n _ (Ex.new hq) hq h2 ?_
  rw [upd_same]
  unfold rgV
  simp
end
end Mx
end
section
set_option Elab.async false
set_option linter.all false
set_option maxRecDepth 100000
set_option maxHeartbeats 4000000
/-! Values of matrices, by weights. -/
namespace Sx
open Fra
section
variable {M : List (List Rat)} {n m : Nat} {v : Rat} {rs cs : List Rat}
theorem ent_col (M : List (List Rat)) (i j : Nat) : (M.map (·.getD j 0)).getD i 0 = ent M i j := by
  unfold ent
  simp only [List.getD_eq_getElem?_getD, List.getElem?_map]
  cases h : M[i]? with
  | none => simp
  | some r => simp
theorem Shows.colS (s : Shows M n m v rs cs) (mat : Mat n m M) {j : Nat} (hj : j < m) : v ≤ sm n fun i => rs.getD i 0 * ent M i j := by
  have := s.col j hj
  rw [sumQ_zip (n := n) s.rl (by rw [List.length_map]; exact mat.rows)] at this
  rw [sm_congr (g := fun i => rs.getD i 0 * (M.map (·.getD j 0)).getD i 0) fun i _ => by rw [ent_col]]
  exact this
theorem Shows.rowS (s : Shows M n m v rs cs) (mat : Mat n m M) {i : Nat} (hi : i < n) : (sm m fun j => cs.getD j 0 * ent M i j) ≤ v := by
  have := s.row i hi
  rw [sumQ_zip (n := m) s.cl (mat.row hi)] at this
  exact this
theorem some_d {α : Type} {l : List α} {i : Nat} (d : α) (h : i < l.length) : l[i]? = some (l.getD i d) := by simp [h]
theorem Shows.cn (s : Shows M n m v rs cs) : ∀ j, j < m → 0 ≤ cs.getD j 0 := fun j hj => s.c0 _ (List.mem_of_getElem? (some_d 0 (by rw [s.cl]; exact hj)))
theorem Shows.rn (s : Shows M n m v rs cs) : ∀ i, i < n → 0 ≤ rs.getD i 0 := fun i hi => s.r0 _ (List.mem_of_getElem? (some_d 0 (by rw [s.rl]; exact hi)))
theorem Shows.c1 (s : Shows M n m v rs cs) : sm m (fun j => cs.getD j 0) = 1 := by have := s.csum; rw [sumQ_sm, s.cl] at this; exact this
theorem Shows.r1 (s : Shows M n m v rs cs) : sm n (fun i => rs.getD i 0) = 1 := by have := s.rsum; rw [sumQ_sm, s.rl] at this; exact this
theorem sm_swap (x y : Nat → Rat) (A : Nat → Nat → Rat) : sm m (fun j => y j * sm n fun i => x i * A i j) = sm n (fun i => x i * sm m fun j => y j * A i j) := by
  rw [sm_congr (g := fun j => sm n fun i => y j * (x i * A i j)) fun j _ => (sm_mul _ _ _).symm, sm_comm, sm_congr fun i _ => ?_]
  rw [← sm_mul]
  exact sm_congr fun j _ => by grind
theorem wt_between {x y : Nat → Rat} {A : Nat → Nat → Rat} {L U : Rat} (x0 : ∀ i, i < n → 0 ≤ x i) (xs : sm n x = 1) (y0 : ∀ j, j < m → 0 ≤ y j) (ys : sm m y = 1)
    (h1 : ∀ j, j < m → L ≤ sm n fun i => x i * A i j) (h2 : ∀ i, i < n → (sm m fun j => y j * A i j) ≤ U) : L ≤ U := by
  have a : sm m (fun j => y j * L) ≤ sm m (fun j => y j * sm n fun i => x i * A i j) := sm_le fun j hj => Rat.mul_le_mul_of_nonneg_left (h1 j hj) (y0 j hj)
  have b : sm n (fun i => x i * sm m fun j => y j * A i j) ≤ sm n (fun i => x i * U) := sm_le fun i hi => Rat.mul_le_mul_of_nonneg_left (h2 i hi) (x0 i hi)
  rw [sm_mul_r, ys, Rat.one_mul, sm_swap] at a
  rw [sm_mul_r, xs, Rat.one_mul] at b
  exact Rat.le_trans a b
/-- weights that show a value from both sides -/
theorem val_of (mat : Mat n m M) {x y : Nat → Rat} {V : Rat} (x0 : ∀ i, i < n → 0 ≤ x i) (xs : sm n x = 1) (y0 : ∀ j, j < m → 0 ≤ y j) (ys : sm m y = 1)
    (h1 : ∀ j, j < m → V ≤ sm n fun i => x i * ent M i j) (h2 : ∀ i, i < n → (sm m fun j => y j * ent M i j) ≤ V) (s : Shows M n m v rs cs) : v = V :=
  Rat.le_antisymm (wt_between s.rn s.r1 y0 ys (fun j hj => s.colS mat hj) h2) (wt_between x0 xs s.cn s.c1 h1 fun i hi => s.rowS mat hi)
end
/-! ### matrices by their entries -/
def mk (n m : Nat) (f : Nat → Nat → Rat) : List (List Rat) := (List.range n).map fun i => (List.range m).map fun j => f i j
theorem mk_mat {n m : Nat} (f : Nat → Nat → Rat) (hn : 0 < n) (hm : 0 < m) : Mat n m (mk n m f) := by
  refine ⟨by simp [mk], fun r hr => ?_, hn, hm⟩
  obtain ⟨i, _, rfl⟩ := List.mem_map.mp hr
  simp
theorem mk_ent {n m : Nat} (f : Nat → Nat → Rat) {i j : Nat} (hi : i < n) (hj : j < m) : ent (mk n m f) i j = f i j := by
  unfold ent mk
  rw [getD_range, if_pos hi, getD_range, if_pos hj]
/-! ### one row, one column -/
theorem one_sm {f : Nat → Rat} : sm 1 f = f 0 := by
  show 0 + f 0 = f 0
  grind
theorem unit_sm {m k : Nat} (hk : k < m) (g : Nat → Rat) : (sm m fun j => (if j = k then (1 : Rat) else 0) * g j) = g k := by
  rw [sm_one hk fun i _ ne => by rw [if_neg ne, Rat.zero_mul]]
  rw [if_pos rfl, Rat.one_mul]
theorem unit_one {m k : Nat} (hk : k < m) : (sm m fun j => (if j = k then (1 : Rat) else 0)) = 1 := by
  rw [sm_one hk fun i _ ne => by rw [if_neg ne]]
  rw [if_pos rfl]
theorem unit_nn {m k : Nat} : ∀ j, j < m → (0 : Rat) ≤ (if j = k then (1 : Rat) else 0) := fun j _ => by split <;> grind
theorem row_val {M : List (List Rat)} {m k : Nat} {L v : Rat} {rs cs : List Rat} (mat : Mat 1 m M) (hk : k < m) (e : ent M 0 k = L) (h : ∀ j, j < m → L ≤ ent M 0 j) (s : Shows M 1 m v rs cs) : v = L := by
  refine val_of mat (x := fun _ => 1) (y := fun j => if j = k then 1 else 0) (fun _ _ => by grind) (by rw [one_sm]) unit_nn (unit_one hk) (fun j hj => ?_) (fun i hi => ?_) s
  · rw [one_sm, Rat.one_mul]; exact h j hj
  · rw [unit_sm hk, show i = 0 from by omega, e]; grind
theorem column_val {M : List (List Rat)} {n k : Nat} {U v : Rat} {rs cs : List Rat} (mat : Mat n 1 M) (hk : k < n) (e : ent M k 0 = U) (h : ∀ i, i < n → ent M i 0 ≤ U) (s : Shows M n 1 v rs cs) : v = U := by
  refine val_of mat (x := fun j => if j = k then 1 else 0) (y := fun _ => 1) unit_nn (unit_one hk) (fun _ _ => by grind) (by rw [one_sm]) (fun j hj => ?_) (fun i hi => ?_) s
  · rw [unit_sm hk, show j = 0 from by omega, e]; grind
  · rw [one_sm, Rat.one_mul]; exact h i hi
/-! ### a diagonal above the rest -/
theorem diag_sm {n j : Nat} (hj : j < n) {x : Nat → Rat} (xs : sm n x = 1) (b dj : Rat) : (sm n fun i => x i * (if i = j then dj else b)) = b + x j * (dj - b) := by
  rw [sm_congr (g := fun i => x i * b + (if i = j then x i * (dj - b) else 0)) fun i _ => by split <;> grind, sm_add, sm_mul_r, xs]
  rw [sm_one hj (f := fun i => if i = j then x i * (dj - b) else 0) fun i _ ne => if_neg ne, if_pos rfl]
  grind
theorem diag_val {n : Nat} {b : Rat} {d : Nat → Rat} {v : Rat} {rs cs : List Rat} (n0 : 0 < n) (h : ∀ i, i < n → b < d i) {S : Rat} (hS : S = sm n fun i => 1 / (d i - b))
    (s : Shows (mk n n fun i j => if i = j then d i else b) n n v rs cs) : v = b + 1 / S := by
  have each : ∀ i, i < n → 0 < 1 / (d i - b) := fun i hi => by
    have := h i hi
    have p : 0 < d i - b := by grind
    have := Rat.inv_pos.mpr p
    grind
  have Sp : 0 < S := by
    have := sm_ge (fun i hi => Rat.le_of_lt (each i hi)) n0
    have := each 0 n0
    grind
  have Sne : S ≠ 0 := by grind
  have xs : (sm n fun i => 1 / (d i - b) / S) = 1 := by
    rw [sm_congr (g := fun i => 1 / (d i - b) * S⁻¹) fun i _ => by grind, sm_mul_r, ← hS]
    exact Rat.mul_inv_cancel _ Sne
  have x0 : ∀ i, i < n → (0 : Rat) ≤ 1 / (d i - b) / S := fun i hi => by
    have h1 := each i hi
    have h2 := Rat.inv_pos.mpr Sp
    have := Rat.mul_nonneg (Rat.le_of_lt h1) (Rat.le_of_lt h2)
    grind
  have key : ∀ j, j < n → 1 / (d j - b) / S * (d j - b) = 1 / S := fun j hj => by
    have := h j hj
    have p : d j - b ≠ 0 := by grind
    have q : (d j - b)⁻¹ * (d j - b) = 1 := by rw [Rat.mul_comm]; exact Rat.mul_inv_cancel _ p
    generalize d j - b = z at *
    have e : 1 / z / S * z = z⁻¹ * z * S⁻¹ := by grind
    rw [e, q]; grind
  refine val_of (mk_mat _ n0 n0) x0 xs x0 xs (fun j hj => ?_) (fun i hi => ?_) s
  · rw [sm_congr (g := fun i => 1 / (d i - b) / S * (if i = j then d j else b)) fun i hi => by
      rw [mk_ent _ hi hj]
      by_cases e : i = j
      · rw [if_pos e, if_pos e, e]
      · rw [if_neg e, if_neg e], diag_sm hj xs, key j hj]
    grind
  · rw [sm_congr (g := fun j => 1 / (d j - b) / S * (if j = i then d i else b)) fun j hj => by
      rw [mk_ent _ hi hj]
      by_cases e : i = j
      · rw [if_pos e, if_pos e.symm]
      · rw [if_neg e, if_neg fun z => e z.symm], diag_sm hi xs, key i hi]
    grind
/-! ### rounds -/
def rnd (n : Nat) (b : Rat) (i j : Nat) : Rat := if i = j then 50 else if ((j : Int) - (i : Int)) % (n : Int) % 2 = 1 then 50 + b else 50 - b
theorem rnd_val {n : Nat} (hn : n = 3 ∨ n = 5 ∨ n = 7) {b v : Rat} {rs cs : List Rat} (s : Shows (mk n n (rnd n b)) n n v rs cs) : v = 50 := by
  have n0 : 0 < n := by omega
  have nr : (n : Rat) ≠ 0 := by
    have : (n : Rat) ≠ ((0 : Nat) : Rat) := fun e => by
      have := Rat.natCast_inj.mp e
      omega
    exact this
  have cols : ∀ j, j < n → (sm n fun i => rnd n b i j) = 50 * n := fun j hj => by
    rcases hn with z | z | z <;> subst z
    · have : j = 0 ∨ j = 1 ∨ j = 2 := by omega
      rcases this with z | z | z <;> subst z <;> simp [sm, rnd] <;> grind
    · have : j = 0 ∨ j = 1 ∨ j = 2 ∨ j = 3 ∨ j = 4 := by omega
      rcases this with z | z | z | z | z <;> subst z <;> simp [sm, rnd] <;> grind
    · have : j = 0 ∨ j = 1 ∨ j = 2 ∨ j = 3 ∨ j = 4 ∨ j = 5 ∨ j = 6 := by omega
      rcases this with z | z | z | z | z | z | z <;> subst z <;> simp [sm, rnd] <;> grind
  have rows : ∀ i, i < n → (sm n fun j => rnd n b i j) = 50 * n := fun i hi => by
    rcases hn with z | z | z <;> subst z
    · have : i = 0 ∨ i = 1 ∨ i = 2 := by omega
      rcases this with z | z | z <;> subst z <;> simp [sm, rnd] <;> grind
    · have : i = 0 ∨ i = 1 ∨ i = 2 ∨ i = 3 ∨ i = 4 := by omega
      rcases this with z | z | z | z | z <;> subst z <;> simp [sm, rnd] <;> grind
    · have : i = 0 ∨ i = 1 ∨ i = 2 ∨ i = 3 ∨ i = 4 ∨ i = 5 ∨ i = 6 := by omega
      rcases this with z | z | z | z | z | z | z <;> subst z <;> simp [sm, rnd] <;> grind
  have ones : (sm n fun _ => (1 : Rat)) = n := by
    rcases hn with z | z | z <;> subst z <;> simp [sm] <;> grind
  have u0 : (0 : Rat) ≤ 1 / (n : Rat) := by
    have := Rat.inv_pos.mpr (Rat.natCast_pos.mpr n0)
    grind
  have us : (sm n fun _ => 1 / (n : Rat)) = 1 := by
    rw [sm_congr (g := fun _ => 1 / (n : Rat) * 1) fun _ _ => by grind, sm_mul, ones]
    grind
  have fin : 1 / (n : Rat) * (50 * n) = 50 := by grind
  refine val_of (mk_mat _ n0 n0) (fun _ _ => u0) us (fun _ _ => u0) us (fun j hj => ?_) (fun i hi => ?_) s
  · rw [sm_congr (g := fun i => 1 / (n : Rat) * rnd n b i j) fun i hi => by rw [mk_ent _ hi hj], sm_mul, cols j hj, fin]
    grind
  · rw [sm_congr (g := fun j => 1 / (n : Rat) * rnd n b i j) fun j hj => by rw [mk_ent _ hi hj], sm_mul, rows i hi, fin]
    grind
/-! ### a column more that is worse; all turned -/
theorem worse_val {M W : List (List Rat)} {n m k : Nat} {v v' : Rat} {rs cs rs' cs' : List Rat} (mat : Mat n m M) (matW : Mat n (m + 1) W) (hk : k < m) (e : ∀ i j, i < n → j < m → ent W i j = ent M i j) (g : ∀ i, i < n → ent M i k ≤ ent W i m)
    (s : Shows M n m v rs cs) (s' : Shows W n (m + 1) v' rs' cs') : v' = v := by
  refine val_of matW (x := fun i => rs.getD i 0) (y := fun j => if j < m then cs.getD j 0 else 0) s.rn s.r1 (fun j _ => ?_) ?_ (fun j hj => ?_) (fun i hi => ?_) s'
  · by_cases h : j < m
    · rw [if_pos h]; exact s.cn j h
    · rw [if_neg h]; grind
  · show sm m _ + (if m < m then cs.getD m 0 else 0) = 1
    rw [sm_congr (g := fun j => cs.getD j 0) fun j hj => if_pos hj, s.c1, if_neg (Nat.lt_irrefl m)]; grind
  · by_cases h : j < m
    · rw [sm_congr (g := fun i => rs.getD i 0 * ent M i j) fun i hi => by rw [e i j hi h]]
      exact s.colS mat h
    · have ej : j = m := by omega
      rw [ej]
      exact Rat.le_trans (s.colS mat hk) (sm_le fun i hi => Rat.mul_le_mul_of_nonneg_left (g i hi) (s.rn i hi))
  · show sm m _ + (if m < m then cs.getD m 0 else 0) * ent W i m ≤ v
    rw [sm_congr (g := fun j => cs.getD j 0 * ent M i j) fun j hj => by rw [if_pos hj, e i j hi hj], if_neg (Nat.lt_irrefl m)]
    have := s.rowS mat hi
    grind
theorem turned_val {M W : List (List Rat)} {n m : Nat} {v v' c : Rat} {rs cs rs' cs' : List Rat} (mat : Mat n m M) (matW : Mat m n W) (e : ∀ i j, i < n → j < m → ent W j i = c - ent M i j)
    (s : Shows M n m v rs cs) (s' : Shows W m n v' rs' cs') : v' = c - v := by
  refine val_of matW (x := fun j => cs.getD j 0) (y := fun i => rs.getD i 0) s.cn s.c1 s.rn s.r1 (fun i hi => ?_) (fun j hj => ?_) s'
  · rw [sm_congr (g := fun j => cs.getD j 0 * c - cs.getD j 0 * ent M i j) fun j hj => by rw [e i j hi hj]; grind, sm_sub, sm_mul_r, s.c1]
    have := s.rowS mat hi
    grind
  · rw [sm_congr (g := fun i => rs.getD i 0 * c - rs.getD i 0 * ent M i j) fun i hi => by rw [e i j hi hj]; grind, sm_sub, sm_mul_r, s.r1]
    have := s.colS mat hj
    grind
end Sx
end
section
set_option Elab.async false
set_option linter.all false
set_option maxRecDepth 100000
set_option maxHeartbeats 4000000
/-! Defs that are called where nothing is being shown: repr of a fraction, of a bool. -/
namespace Mx
open PySem L2 Evl Fra PyProof.Rows
open Sx (Mat ent Told Shows)
/-- a def's promise where no repr is under way -/
structure GnOk (P : Program) (w : World) (K : PySem.W.Frag) (mg : Str → Option Value) (base : Heap) (k : Nat) (f : Addr) (fd : FuncData) (ps : List Str) (sp : Sp) : Prop where
  len : ∀ vs H Q E, sp vs H Q E → vs.length = ps.length
  run : ∀ (A : Around) (outer : List Env) (s : Shared) (H : Hp) (args : Args) (us : List Value) (vs : List V) (Q : VK) (E : XK), A.guards = some [] → Room k A → Env0 P w K mg base A outer s H →
    BindsTo s fd args (ps.zip us) → Vals vs us → sp vs H Q E → codeAny (model P w) A (.call (.ref f) args) (CR CX0 outer P w H s Q E) s
structure FnG (P : Program) (w : World) (K : PySem.W.Frag) (mg : Str → Option Value) (base : Heap) (x : Str) (ps : List Str) (k : Nat) (sp : Sp) : Prop where
  ok : ∃ (f : Addr) (fd : FuncData), GnOk P w K mg base k f fd ps sp ∧ Binds K fd ps [] ∧ mg x = some (.ref f) ∧ PySem.W.keepIn K (.ref f) = true
theorem gn_of {P : Program} {w : World} {K : PySem.W.Frag} {mg : Str → Option Value} {base : Heap} {x qual : Str} {st : Stmt} {f : Addr} {fd : FuncData} {N ps : List Str} {k : Nat} {sp : Sp} (F : Fun K x qual st f fd) (S : FnScope N ps (defScope st)) (len : ∀ vs H Q E, sp vs H Q E → vs.length = ps.length)
    (hbody : ∀ (cdv : Value) (A : Around) (outer : List Env) (s : Shared) (H : Hp) (vs : List V) (Q : VK) (E : XK), A.guards = some [] → Room k (A.deeper (envOfC qual (defScope st) s.heap.objs.size f cdv)) → sp vs H Q E →
      ∃ t, PSs (cxOf CX0 P w K mg base N qual (defScope st) f cdv A outer s H E).nox (defBody st) t ∧ t { nx := fun _ H' => Q .non H', rt := Q } (start N vs) H) : GnOk P w K mg base (k + 1) f fd ps sp := by
  obtain ⟨oc, od, kV, doc, pm, an, cdv, ct, osl, rfl, lk, hcd⟩ := F.ex
  refine ⟨len, fun A out s H args us vs Q E gd room e0 bnd rel hsp => ?_⟩
  have inK : K.In s.heap := e0.mod.kin.keeps fun c o' e => (e0.bs c o' e).1
  have nol : s.heap.NoLimit := e0.mod.nolimit.keeps fun c o' e => (e0.bs c o' e).1
  have kinds : ∀ y ∈ ps.zip us, (defScope st).names.lookup y.1 = some .local ∨ ((defScope st).names.lookup y.1 = some .cell ∧ ((cellsFrom (s.heap.objs.size + 1) (defScope st).names []).lookup y.1).isSome = true) := by
    rintro ⟨nm, v⟩ hy
    rcases S.par nm (List.of_mem_zip hy).1 with lo | ce
    · exact Or.inl lo
    · exact Or.inr ⟨ce, PySem.W.cellsFrom_some _ _ _ (Or.inl ce)⟩
  apply codeAny_call_function room.depth (inK _ _ lk) rfl S.co S.gen rfl (PySem.W.codeRec_of inK hcd)
  apply bnd
  apply wpAny_newFunctionEnv_cells S.kind kinds
  intro env eenv s1 inc
  subst eenv
  refine ⟨nol.keeps inc.toInCall.keep, ?_⟩
  apply codeAny_func
  obtain ⟨t, ht, hq⟩ := hbody cdv A out s H vs Q E gd (room.deeper _) hsp
  have J0 : Inv (cxOf CX0 P w K mg base N qual (defScope st) f cdv A out s H E) [] (start N vs) H s1 := inv_start S room.hd e0 (len _ _ _ _ hsp) rel inc
  refine wpAny_mono (ht.nox.run [] s1 (start N vs) H _ J0 hq) (fun fl s' got => ?_) fun e s' bad => bad
  cases fl with
  | ret u =>
    obtain ⟨v, σ', H', J, rv, q⟩ := got
    exact ⟨v, H', J.os, J.bare, J.base, J.hok, rv, q⟩
  | next =>
    obtain ⟨σ', H', J, q⟩ := got
    exact ⟨V.non, H', J.os, J.bare, J.base, J.hok, rfl, q⟩
  | brk =>
    obtain ⟨_, _, _, no⟩ := got
    exact no.elim
  | cont =>
    obtain ⟨_, _, _, no⟩ := got
    exact no.elim
theorem Dn.fnG {P : Program} {w : World} {K : PySem.W.Frag} {mg : Str → Option Value} {base : Heap} {x : Str} {st : Stmt} {N ps : List Str} {k : Nat} {sp : Sp} (F : Dn K mg x st ps) (S : FnScope N ps (defScope st)) (len : ∀ vs H Q E, sp vs H Q E → vs.length = ps.length)
    (hbody : ∀ (f : Addr) (cdv : Value) (A : Around) (outer : List Env) (s : Shared) (H : Hp) (vs : List V) (Q : VK) (E : XK), A.guards = some [] → Room k (A.deeper (envOfC x (defScope st) s.heap.objs.size f cdv)) → sp vs H Q E →
      ∃ t, PSs (cxOf CX0 P w K mg base N x (defScope st) f cdv A outer s H E).nox (defBody st) t ∧ t { nx := fun _ H' => Q .non H', rt := Q } (start N vs) H) : FnG P w K mg base x ps (k + 1) sp := by
  obtain ⟨f, fd, F, b, g⟩ := F.ok
  exact ⟨f, fd, gn_of F S len (fun cdv A outer s H vs Q E hg hr h => hbody f cdv A outer s H vs Q E hg hr h), b, g, F.kp⟩
section
variable {X : Cx} {x : Str} {ps : List Str} {k : Nat} {sp : Sp} {p pos : Pos} {e : Expr} {es : List Expr} {t : TA}
/-- the call of such a def -/
theorem pe_fnG (G : FnG X.prog X.w X.K X.mg X.base x ps k sp) (hg0 : X.A.guards = some []) (hr : Room k X.A) (ha : PA X (e :: es) t) (hg : Gl X x := by rfl)
    (hdb : (x == ("__debug__" : Str)) = false := by decide) (he : starEach (e :: es) X.env = (false, eval e X.env) :: starEach es X.env := by rfl) (hpl : (backTo pos (starEach es X.env)).any (·.1) = false := by rfl) :
    PE X (.Call (.Name x p) (e :: es) [] pos) (tCall sp [] E0 t) := by
  obtain ⟨f, fd, F, b, g, kp⟩ := G.ok
  constructor
  intro pins s σ H Q I h
  apply wpAny_Call_Name_kw
  refine ld_glob I hg g ?_ hdb
  refine PySem.W.callWith_K (h₀ := X.base) I.ok.mod.kin kp (thn (ha.run pos pins s σ H _ I h) fun us s1 got => ?_) he hpl
  obtain ⟨vs, H1, I1, r, q⟩ := got
  refine ⟨I1.kIn, ?_⟩
  rw [List.append_nil] at q
  have hl : us.length = ps.length := by rw [← r.length]; exact F.len _ _ _ _ q
  have bnd : BindsTo s1 fd ⟨us, []⟩ (ps.zip us) := by
    have z := b s1 us I1.kIn (by rw [List.append_nil]; exact hl)
    rwa [List.append_nil] at z
  refine wpAny_call (codeAny_mono (F.run X.A X.stack s1 H1 ⟨us, []⟩ us vs Q E0 hg0 hr I1.env0 bnd r q) ?_)
  intro res s' hq
  cases res with
  | error e => exact pass0 pins σ H1 s1 e s' I1 hq
  | ok fl =>
    cases fl with
    | ret u => exact I1.after hq
    | next => exact hq.elim
    | brk => exact hq.elim
    | cont => exact hq.elim
/-- what repr says of a fraction -/
def frText (q : Rat) : Str := (PyData.tuple [.int q.num, .int q.den]).shown
def blText (b : Bool) : Str := if b then "True" else "False"
theorem log_of {n : Nat} (h : n < 2 ^ 1900) : n.log2 < 1920 := by
  by_cases z : n = 0
  · subst z; decide
  · exact Nat.lt_trans ((Nat.log2_lt z).mpr h) (by decide)
theorem frText_len {q : Rat} (h : Bits q 1900) : (frText q).length ≤ sizeLine := by
  have h1 := int_text_len_1921 (log_of h.1)
  have h2 := int_text_len_1921 (i := (q.den : Int)) (log_of h.2)
  have e : frText q = tupleText [PySem.Str.ofString (toString q.num), PySem.Str.ofString (toString (q.den : Int))] := rfl
  rw [e]
  have h3 := fmt_text [PySem.Str.ofString (toString q.num), PySem.Str.ofString (toString (q.den : Int))]
  rw [piled_cons, piled_cons, piled_nil] at h3
  rw [sizeLine_eq]
  omega
def rRepF (K : PySem.W.Frag) : List V → Hp → VK → Prop := fun xs H Q => (∃ v q, xs = [v] ∧ FrV K H v q ∧ Bits q 1900 ∧ Q (.str (frText q)) H) ∨ ∃ b, xs = [.bl b] ∧ Q (.str (blText b)) H
theorem call_repr_F (hg0 : X.A.guards = some []) (hu : X.A.units + 64 < cLine) : CallR X (.builtin "repr") (rRepF X.K) := by
  intro pins s σ H xs us Q I r h
  rcases h with ⟨v, q, rfl, fv, hb, hq⟩ | ⟨b, rfl, hq⟩
  · obtain ⟨u, rfl, rx⟩ := vals1 r
    obtain ⟨as, rd⟩ := Dp.reads I _ _ _ fv.dp rx
    obtain ⟨a, rfl, _⟩ := fv
    cases rx
    have hs : (PyData.tuple [.int q.num, .int q.den]).showable = true := by
      simp only [PyData.showable, PyData.showableAll, Bool.and_true, Bool.and_eq_true, decide_eq_true_eq]
      exact ⟨log_of hb.1, log_of hb.2⟩
    have hd : (PyData.tuple [.int q.num, .int q.den]).depth ≤ 10 := by
      simp [PyData.depth, PyData.depthAll]
    refine repr_of_reads' rd hs (fun z => by simp [PyData.hasDict, PyData.hasDictAll] at z) hg0 (by omega) (fun _ _ e => e) (fun h' u tk keep => ?_) (frText_len hb)
    exact ⟨.str _, H, I.kept keep, ⟨_, rfl⟩, hq⟩
  · obtain ⟨u, rfl, rx⟩ := vals1 r
    cases (show u = Value.bool b from rx)
    exact PySem.P.repr_of_bool ⟨.str _, H, I.tok _, ⟨_, rfl⟩, hq⟩
end
end Mx
end
section
set_option Elab.async false
set_option linter.all false
set_option maxRecDepth 100000
set_option maxHeartbeats 4000000
/-! Matrices that the law asks of. -/
namespace Mx
open Fra
open Sx (Mat ent Told Shows)
theorem good_of {M : List (List Rat)} {n m d e : Nat} (mat : Mat n m M) (size : n * m ≤ 64) (num : ∀ row ∈ M, ∀ q ∈ row, Num q) (d0 : 0 < d) (dl : d ≤ 2 ^ e)
    (h : ∀ i j, i < n → j < m → ∃ u : Int, (ent M i j + 1) * (d : Rat) = (u : Rat) ∧ u.natAbs ≤ 2 ^ e) (g : Sx.grown e (min n m) ≤ 2047) : Good M n m := by
  have pos : ∀ i j, i < n → j < m → 0 ≤ ent M i j := fun i j hi hj => by
    have e1 : M[i]? = some (M.getD i []) := some_getD (by rw [mat.rows]; exact hi)
    have e2 : (M.getD i [])[j]? = some ((M.getD i []).getD j 0) := some_getD (by rw [mat.row hi]; exact hj)
    exact (num _ (List.mem_of_getElem? e1) _ (List.mem_of_getElem? e2)).1
  have F := mat.first pos
  have one : ∃ u : Int, (1 : Rat) * (d : Rat) = (u : Rat) ∧ u.natAbs ≤ 2 ^ e := ⟨(d : Int), by rw [Rat.one_mul, Rat.intCast_natCast], by rw [Int.natAbs_natCast]; exact dl⟩
  have zero : ∃ u : Int, (0 : Rat) * (d : Rat) = (u : Rat) ∧ u.natAbs ≤ 2 ^ e := ⟨0, by rw [Rat.zero_mul]; rfl, Nat.zero_le _⟩
  refine ⟨mat, size, fun r hr q hq => num r hr q hq, e, ⟨d, d0, dl, fun i j hi hj => ?_⟩, g⟩
  have hj : j ≤ m + n := hj
  by_cases hin : i < n
  · by_cases hjm : j < m
    · rw [F.a i j hin hjm]; exact h i j hin hjm
    · by_cases hl : j = m + n
      · rw [hl, F.rhs i hin]; exact one
      · obtain ⟨k, rfl⟩ : ∃ k, j = m + k := ⟨j - m, by omega⟩
        rw [F.unit i k hi (by omega)]
        split
        · exact one
        · exact zero
  · have ei : i = n := by omega
    subst ei
    by_cases hjm : j < m
    · rw [F.low j hjm]
      exact ⟨-(d : Int), by rw [Rat.intCast_neg, Rat.intCast_natCast]; grind, by rw [Int.natAbs_neg, Int.natAbs_natCast]; exact dl⟩
    · by_cases hl : j = m + i
      · rw [hl, F.end_]; exact zero
      · obtain ⟨k, rfl⟩ : ∃ k, j = m + k := ⟨j - m, by omega⟩
        rw [F.unit i k hi (by omega)]
        split
        · exact one
        · exact zero
theorem mem_ent {M : List (List Rat)} {n m : Nat} (mat : Mat n m M) {p : Rat → Prop} (h : ∀ i j, i < n → j < m → p (ent M i j)) : ∀ row ∈ M, ∀ q ∈ row, p q := fun row hr q hq => by
  obtain ⟨i, hi, e⟩ := List.getElem_of_mem hr
  obtain ⟨j, hj, e2⟩ := List.getElem_of_mem hq
  have l := mat.each row hr
  have r := mat.rows
  have := h i j (by omega) (by omega)
  have e3 : M.getD i [] = row := by rw [List.getD_eq_getElem?_getD, List.getElem?_eq_getElem hi, e]; rfl
  unfold ent at this
  rw [e3, List.getD_eq_getElem?_getD, List.getElem?_eq_getElem hj, e2] at this
  exact this
theorem good_num {M : List (List Rat)} {n m : Nat} (mat : Mat n m M) (size : n * m ≤ 64) (num : ∀ row ∈ M, ∀ q ∈ row, Num q) (two : min n m ≤ 2) : Good M n m := by
  refine good_of (d := 42) (e := 13) mat size num (by decide) (by decide) (fun i j hi hj => ?_) (Nat.le_trans (Sx.grown_le two) (by decide))
  have e1 : M[i]? = some (M.getD i []) := some_getD (by rw [mat.rows]; exact hi)
  have e2 : (M.getD i [])[j]? = some ((M.getD i []).getD j 0) := some_getD (by rw [mat.row hi]; exact hj)
  obtain ⟨u, hu, hb⟩ := (num _ (List.mem_of_getElem? e1) _ (List.mem_of_getElem? e2)).2.2
  refine ⟨u + 42, ?_, by have : 2 ^ 13 = 8192 := rfl; omega⟩
  rw [Rat.intCast_add, ← hu]
  show (ent M i j + 1) * 42 = ent M i j * 42 + 42
  grind
theorem num_nat {k : Nat} (h : k ≤ 100) : Num (k : Rat) := by
  refine ⟨Rat.natCast_nonneg, ?_, (k : Int) * 42, ?_, by omega⟩
  · have : (k : Rat) ≤ ((100 : Nat) : Rat) := Rat.natCast_le_natCast.mpr h
    exact this
  · rw [Rat.intCast_mul, Rat.intCast_natCast]; rfl
theorem good_whole {M : List (List Rat)} {n m : Nat} (mat : Mat n m M) (size : n * m ≤ 64) (eight : min n m ≤ 8) (h : ∀ i j, i < n → j < m → ∃ k : Nat, ent M i j = (k : Rat) ∧ k ≤ 100) : Good M n m := by
  refine good_of (d := 1) (e := 7) mat size (mem_ent mat fun i j hi hj => ?_) (by decide) (by decide) (fun i j hi hj => ?_) (Nat.le_trans (Sx.grown_le eight) (by decide))
  · obtain ⟨k, e, hk⟩ := h i j hi hj
    rw [e]; exact num_nat hk
  · obtain ⟨k, e, hk⟩ := h i j hi hj
    refine ⟨(k : Int) + 1, ?_, by have : 2 ^ 7 = 128 := rfl; omega⟩
    rw [e, Rat.intCast_add, Rat.intCast_natCast]
    show ((k : Rat) + 1) * 1 = (k : Rat) + 1
    grind
/-- the value is none below nothing -/
theorem val_nonneg {M : List (List Rat)} {n m : Nat} (g : Good M n m) {v : Rat} {rs cs : List Rat} (s : Shows M n m v rs cs) : 0 ≤ v :=
  Rat.le_trans (Sx.sm_nonneg fun j hj => Rat.mul_nonneg (s.cn j hj) (g.pos 0 j g.mat.n0 hj)) (s.rowS g.mat g.mat.n0)
theorem cols_mat {M : List (List Rat)} {n m : Nat} (mat : Mat n m M) : Mat m n (colsOf M m) := by
  refine ⟨by simp [colsOf], fun r hr => ?_, mat.m0, mat.n0⟩
  obtain ⟨j, _, rfl⟩ := List.mem_map.mp hr
  rw [List.length_map]; exact mat.rows
theorem cols_ent {M : List (List Rat)} {n m i j : Nat} (hj : j < m) : ent (colsOf M m) j i = ent M i j := by
  unfold colsOf
  show (((List.range m).map fun j => M.map (·.getD j 0)).getD j []).getD i 0 = _
  rw [Sx.getD_range, if_pos hj]
  exact Sx.ent_col M i j
theorem row_isVal {row : List Rat} {m : Nat} {L : Rat} (l : row.length = m) (m0 : 0 < m) (hm : L ∈ row) (h : ∀ q ∈ row, L ≤ q) : IsVal [row] 1 m L := fun v rs cs s => by
  obtain ⟨k, hk, e⟩ := List.getElem_of_mem hm
  have at_ : ∀ j, (hj : j < row.length) → ent [row] 0 j = row[j] := fun j hj => by
    show row.getD j 0 = _
    rw [List.getD_eq_getElem?_getD, List.getElem?_eq_getElem hj]; rfl
  exact Sx.row_val (k := k) ⟨rfl, fun r hr => by rw [List.mem_singleton] at hr; rw [hr]; exact l, by decide, m0⟩ (by omega) (by rw [at_ k hk, e]) (fun j hj => by rw [at_ j (by omega)]; exact h _ (List.getElem_mem _)) s
theorem row_mat {row : List Rat} {m : Nat} (l : row.length = m) (m0 : 0 < m) : Mat 1 m [row] := ⟨rfl, fun r hr => by rw [List.mem_singleton] at hr; rw [hr]; exact l, by decide, m0⟩
theorem column_isVal {row : List Rat} {m : Nat} {U : Rat} (l : row.length = m) (m0 : 0 < m) (hm : U ∈ row) (h : ∀ q ∈ row, q ≤ U) : IsVal (colsOf [row] m) m 1 U := fun v rs cs s => by
  obtain ⟨k, hk, e⟩ := List.getElem_of_mem hm
  have at_ : ∀ j, (hj : j < row.length) → ent (colsOf [row] m) j 0 = row[j] := fun j hj => by
    rw [cols_ent (n := 1) (by omega)]
    show row.getD j 0 = _
    rw [List.getD_eq_getElem?_getD, List.getElem?_eq_getElem hj]; rfl
  exact Sx.column_val (k := k) (cols_mat (row_mat l m0)) (by omega) (by rw [at_ k hk, e]) (fun j hj => by rw [at_ j (by omega)]; exact h _ (List.getElem_mem _)) s
end Mx
end
section
set_option Elab.async false
set_option linter.all false
set_option maxRecDepth 100000
set_option maxHeartbeats 4000000
/-! _law_is_right. -/
namespace Mx
open PySem L2 Evl Fra
open Sx (Mat ent Told Shows)
abbrev sIsRight : Stmt := top 50
def spIsRight (K : PySem.W.Frag) : Sp := fun vs H Q _ => ∃ (p : Addr) (m0 u : V) (H0 : Hp) (t n m : Nat) (M : List (List Rat)) (value : Rat), vs = [.ref p, m0, u] ∧ PoV H0 H p t ∧ MaV K H m0 M ∧ Good M n m ∧ FrV K H u value ∧ IsVal M n m value ∧ Bits value 1000 ∧ t + 4 < 100000 ∧
  ∀ H', PoV H0 H' p (t + 4) → Q (.bl true) H'
def rIsB : R2 := fun x y H Q => ∃ a b, x = .bl a ∧ y = .bl b ∧ Q (.bl (decide (a = b))) H
def rIsNB : R2 := fun x y H Q => ∃ a b, x = .bl a ∧ y = .bl b ∧ Q (.bl (!decide (a = b))) H
/-- the shares of one side -/
def sel (d : Nat) (x : Rat × List Rat × List Rat) : List Rat := if d = 0 then x.2.1 else x.2.2
def bend (d : Nat) (x : Rat × List Rat × List Rat) (qs : List Rat) : Rat × List Rat × List Rat := if d = 0 then (x.1, qs, x.2.2) else (x.1, x.2.1, qs)
section
variable {K : PySem.W.Frag} {σ : L2.St} {H : Hp} {ta tb tE : TE}
theorem et_neSame {v : V} (hs : scal v v = true) (h1 : Ev ta σ H v) (h2 : Ev tb σ H v) : EvT (tTest (tOp rNe ta tb)) σ H false := fun H1 e Q k =>
  h1 H1 e _ fun H2 e2 => h2 H2 (e.trans e2) _ fun H3 e3 => ⟨hs, _, rfl, by rw [decide_eq_true rfl]; exact k H3 (e2.trans e3)⟩
theorem et_isNB {a b : Bool} (h1 : Ev ta σ H (.bl a)) : EvT (tTest (tOp rIsNB ta (tC (.bl b)))) σ H (!decide (a = b)) := fun H1 e Q k =>
  h1 H1 e _ fun H2 e2 => ⟨a, b, rfl, rfl, _, rfl, k H2 e2⟩
theorem ev_rep {q : Rat} (h1 : Gv ta σ H (fun v H' => FrV K H' v q)) (hb : Bits q 1900) : Ev (tCB (rRepF K) (tCons ta tNil)) σ H (.str (frText q)) := fun H1 e Q k =>
  h1 H1 e _ fun v H2 e2 f => .inl ⟨v, q, rfl, f, hb, k H2 e2⟩
theorem ev_repB {b : Bool} (h1 : Ev ta σ H (.bl b)) : Ev (tCB (rRepF K) (tCons ta tNil)) σ H (.str (blText b)) := fun H1 e Q k =>
  h1 H1 e _ fun H2 e2 => .inr ⟨b, rfl, k H2 e2⟩
/-- told, but for one side's shares -/
theorem gv_bend {i j d : Nat} {v : V} {x : Rat × List Rat × List Rat} {qs : List Rat} (hi : σ[i]? = some (some v)) (hv : ToV K H v x) (hj : σ[j]? = some (some (.int (1 + (d : Int))))) (hd : d < 2) (hE : Gv tE σ H (fun v H' => RoV K H' v qs)) :
    Gv (tOp (rCatA K) (tOp (rCatA K) (tSl (rSlA K) (tVar i) tNoPart (tPart (tVar j))) (tTup (tCons tE tNil))) (tSl (rSlA K) (tVar i) (tPart (tOp (rI0 fun i j => .int (i + j)) (tVar j) (tC (.int 1)))) tNoPart)) σ H (fun v H' => ToV K H' v (bend d x qs)) := fun H1 e Q q => by
  obtain ⟨a, v0, v1, v2, rfl, ht, f0, r1, r2⟩ := hv
  have ht1 := ex_t e ht
  obtain rfl | rfl : d = 0 ∨ d = 1 := by omega
  · refine ⟨_, hi, _, hj, _, rfl, a, _, rfl, ht1, fun z => absurd z (by show ¬ (HT.sIx 3 0 none = 0 ∧ HT.sIx 3 3 (some 1) = 3); decide), fun _ b hb => ?_⟩
    have e2 := Ex.new (o := .tup [v0]) hb
    refine hE _ (e.trans e2) _ fun v H3 e3 hv => ⟨by show 1 ≤ sizeLine; decide, fun c hc => ?_⟩
    have e4 := Ex.new (o := .tup [v]) hc
    have hb3 : H3 b = some (.tup [v0]) := e3 _ _ upd_same
    refine ⟨b, c, _, _, rfl, rfl, st_of (e4 _ _ hb3), st_of upd_same, by show 2 ≤ sizeLine; decide, (fun z => by cases z), (fun _ z => by cases z), fun _ _ f hf => ?_⟩
    have e5 := Ex.new (o := .tup ([v0] ++ [v])) hf
    have eA := ((e2.trans e3).trans e4).trans e5
    refine ⟨_, hi, _, hj, _, _, rfl, rfl, _, rfl, a, _, rfl, ex_t eA ht1, fun z => absurd z (by show ¬ (HT.sIx 3 0 (some 2) = 0 ∧ HT.sIx 3 3 none = 3); decide), fun _ g hg => ?_⟩
    have e6 := Ex.new (o := .tup [v2]) hg
    refine ⟨f, g, _, _, rfl, rfl, st_of (e6 _ _ upd_same), st_of upd_same, by show 3 ≤ sizeLine; decide, (fun z => by cases z), (fun _ z => by cases z), fun _ _ l hl => ?_⟩
    have e7 := Ex.new (o := .tup ([v0] ++ [v] ++ [v2])) hl
    exact q _ _ ((eA.trans e6).trans e7) ⟨l, v0, v, v2, rfl, st_of upd_same, f0.mono (ExT.of (((e.trans eA).trans e6).trans e7)), RoV.mono (ExT.of (((e4.trans e5).trans e6).trans e7)) hv, RoV.mono (ExT.of (((e.trans eA).trans e6).trans e7)) r2⟩
  · refine ⟨_, hi, _, hj, _, rfl, a, _, rfl, ht1, fun z => absurd z (by show ¬ (HT.sIx 3 0 none = 0 ∧ HT.sIx 3 3 (some 2) = 3); decide), fun _ b hb => ?_⟩
    have e2 := Ex.new (o := .tup [v0, v1]) hb
    refine hE _ (e.trans e2) _ fun v H3 e3 hv => ⟨by show 1 ≤ sizeLine; decide, fun c hc => ?_⟩
    have e4 := Ex.new (o := .tup [v]) hc
    have hb3 : H3 b = some (.tup [v0, v1]) := e3 _ _ upd_same
    refine ⟨b, c, _, _, rfl, rfl, st_of (e4 _ _ hb3), st_of upd_same, by show 3 ≤ sizeLine; decide, (fun z => by cases z), (fun _ z => by cases z), fun _ _ f hf => ?_⟩
    have e5 := Ex.new (o := .tup ([v0, v1] ++ [v])) hf
    have eA := ((e2.trans e3).trans e4).trans e5
    refine ⟨_, hi, _, hj, _, _, rfl, rfl, _, rfl, a, _, rfl, ex_t eA ht1, fun z => absurd z (by show ¬ (HT.sIx 3 0 (some 3) = 0 ∧ HT.sIx 3 3 none = 3); decide), fun _ g hg => ?_⟩
    have e6 := Ex.new (o := .tup []) hg
    refine ⟨f, g, _, _, rfl, rfl, st_of (e6 _ _ upd_same), st_of upd_same, by show 3 ≤ sizeLine; decide, (fun z => by cases z), (fun _ _ => ?_), fun _ z => absurd rfl z⟩
    exact q _ _ (eA.trans e6) ⟨f, v0, v1, v, rfl, st_of (e6 _ _ upd_same), f0.mono (ExT.of ((e.trans eA).trans e6)), RoV.mono (ExT.of ((e.trans eA).trans e6)) r1, RoV.mono (ExT.of ((e4.trans e5).trans e6)) hv⟩
/-- another value, the shares as they are -/
theorem gv_other {i : Nat} {v : V} {x : Rat × List Rat × List Rat} {q' : Rat} (hi : σ[i]? = some (some v)) (hv : ToV K H v x) (hE : Gv tE σ H (fun v H' => FrV K H' v q')) :
    Gv (tOp (rCatA K) (tTup (tCons tE tNil)) (tSl (rSlA K) (tVar i) (tPart (tC (.int 1))) tNoPart)) σ H (fun v H' => ToV K H' v (q', x.2)) := fun H1 e Q q => by
  obtain ⟨a, v0, v1, v2, rfl, ht, f0, r1, r2⟩ := hv
  have ht1 := ex_t e ht
  refine hE _ e _ fun v H3 e3 hv => ⟨by show 1 ≤ sizeLine; decide, fun c hc => ?_⟩
  have e4 := Ex.new (o := .tup [v]) hc
  refine ⟨_, hi, _, rfl, a, _, rfl, ex_t (e3.trans e4) ht1, fun z => absurd z (by show ¬ (HT.sIx 3 0 (some 1) = 0 ∧ HT.sIx 3 3 none = 3); decide), fun _ g hg => ?_⟩
  have e6 := Ex.new (o := .tup [v1, v2]) hg
  refine ⟨c, g, _, _, rfl, rfl, st_of (e6 _ _ upd_same), st_of upd_same, by show 3 ≤ sizeLine; decide, (fun z => by cases z), (fun _ z => by cases z), fun _ _ l hl => ?_⟩
  have e7 := Ex.new (o := .tup ([v] ++ [v1, v2])) hl
  have eA := ((e3.trans e4).trans e6).trans e7
  exact q _ _ eA ⟨l, v, v1, v2, rfl, st_of upd_same, hv.mono (ExT.of ((e4.trans e6).trans e7)), RoV.mono (ExT.of (e.trans eA)) r1, RoV.mono (ExT.of (e.trans eA)) r2⟩
/-- all but the last -/
theorem gv_init {te : TE} {v : V} {qs : List Rat} {q0 : Rat} (he : Ev te σ H v) (hv : RoV K H v (qs ++ [q0])) :
    Gv (tSl (rSlA K) te tNoPart (tPart (tUn (rU fun i => .int (-i)) (tC (.int 1))))) σ H (fun v H' => RoV K H' v qs) := fun H1 e Q q => by
  obtain ⟨a, vs, rfl, ht, hp⟩ := hv
  obtain ⟨l', x, m', y, e1, e2, p, f⟩ := paired_snoc hp (by simp)
  obtain ⟨rfl, e3⟩ := List.append_inj' e2 rfl
  cases e3
  subst e1
  refine he _ e _ fun H2 e2 => ⟨_, rfl, _, rfl, a, _, rfl, ex_t (e.trans e2) ht, fun z => ?_, fun _ b hb => ?_⟩
  · have h2 := z.2
    have c : (cutV (l' ++ [x]) none (some (-1))).length = l'.length := by rw [cutInit]
    unfold cutV at c
    rw [show HT.sIx (l' ++ [x]).length 0 none = 0 from rfl] at c
    rw [show HT.sIx (l' ++ [x]).length (l' ++ [x]).length (some (-1)) = (l' ++ [x]).length from h2] at c
    simp at c
  · have e3 := Ex.new (o := .tup (cutV (l' ++ [x]) none (some (-1)))) hb
    refine q _ _ (e2.trans e3) ⟨b, l', rfl, st_of (by rw [upd_same, show (-(1 : Int)) = -1 from rfl, cutInit]), L2.Paired.mapP p fun v x r => FrV.ex _ _ _ _ ((e.trans e2).trans e3) r⟩
end
end Mx
end
section
set_option Elab.async false
set_option linter.all false
set_option maxRecDepth 100000
set_option maxHeartbeats 4000000
/-! _law_is_right, walked. -/
namespace Mx
open PySem L2 Evl Fra
open Sx (Mat ent Told Shows)
theorem one_over {k : Nat} (h : 0 < k) : ((1 : Rat) / (k : Rat)).num = 1 ∧ ((1 : Rat) / (k : Rat)).den = k := by
  have e : (1 : Rat) / (k : Rat) = ⟨1, k, by omega, by simp [Nat.Coprime]⟩ := by
    have z : (k : Rat) ≠ 0 := by have := Rat.natCast_pos.mpr h; grind
    rw [Rat.mk_eq_divInt, Rat.divInt_eq_div, Rat.intCast_natCast]; rfl
  rw [e]
  exact ⟨rfl, rfl⟩
theorem over_cd {k : Nat} (h : 0 < k) : Cd k 1 ((1 : Rat) / (k : Rat)) := by
  have z : (k : Rat) ≠ 0 := by have := Rat.natCast_pos.mpr h; grind
  exact ⟨1, by rw [Rat.div_mul_cancel z]; rfl, by decide⟩
theorem Cd.scale {N B k : Nat} {q : Rat} (h : Cd N B q) : Cd (N * k) (B * k) q := by
  obtain ⟨u, hu, hb⟩ := h
  refine ⟨u * (k : Int), ?_, by rw [Int.natAbs_mul, Int.natAbs_natCast]; exact Nat.mul_le_mul_right _ hb⟩
  rw [Rat.natCast_mul, ← Rat.mul_assoc, hu, Rat.intCast_mul, Rat.intCast_natCast]
theorem mem_getD {qs : List Rat} {i : Nat} (h : i < qs.length) : qs.getD i 0 ∈ qs := List.mem_of_getElem? (some_getD h)
theorem set_all {p : Rat → Prop} {qs : List Rat} (h : ∀ q ∈ qs, p q) {i : Nat} {x : Rat} (hx : p x) : ∀ q ∈ qs.set i x, p q := fun q hq => by
  rcases List.mem_or_eq_of_mem_set hq with z | z
  · exact h q z
  · rw [z]; exact hx
theorem bent_sizes {N B k : Nat} (hN : N ≤ 2 ^ 2047) (hB : B ≤ 2 ^ 2047) (hk : k ≤ 4) : N < 2 ^ 2050 ∧ B < 2 ^ 2050 ∧ N * k < 2 ^ 2050 ∧ B * k + B + B < 2 ^ 2050 := by
  have e : 2 ^ 2050 = 2 ^ 2047 * 2 ^ 3 := by rw [← Nat.pow_add]
  have p : 0 < 2 ^ 2047 := Nat.pow_pos (by decide)
  rw [e, show 2 ^ 3 = 8 from rfl]
  generalize 2 ^ 2047 = P at *
  have h1 : N * k ≤ P * 4 := Nat.mul_le_mul hN hk
  have h2 : B * k ≤ P * 4 := Nat.mul_le_mul hB hk
  omega
theorem lt50 {x n : Nat} (h : x < 2 ^ 2050) (hn : 2050 ≤ n) : x < 2 ^ n := Nat.lt_of_lt_of_le h (Nat.pow_le_pow_right (by decide) hn)
/-- what the judges of shares ask of their sizes -/
structure FitX (x : Rat × List Rat × List Rat) (d B : Nat) : Prop where
  bits : Bits x.1 2170
  d0 : 0 < d
  d1 : d < 2 ^ 2130
  b0 : 0 < B
  b1 : B < 2 ^ 2130
  r : ∀ q ∈ x.2.1, Cd d B q
  c : ∀ q ∈ x.2.2, Cd d B q
  rl : x.2.1.length ≤ 64
  cl : x.2.2.length ≤ 64
theorem bool_of (p : Prop) : ∃ b : Bool, b = true ↔ p := by
  by_cases h : p
  · exact ⟨true, by simp [h]⟩
  · exact ⟨false, by simp [h]⟩
section
variable {K : PySem.W.Frag} {σ : L2.St} {H : Hp} {ta tb tE : TE} {M : List (List Rat)} {n m d B i : Nat} {x : Rat × List Rat × List Rat} {m0 : V} {b : Bool}
theorem ev_isShown (hi : σ[i]? = some (some m0)) (hm : MaV K H m0 M) (g : Good M n m) (hE : Gv tE σ H (fun v H' => ToV K H' v x)) (ft : FitX x d B) (hb : b = true ↔ Shows M n m x.1 x.2.1 x.2.2) :
    Ev (tCall (spIsShown K) [] E0 (tCons (tVar i) (tCons tE tNil))) σ H (.bl b) := fun H1 e Q q => ⟨_, hi, hE H1 e _ fun v H2 e2 hv => ⟨m0, v, M, n, m, x, d, B, rfl, MaV.mono (ExT.of (e.trans e2)) hm, g, hv, ft.bits, ft.d0, ft.d1, ft.b0, ft.b1, ft.r, ft.c, ft.rl, ft.cl, fun b' H3 e3 hb' => by
    have : b' = b := Bool.eq_iff_iff.mpr (hb'.trans hb.symm)
    rw [this]; exact q H3 (e2.trans e3)⟩⟩
theorem ev_shows (hi : σ[i]? = some (some m0)) (hm : MaV K H m0 M) (g : Good M n m) (hE : Gv tE σ H (fun v H' => ToV K H' v x)) (ft : FitX x d B) (hb : b = true ↔ 0 ≤ x.1 ∧ Shows M n m x.1 x.2.1 x.2.2) :
    Ev (tCall (spShows K) [] E0 (tCons (tVar i) (tCons tE tNil))) σ H (.bl b) := fun H1 e Q q => ⟨_, hi, hE H1 e _ fun v H2 e2 hv => ⟨m0, v, M, n, m, x, d, B, rfl, MaV.mono (ExT.of (e.trans e2)) hm, g, hv, ft.bits, ft.d0, ft.d1, ft.b0, ft.b1, ft.r, ft.c, ft.rl, ft.cl, fun b' H3 e3 hb' => by
    have : b' = b := Bool.eq_iff_iff.mpr (hb'.trans hb.symm)
    rw [this]; exact q H3 (e2.trans e3)⟩⟩
theorem gv_ixL {j : Nat} {S : Addr} {vs : List V} {k : Nat} {q : Rat} {z : V} (hi : σ[i]? = some (some (.ref S))) (hj : σ[j]? = some (some (.int (k : Nat)))) (hS : H S = some (.lst vs)) (hz : vs[k]? = some z) (f : FrV K H z q) : Gv (tOp (rIxL K) (tVar i) (tVar j)) σ H (fun v H' => FrV K H' v q) := fun H1 e Q q =>
  ⟨_, hi, _, hj, S, vs, _, z, rfl, rfl, sq_of (e _ _ hS), atI_nat hz, q _ _ (Ex.refl _) (f.mono (ExT.of e))⟩
end
section
variable {P : Program} {w : World} {K : PySem.W.Frag} {mg : Str → Option Value} {base : Heap}
theorem scIsRight : FnScope ["pot", "matrix", "value", "told", "at", "shares", "one", "other", "part_v", "bent"] ["pot", "matrix", "value"] (defScope sIsRight) := ⟨rfl, rfl, rfl, by decide +kernel, rfl, by decide +kernel, by decide +kernel⟩
theorem ok_is_right (T : Bt mg) (F : Dn K mg "_law_is_right" sIsRight ["pot", "matrix", "value"]) (GM : Fn P w K mg base "matrix_told" ["matrix"] 8 (spTold K)) (GS : Fn P w K mg base "shows_matrix" ["matrix", "value"] 6 (spShows K)) (GI : Fn P w K mg base "_law_is_shown" ["matrix", "told"] 3 (spIsShown K))
    (GT : Fn P w K mg base "_law_take" ["pot", "upto"] 1 spTake) (GP : Fn P w K mg base "_law_plus" ["one", "other"] 2 (spFr2 K (· + ·) (CL (· + ·)))) (GN : Fn P w K mg base "_law_minus" ["one", "other"] 2 (spFr2 K (· - ·) (CL (· - ·)))) (GX : Fn P w K mg base "_law_times" ["one", "other"] 2 (spFr2 K (· * ·) (CL (· * ·)))) :
    FnG P w K mg base "_law_is_right" ["pot", "matrix", "value"] 9 (spIsRight K) := by
  refine F.fnG scIsRight (fun vs H Q E h => ?_) (fun f cdv A outer s0 H vs Q E hg hr h => ?_)
  · obtain ⟨_, _, _, _, _, _, _, _, _, rfl, _⟩ := h; rfl
  obtain ⟨p, m0, u, H0, t, n, m, M, value, rfl, hp, hm, g, fu, iv, vb, ht, k⟩ := h
  refine ⟨_, pss_cons (ps_set (i := 3) scIsRight.nd rfl (.inl rfl) (pe_fn GM hr (pa_cons (pv 1) pa_nil)))
    (pss_cons (ps_if (PW.pt (pw_or (pt_cmpR op_ne (pe_callB (call_repr_F hg hr.units) (by rfl) T.repr (by decide +kernel) (pa_cons (pe_ix ix_tup (pv 3) pe_int (fun _ _ => rfl)) pa_nil)) (pe_callB (call_repr_F hg hr.units) (by rfl) T.repr (by decide +kernel) (pa_cons (pv 2) pa_nil)) (nomark _))
        (pw_or (pt_not (pt_val (pe_fn GI (hr.mono (by decide)) (pa_cons (pv 1) (pa_cons (pv 3) pa_nil))))) (pw_or1 (pt_cmpR (r := rIsNB) op_isnot_bl (pe_fn GS (hr.mono (by decide)) (pa_cons (pv 1) (pa_cons (pv 3) pa_nil))) pe_bl (nomark _)))))) (pss_one (ps_ret pe_bl)) pss_nil)
    (pss_cons (ps_set (i := 4) scIsRight.nd rfl (.inl rfl) (pe_op op_add pe_int (pe_fn GT (hr.mono (by decide)) (pa_cons (pv 0) (pa_cons pe_int pa_nil)))))
    (pss_cons (ps_par3 (i := 5) (j := 6) (l := 7) rfl scIsRight.nd rfl rfl rfl (by decide) (by decide) (by decide) rfl rfl rfl (pa_cons (pe_callTy call_list_of (by rfl) T.list (by decide +kernel) (pa_cons (pe_ix ix_tup (pv 3) (pv 4) (fun _ _ => rfl)) pa_nil))
        (pa_cons (pe_fn GT (hr.mono (by decide)) (pa_cons (pv 0) (pa_cons (pe_callB call_len (by rfl) T.len PySem.boot_len (pa_cons (pe_ix ix_tup (pv 3) (pv 4) (fun _ _ => rfl)) pa_nil)) pa_nil)))
        (pa_cons (pe_fn GT (hr.mono (by decide)) (pa_cons (pv 0) (pa_cons (pe_callB call_len (by rfl) T.len PySem.boot_len (pa_cons (pe_ix ix_tup (pv 3) (pv 4) (fun _ _ => rfl)) pa_nil)) pa_nil))) pa_nil))) rfl)
    (pss_cons (ps_set (i := 8) scIsRight.nd rfl (.inl rfl) (pe_fn GX (hr.mono (by decide)) (pa_cons (pe_ix ix_list (pv 5) (pv 6) (fun _ _ => rfl)) (pa_cons (pe_tup (pa_cons pe_int (pa_cons (pe_callTy call_int1 (by rfl) T.int (by decide +kernel) (pa_cons (pe_op op_add pe_int (pe_fn GT (hr.mono (by decide)) (pa_cons (pv 0) (pa_cons pe_int pa_nil)))) pa_nil)) pa_nil))) pa_nil))))
    (pss_cons (ps_asg (pe_fn GN (hr.mono (by decide)) (pa_cons (pe_ix ix_list (pv 5) (pv 6) (fun _ _ => rfl)) (pa_cons (pv 8) pa_nil))) (pg_sub (pv 5) (pv 6) set_list))
    (pss_cons (ps_asg (pe_fn GP (hr.mono (by decide)) (pa_cons (pe_ix ix_list (pv 5) (pv 7) (fun _ _ => rfl)) (pa_cons (pv 8) pa_nil))) (pg_sub (pv 5) (pv 7) set_list))
    (pss_cons (ps_set (i := 9) scIsRight.nd rfl (.inl rfl) (pe_op op_catA (pe_op op_catA (pe_slice sl_tupA (pv 3) po_none (po_some (pv 4))) (pe_tup (pa_cons (pe_callTy call_tuple_of (by rfl) T.tuple (by decide +kernel) (pa_cons (pv 5) pa_nil)) pa_nil))) (pe_slice sl_tupA (pv 3) (po_some (pe_op op_add (pv 4) pe_int)) po_none)))
    (pss_cons (ps_if (PW.pt (pw_or (pt_cmpR op_ne (pe_callB (call_repr_F hg hr.units) (by rfl) T.repr (by decide +kernel) (pa_cons (pe_fn GS (hr.mono (by decide)) (pa_cons (pv 1) (pa_cons (pv 9) pa_nil))) pa_nil)) (pe_callB (call_repr_F hg hr.units) (by rfl) T.repr (by decide +kernel) (pa_cons (pe_fn GI (hr.mono (by decide)) (pa_cons (pv 1) (pa_cons (pv 9) pa_nil))) pa_nil)) (nomark _))
        (pw_or1 (pt_cmpR (r := rIsNB) op_isnot_bl (pe_fn GS (hr.mono (by decide)) (pa_cons (pv 1) (pa_cons (pe_op op_catA (pe_tup (pa_cons (pe_fn GP (hr.mono (by decide)) (pa_cons (pv 2) (pa_cons (pe_tup (pa_cons pe_int (pa_cons pe_int pa_nil))) pa_nil))) pa_nil)) (pe_slice sl_tupA (pv 3) (po_some pe_int) po_none)) pa_nil))) pe_bl (nomark _))))) (pss_one (ps_ret pe_bl)) pss_nil)
    (pss_one (ps_ret (pe_cmpR (r := rIsB) op_is_bl (pe_fn GS (hr.mono (by decide)) (pa_cons (pv 1) (pa_cons (pe_op op_catA (pe_op op_catA (pe_slice sl_tupA (pv 3) po_none (po_some (pv 4))) (pe_tup (pa_cons (pe_slice sl_tupA (pe_ix ix_tup (pv 3) (pv 4) (fun _ _ => rfl)) po_none (po_some (pe_un un_neg pe_int))) pa_nil))) (pe_slice sl_tupA (pv 3) (po_some (pe_op op_add (pv 4) pe_int)) po_none)) pa_nil))) pe_bl (nomark _)))))))))))), ?_⟩
  have n64 := g.n64
  have m64 := g.m64
  have n0 := g.mat.n0
  have m0' := g.mat.m0
  refine sq ⟨_, rfl, m0, M, n, m, rfl, hm, g, fun vt H1 x e1 hv hT => ?_⟩
  have s := hT.shows_
  obtain ⟨N, N0, NB, hcr, hcc, _⟩ := hT.den
  have ev := iv _ _ _ s
  obtain ⟨xv, rs, cs⟩ := x
  dsimp only at ev hv s hcr hcc
  subst ev
  have vn := val_nonneg g s
  have szs := fun (k : Nat) (hk : k ≤ 4) => bent_sizes (B := 2 ^ 2047) NB (Nat.le_refl _) hk
  have B0 : 0 < 2 ^ 2047 := Nat.pow_pos (by decide)
  generalize 2 ^ 2047 = B at *
  have ft1 : FitX (xv, rs, cs) N B := ⟨vb.mono (by decide), N0, lt50 (szs 1 (by decide)).1 (by decide), B0, lt50 (szs 1 (by decide)).2.1 (by decide), hcr, hcc, by show rs.length ≤ 64; rw [s.rl]; exact n64, by show cs.length ≤ 64; rw [s.cl]; exact m64⟩
  have told : ∀ {H' : Hp} {v : V} {o4 o5 o6 o7 o8 o9 : Option V}, ToV K H' v (xv, rs, cs) → Gv (tOp (rIxT K) (tVar 3) (tC (.int 0))) [some (.ref p), some m0, some u, some v, o4, o5, o6, o7, o8, o9] H' (fun v H' => FrV K H' v xv) := fun {H' v o4 o5 o6 o7 o8 o9} hv H2 e Q q => by
    obtain ⟨a, v0, v1, v2, rfl, htv, f0, _, _⟩ := hv
    exact ⟨_, rfl, a, _, 0, v0, rfl, rfl, ex_t e htv, rfl, q _ _ (Ex.refl _) (f0.mono (ExT.of e))⟩
  have hm1 := MaV.mono (ExT.of e1) hm
  have fu1 := fu.mono (ExT.of e1)
  have gv1 : Gv (tVar 3) [some (.ref p), some m0, some u, some vt, none, none, none, none, none, none] H1 (fun v H' => ToV K H' v (xv, rs, cs)) := gv_var rfl fun H' e => hv.mono (ExT.of e)
  have test1 := et_or (et_neSame rfl (ev_rep (told (o4 := none) (o5 := none) (o6 := none) (o7 := none) (o8 := none) (o9 := none) hv) (vb.mono (by decide))) (ev_rep (gv_var (i := 2) rfl fun H' e => fu1.mono (ExT.of e)) (vb.mono (by decide))))
    fun _ => et_or (et_not (et_B (ev_isShown (i := 1) (b := true) rfl hm1 g gv1 ft1 (by simp [s])))) fun _ => et_isNB (b := true) (ev_shows (i := 1) (b := true) rfl hm1 g gv1 ft1 (by simp [s, vn]))
  dsimp only
  refine s_ifret test1 (fun yes => absurd yes (by decide)) fun no H2 e2 => ?_
  have hp2 := hp.mono (e1.trans e2)
  have hv2 := hv.mono (ExT.of e2)
  have hm2 := MaV.mono (ExT.of e2) hm1
  have fu2 := fu1.mono (ExT.of e2)
  refine sq ⟨_, rfl, p, hide H2 p, 2, t, rfl, hp2.here, by decide, by decide, by omega, fun d H3 hd g3 => ⟨1, (d : Int), rfl, rfl, ?_⟩⟩
  have dlt : d < 2 := by omega
  have hp3 := hp2.base g3
  have x3 := hp2.extT g3
  have hm3 := MaV.mono x3 hm2
  have fu3 := fu2.mono x3
  have hv3 := hv2.mono x3
  obtain ⟨tv, w0, w1, w2, rfl, htv, f0, r1, r2⟩ := id hv3
  obtain ⟨wd, hat, ⟨sa, svs, rfl, hst, hsp⟩⟩ : ∃ wd, atI [w0, w1, w2] (1 + (d : Int)) = some wd ∧ RoV K H3 wd (sel d (xv, rs, cs)) := by
    obtain rfl | rfl : d = 0 ∨ d = 1 := by omega
    · exact ⟨w1, rfl, r1⟩
    · exact ⟨w2, rfl, r2⟩
  have sl : (sel d (xv, rs, cs)).length ≤ 64 ∧ 0 < (sel d (xv, rs, cs)).length := by
    unfold sel
    split
    · show rs.length ≤ 64 ∧ 0 < rs.length; rw [s.rl]; exact ⟨n64, n0⟩
    · show cs.length ≤ 64 ∧ 0 < cs.length; rw [s.cl]; exact ⟨m64, m0'⟩
  have scd : ∀ q ∈ sel d (xv, rs, cs), Cd N B q := by
    unfold sel
    split
    · exact hcr
    · exact hcc
  have slen := Paired.length hsp
  have S0 := sl
  generalize hqs : sel d (xv, rs, cs) = qs at *
  refine sq ⟨_, rfl, _, rfl, tv, _, _, _, rfl, rfl, htv, hat, sa, svs, rfl, .inr hst, fun S hS => ?_⟩
  have Sp : S ≠ p := hp3.ne hS
  have h0S : H0 S = none := fresh_back hp3.ex hS
  have eS := Ex.new (o := .lst svs) hS
  have hp4 := hp3.mono eS
  have htv4 := ex_t eS htv
  have hst4 := ex_t eS hst
  have hS4 : upd H3 S (.lst svs) S = some (.lst svs) := upd_same
  have x4 : ExT H3 (upd H3 S (.lst svs)) := ExT.of eS
  generalize upd H3 S (.lst svs) = H4 at *
  refine ⟨_, rfl, ev_lenT (K := K) (n := svs.length) (ev_op (ev_var rfl) (ev_var rfl) (rv_ixT htv4 hat)) hst4 rfl _ (Ex.refl _) _ fun H5 e5 => ⟨p, hide H5 p, (svs.length : Int), t + 1, rfl, (hp4.mono e5).here, by omega, by omega, by omega, fun d1 H6 hd1 g6 => ?_⟩⟩
  have hp6 := (hp4.mono e5).base g6
  have x6 := x4.trans ((ExT.of e5).trans ((hp4.mono e5).extT g6))
  have hS6 : H6 S = some (.lst svs) := g6.ex _ _ (by rw [hide_ne Sp]; exact e5 _ _ hS4)
  have htv6 := x6.t htv
  have hst6 := x6.t hst
  refine ⟨_, rfl, ev_lenT (K := K) (n := svs.length) (ev_op (ev_var rfl) (ev_var rfl) (rv_ixT htv6 hat)) hst6 rfl _ (Ex.refl _) _ fun H7 e7 => ⟨p, hide H7 p, (svs.length : Int), t + 2, rfl, (hp6.mono e7).here, by omega, by omega, by omega, fun d2 H8 hd2 g8 => ?_⟩⟩
  have hp8 := (hp6.mono e7).base g8
  have x8 := x6.trans ((ExT.of e7).trans ((hp6.mono e7).extT g8))
  have hS8 : H8 S = some (.lst svs) := g8.ex _ _ (by rw [hide_ne Sp]; exact e7 _ _ hS6)
  refine ⟨_, _, _, rfl, ?_⟩
  dsimp only
  have l1 : d1 < qs.length := by omega
  have l2 : d2 < qs.length := by omega
  obtain ⟨z1, hz1, fz1⟩ := paired_at hsp (some_getD (d := 0) l1)
  -- part_v
  refine sq ⟨_, rfl, _, rfl, S, svs, _, z1, rfl, rfl, sq_of hS8, atI_nat hz1, ?_⟩
  refine ⟨_, rfl, p, hide H8 p, 3, t + 3, rfl, hp8.here, by decide, by decide, by omega, fun d3 H9 hd3 g9 => ⟨2, (d3 : Int), rfl, rfl, .inl ⟨_, rfl, by show 2 ≤ sizeLine; decide, fun c hc => ?_⟩⟩⟩
  have hp9 := hp8.base g9
  have x9 := x8.trans (hp8.extT g9)
  have hS9 : H9 S = some (.lst svs) := g9.ex _ _ (by rw [hide_ne Sp]; exact hS8)
  have ec := Ex.new (o := .tup [.int 1, .int (2 + (d3 : Int))]) hc
  have fk : FrV K (upd H9 c (.tup [.int 1, .int (2 + (d3 : Int))])) (.ref c) (1 / ((2 + d3 : Nat) : Rat)) := by
    obtain ⟨o1, o2⟩ := one_over (k := 2 + d3) (by omega)
    exact FrV.new o1.symm (by rw [o2]; omega)
  have kc := over_cd (k := 2 + d3) (by omega)
  have sz := szs (2 + d3) (by omega)
  have K0 : 0 < N * (2 + d3) := Nat.mul_pos N0 (by omega)
  have kb : Bits (1 / ((2 + d3 : Nat) : Rat)) 10 := kc.bits (by omega) (by have : 2 ^ 10 = 1024 := rfl; omega) (by decide)
  generalize hkk : 2 + d3 = kk at *
  generalize (1 / (kk : Rat)) = ik at *
  have cq : ∀ q ∈ qs, Cd (N * kk) (B * kk) q := fun q hq => Cd.scale (scd q hq)
  have c1 := scd _ (mem_getD l1)
  have cpart : Cd (N * kk) (B * 1) (qs.getD d1 0 * ik) := c1.mul kc
  have bpart : Bits (qs.getD d1 0 * ik) 2170 := cpart.bits K0 (lt50 sz.2.2.1 (by decide)) (by rw [Nat.mul_one]; exact lt50 sz.2.1 (by decide))
  have b1 : Bits (qs.getD d1 0) 2170 := c1.bits N0 (lt50 sz.1 (by decide)) (lt50 sz.2.1 (by decide))
  refine ⟨_, _, _, ik, 2170, 10, rfl, (fz1.mono x9).mono (ExT.of ec), fk, b1, kb, by decide, CL.of (g := (· * ·)) bpart (by decide), fun pv H10 e10 fp => ?_⟩
  have hp10 := (hp9.mono ec).mono e10
  have x10 := (x9.trans (ExT.of ec)).trans (ExT.of e10)
  have hS10 := e10 _ _ (ec _ _ hS9)
  replace fp : FrV K H10 pv (qs.getD d1 0 * ik) := fp
  generalize hpart : qs.getD d1 0 * ik = part at *
  rw [Nat.mul_one] at cpart
  dsimp only
  -- shares[one]
  have cm : Cd (N * kk) (B * kk + B) (qs.getD d1 0 - part) := (cq _ (mem_getD l1)).sub cpart
  refine sq ((gv_fr2 (g := (· - ·)) (gv_ixL (i := 5) (j := 6) rfl rfl hS10 hz1 (fz1.mono x10)) (gv_var (i := 8) rfl fun H' e => fp.mono (ExT.of e)) b1 bpart (by decide) (CL.of (g := (· - ·)) (n := 2170) (cm.bits K0 (lt50 sz.2.2.1 (by decide)) (lt50 (show B * kk + B < 2 ^ 2050 by omega) (by decide))) (by decide))).go fun v1 H11 e11 fv1 => ?_)
  have hS11 := e11 _ _ hS10
  refine ⟨_, rfl, _, rfl, S, svs, (d1 : Int), d1, rfl, rfl, hS11, ixN_nat (by omega), ?_⟩
  have up1 : ExT H11 (upd H11 S (.lst (svs.set d1 v1))) := ext_set hS11
  have x12 := (x10.trans (ExT.of e11)).trans up1
  have hS12 : upd H11 S (.lst (svs.set d1 v1)) S = some (.lst (svs.set d1 v1)) := upd_same
  have hp12 : PoV H0 (upd H11 S (.lst (svs.set d1 v1))) p (t + 4) := by
    obtain ⟨ex5, h05, a, b, z, hpot, r1, r2, r3, r4, r5⟩ := hp10.mono e11
    exact ⟨ex5.mut h0S, h05, a, b, z, by rw [upd_ne Sp.symm]; exact hpot, r1, r2, r3, r4, by omega⟩
  have fp12 : FrV K (upd H11 S (.lst (svs.set d1 v1))) pv part := (fp.mono (ExT.of e11)).mono up1
  have hsp12 := paired_set (L2.Paired.mapP hsp fun v x r => r.mono x12) (i := d1) (fv1.mono up1)
  generalize upd H11 S (.lst (svs.set d1 v1)) = H12 at *
  generalize svs.set d1 v1 = ws at *
  have c1s : ∀ q ∈ qs.set d1 (qs.getD d1 0 - part), Cd (N * kk) (B * kk + B) q := set_all (fun q hq => (cq q hq).mono (by omega)) cm
  have l2' : d2 < (qs.set d1 (qs.getD d1 0 - part)).length := by rw [List.length_set]; exact l2
  have len1 : (qs.set d1 (qs.getD d1 0 - part)).length ≤ 64 := by rw [List.length_set]; exact sl.1
  generalize qs.set d1 (qs.getD d1 0 - part) = qs1 at *
  obtain ⟨z2, hz2, fz2⟩ := paired_at hsp12 (some_getD (d := 0) l2')
  have cp : Cd (N * kk) (B * kk + B + B) (qs1.getD d2 0 + part) := (c1s _ (mem_getD l2')).add cpart
  have b2 : Bits (qs1.getD d2 0) 2170 := (c1s _ (mem_getD l2')).bits K0 (lt50 sz.2.2.1 (by decide)) (lt50 (show B * kk + B < 2 ^ 2050 by omega) (by decide))
  dsimp only
  refine sq ((gv_fr2 (g := (· + ·)) (gv_ixL (i := 5) (j := 7) rfl rfl hS12 hz2 fz2) (gv_var (i := 8) rfl fun H' e => fp12.mono (ExT.of e)) b2 bpart (by decide) (CL.of (g := (· + ·)) (n := 2170) (cp.bits K0 (lt50 sz.2.2.1 (by decide)) (lt50 sz.2.2.2 (by decide))) (by decide))).go fun v2 H13 e13 fv2 => ?_)
  have hS13 := e13 _ _ hS12
  have wl := Paired.length hsp12
  refine ⟨_, rfl, _, rfl, S, ws, (d2 : Int), d2, rfl, rfl, hS13, ixN_nat (by omega), ?_⟩
  have up2 : ExT H13 (upd H13 S (.lst (ws.set d2 v2))) := ext_set hS13
  have x14 := (x12.trans (ExT.of e13)).trans up2
  have hS14 : upd H13 S (.lst (ws.set d2 v2)) S = some (.lst (ws.set d2 v2)) := upd_same
  have hp14 : PoV H0 (upd H13 S (.lst (ws.set d2 v2))) p (t + 4) := by
    obtain ⟨ex5, h05, a, b, z, hpot, r1, r2, r3, r4, r5⟩ := hp12.mono e13
    exact ⟨ex5.mut h0S, h05, a, b, z, by rw [upd_ne Sp.symm]; exact hpot, r1, r2, r3, r4, by omega⟩
  have hsp14 := paired_set (L2.Paired.mapP hsp12 fun v x r => r.mono ((ExT.of e13).trans up2)) (i := d2) (fv2.mono up2)
  generalize upd H13 S (.lst (ws.set d2 v2)) = H14 at *
  generalize ws.set d2 v2 = ws2 at *
  have c2s : ∀ q ∈ qs1.set d2 (qs1.getD d2 0 + part), Cd (N * kk) (B * kk + B + B) q := set_all (fun q hq => (c1s q hq).mono (by omega)) cp
  have len2 : (qs1.set d2 (qs1.getD d2 0 + part)).length ≤ 64 := by rw [List.length_set]; exact len1
  generalize qs1.set d2 (qs1.getD d2 0 + part) = qs2 at *
  dsimp only
  have hv14 := hv3.mono x14
  have hm14 := MaV.mono x14 hm3
  have fu14 := fu3.mono x14
  have gT : Gv (tCB (fun xs H Q => ∃ p ys, xs = [.ref p] ∧ ((SqL K H p ys ∧ ∀ l, H l = none → Q (.ref l) (upd H l (.tup ys))) ∨ (SqT K H p ys ∧ Q (.ref p) H))) (tCons (tVar 5) tNil)) [some (.ref p), some m0, some u, some (.ref tv), some (.int (1 + (d : Int))), some (.ref S), some (.int d1), some (.int d2), some pv, none] H14 (fun v H' => RoV K H' v qs2) := fun H' e Q q =>
    ⟨_, rfl, S, ws2, rfl, .inl ⟨sq_of (e _ _ hS14), fun l hl => q _ _ (Ex.new hl) ⟨l, ws2, rfl, st_of upd_same, L2.Paired.mapP hsp14 fun v x r => r.mono (ExT.of (e.trans (Ex.new hl)))⟩⟩⟩
  refine sq (s_asgG (gv_bend (i := 3) (j := 4) (d := d) rfl hv14 rfl dlt gT) fun vbt H15 e15 hvb => ?_)
  have K0' : N * kk < 2 ^ 2130 := lt50 sz.2.2.1 (by decide)
  have BB0 : 0 < B * kk + B + B := by omega
  have BB1 : B * kk + B + B < 2 ^ 2130 := lt50 sz.2.2.2 (by decide)
  have up : ∀ q, Cd N B q → Cd (N * kk) (B * kk + B + B) q := fun q h => (Cd.scale (k := kk) h).mono (by omega)
  have ftB : FitX (bend d (xv, rs, cs) qs2) (N * kk) (B * kk + B + B) := by
    unfold bend
    split
    · exact ⟨vb.mono (by decide), K0, K0', BB0, BB1, c2s, fun q hq => up q (hcc q hq), len2, ft1.cl⟩
    · exact ⟨vb.mono (by decide), K0, K0', BB0, BB1, fun q hq => up q (hcr q hq), c2s, ft1.rl, len2⟩
  have vnB : 0 ≤ (bend d (xv, rs, cs) qs2).1 := by unfold bend; split <;> exact vn
  have hm15 := MaV.mono (ExT.of e15) hm14
  have fu15 := fu14.mono (ExT.of e15)
  have hv15 := hv14.mono (ExT.of e15)
  obtain ⟨bb, hbb⟩ := bool_of (Shows M n m (bend d (xv, rs, cs) qs2).1 (bend d (xv, rs, cs) qs2).2.1 (bend d (xv, rs, cs) qs2).2.2)
  have gB : Gv (tVar 9) [some (.ref p), some m0, some u, some (.ref tv), some (.int (1 + (d : Int))), some (.ref S), some (.int d1), some (.int d2), some pv, some vbt] H15 (fun v H' => ToV K H' v (bend d (xv, rs, cs) qs2)) := gv_var rfl fun H' e => hvb.mono (ExT.of e)
  have b7 : Bits (1 / 7 : Rat) 3 := ⟨by decide +kernel, by decide +kernel⟩
  have b17 : Bits (xv + 1 / 7) 1004 := vb.add b7
  have ft7 : FitX (xv + 1 / 7, rs, cs) N B := ⟨b17.mono (by decide), ft1.d0, ft1.d1, ft1.b0, ft1.b1, ft1.r, ft1.c, ft1.rl, ft1.cl⟩
  have not7 : (false = true) ↔ 0 ≤ xv + 1 / 7 ∧ Shows M n m (xv + 1 / 7) rs cs := ⟨fun z => (by cases z), fun z => by
    have := iv _ _ _ z.2
    grind⟩
  have g7 := gv_other (K := K) (i := 3) (σ := [some (.ref p), some m0, some u, some (.ref tv), some (.int (1 + (d : Int))), some (.ref S), some (.int d1), some (.int d2), some pv, some vbt]) rfl hv15
    (gv_fr2 (g := (· + ·)) (gv_var (i := 2) rfl fun H' e => fu15.mono (ExT.of e)) (gv_frac (K := K) (a := 1) (b := 7) (q := 1 / 7) (by decide +kernel) (by decide +kernel)) vb b7 (by decide) (CL.of (g := (· + ·)) b17 (by decide)))
  have test2 := et_or (et_neSame (v := .str (blText bb)) rfl (ev_repB (K := K) (ev_shows (i := 1) rfl hm15 g gB ftB (hbb.trans ⟨fun z => ⟨vnB, z⟩, fun z => z.2⟩))) (ev_repB (K := K) (ev_isShown (i := 1) rfl hm15 g gB ftB hbb)))
    fun _ => et_isNB (b := false) (ev_shows (i := 1) (b := false) rfl hm15 g g7 ft7 not7)
  dsimp only
  refine s_ifret test2 (fun yes => absurd yes (by decide)) fun no H16 e16 => ?_
  have x16 := (x14.trans (ExT.of e15)).trans (ExT.of e16)
  obtain ⟨qs0, q0, rfl⟩ : ∃ qs0 q0, qs = qs0 ++ [q0] := ⟨qs.dropLast, qs.getLast (fun z => by rw [z] at l1; exact absurd l1 (Nat.not_lt_zero _)), (List.dropLast_concat_getLast _).symm⟩
  have ro16 : RoV K H16 (.ref sa) (qs0 ++ [q0]) := ⟨sa, svs, rfl, x16.t hst, L2.Paired.mapP hsp fun v x r => r.mono x16⟩
  have gi := gv_init (K := K) (te := tOp (rIxT K) (tVar 3) (tVar 4)) (σ := [some (.ref p), some m0, some u, some (.ref tv), some (.int (1 + (d : Int))), some (.ref S), some (.int d1), some (.int d2), some pv, some vbt]) (ev_op (ev_var rfl) (ev_var rfl) (rv_ixT (x16.t htv) hat)) ro16
  have gE := gv_bend (i := 3) (j := 4) (d := d) rfl (hv3.mono x16) rfl dlt gi
  have len0 : qs0.length ≤ 64 := by have := sl.1; rw [List.length_append] at this; omega
  have c0s : ∀ q ∈ qs0, Cd N B q := fun q hq => scd q (List.mem_append_left _ hq)
  have ftE : FitX (bend d (xv, rs, cs) qs0) N B := by
    unfold bend
    split
    · exact ⟨vb.mono (by decide), ft1.d0, ft1.d1, ft1.b0, ft1.b1, c0s, hcc, len0, ft1.cl⟩
    · exact ⟨vb.mono (by decide), ft1.d0, ft1.d1, ft1.b0, ft1.b1, hcr, c0s, ft1.rl, len0⟩
  have notE : (false = true) ↔ 0 ≤ (bend d (xv, rs, cs) qs0).1 ∧ Shows M n m (bend d (xv, rs, cs) qs0).1 (bend d (xv, rs, cs) qs0).2.1 (bend d (xv, rs, cs) qs0).2.2 := ⟨fun z => (by cases z), fun z => by
    obtain ⟨_, z⟩ := z
    have hl := congrArg List.length hqs
    rw [List.length_append, List.length_singleton] at hl
    unfold sel at hl
    unfold bend at z
    by_cases h : d = 0
    · rw [if_pos h] at hl
      rw [if_pos h] at z
      have h1 := z.rl
      have h2 := s.rl
      dsimp only at h1 hl
      omega
    · rw [if_neg h] at hl
      rw [if_neg h] at z
      have h1 := z.cl
      have h2 := s.cl
      dsimp only at h1 hl
      omega⟩
  exact ev_shows (i := 1) (b := false) rfl (MaV.mono x16 hm3) g gE ftE notE _ (Ex.refl _) _ fun H17 e17 => ⟨false, false, rfl, rfl, k H17 (((hp14.mono e15).mono e16).mono e17)⟩
end
end Mx
end
section
set_option Elab.async false
set_option linter.all false
set_option maxRecDepth 100000
set_option maxHeartbeats 4000000
/-! Before _law_are_lines_right. -/
namespace Mx
open PySem L2 Evl Fra
open Sx (Mat ent Told Shows)
section
variable {K : PySem.W.Frag} {α : Type} {R : PySem.W.Frag → Hp → V → α → Prop} {S : Nat → α → Prop} {J : It} {B : Nat → Hp → V → Prop}
/-- as lcP, each item told by its place -/
theorem lcPi {g : TG} {te : TE} {vs : List Nat} {σ : L2.St} {H2 : Hp} {p D : Addr} {t c n : Nat} {Qd : Hp → Prop} (w : Wk J n (hide H2 p) B) (hp : PoV (hide H2 p) H2 p t) (hD : H2 D = none) (hn : n ≤ 100000) (mR : ∀ H1 H2 v x, ExT H1 H2 → R K H1 v x → R K H2 v x)
    (hs : ∀ i x H' Q, i < n → PoV (hide H2 p) H' p (t + i * c) → B i H' x → (∀ σ2 H3, Ex H' H3 → wipe σ2 vs = wipe σ vs → (∀ Q' : VK, (∀ y H4 r, PoV (hide H' p) H4 p (t + (i + 1) * c) → R K H4 y r → S i r → Q' y H4) → te σ2 H3 Q') → Q σ2 H3) → g x (wipe σ vs) H' Q)
    (hd : ∀ H5 acc rs, PoV (hide H2 p) H5 p (t + n * c) → H5 D = some (.lst acc) → Paired (R K H5) acc rs → rs.length = n → (∀ j r, rs[j]? = some r → S j r) → Qd H5) :
    ∃ W : Nat → Nat → Hp → Prop, (∃ m, W 0 m (upd H2 D (.lst []))) ∧ ∀ i m H, W i m H →
      (J.stop i H ∧ Qd H) ∨ (J.go i H ∧ ∃ Nx : Hp → Prop, (∀ H', Nx H' → ∃ m', m' < m ∧ W (i + 1) m' H') ∧ ∀ x H', J.yld i H x H' → g x (wipe σ vs) H' fun σ2 H2 => wipe σ2 vs = wipe σ vs ∧ tYes σ2 H2 fun b H3 =>
        if b = true then te σ2 H3 fun y H4 => ∃ acc, H4 D = some (.lst acc) ∧ acc.length < sizeLine ∧ Nx (upd H4 D (.lst (acc ++ [y]))) else Nx H3) := by
  obtain ⟨G, wk, gg⟩ := w
  have Dp : D ≠ p := hp.ne hD
  have hbD : hide H2 p D = none := by rw [hide_ne Dp]; exact hD
  refine lc_it wk (fun i H' => PoV (hide H2 p) H' p (t + i * c) ∧ ∃ acc rs, H' D = some (.lst acc) ∧ Paired (R K H') acc rs ∧ rs.length = i ∧ ∀ j r, rs[j]? = some r → S j r) ?_ (fun i H' _ q => gg H' q.1.ex) ?_ ?_
  · refine ⟨?_, [], [], upd_same, .nil, rfl, fun j r h => (by cases h)⟩
    rw [Nat.zero_mul, Nat.add_zero]
    exact hp.mono (Ex.new hD)
  · rintro i x H' H'' hin ⟨hp', acc, rs, hacc, hpr, hlen, hS⟩ ⟨e'', hB⟩
    have hp2 := hp'.mono e''
    have acc2 := e'' _ _ hacc
    refine hs i x H'' _ hin hp2 (hB hp'.ex) fun σ2 H3 e3 hw hv => ⟨hw, ?_⟩
    unfold tYes
    dsimp only
    try rw [if_pos rfl]
    refine hv _ fun y H4 r g4 hr hSr => ?_
    have acc4 : H4 D = some (.lst acc) := g4.ex _ _ (by rw [hide_ne Dp]; exact acc2)
    have al : acc.length = i := by rw [← hlen]; exact Paired.length hpr
    have up : ExT H4 (upd H4 D (.lst (acc ++ [y]))) := (ExT.refl H4).put (fun xs z => by rw [acc4] at z; cases z) (fun o u z => by rw [acc4] at z; cases z)
    have eT : ExT H' H4 := (ExT.of e'').trans (hp2.extT g4)
    obtain ⟨ex5, h05, a, b, z, hpot, r5⟩ := hp2.base g4
    refine ⟨acc, acc4, by rw [al]; exact Nat.lt_of_lt_of_le hin (sz_of hn), ⟨ex5.mut hbD, h05, a, b, z, by rw [upd_ne Dp.symm]; exact hpot, r5⟩, acc ++ [y], rs ++ [r], upd_same, ?_, by rw [List.length_append, hlen]; rfl, fun j q hq => ?_⟩
    · exact paired_append (L2.Paired.mapP hpr fun v x r => mR _ _ v x (eT.trans up) r) (.cons (mR _ _ _ _ up hr) .nil)
    · by_cases hj : j < rs.length
      · rw [List.getElem?_append_left hj] at hq; exact hS j q hq
      · rw [List.getElem?_append_right (by omega)] at hq
        obtain ⟨hz, hq⟩ := List.getElem?_eq_some_iff.mp hq
        simp at hz
        have ej : j = i := by omega
        subst ej
        simp at hq
        rw [← hq]; exact hSr
  · rintro H' ⟨hp', acc, rs, hacc, hpr, hlen, hS⟩
    exact hd H' acc rs hp' hacc hpr hlen hS
end
section
variable {σ : L2.St} {H : Hp} {D : Ends} {c : TT} {t u : TS} {b : Bool}
/-- an if whose body may write to the pot; I is what is known behind it -/
theorem s_ifI (I : L2.St → Hp → Prop) (hc : EvT c σ H b) (h1 : b = true → ∀ H1, Ex H H1 → ∀ nx : L2.St → Hp → Prop, (∀ σ' H', I σ' H' → nx σ' H') → t { D with nx := nx } σ H1) (h2 : b = false → ∀ H1, Ex H H1 → I σ H1) (k : ∀ σ' H', I σ' H' → u D σ' H') : tSeq (tIfS c t tNext) u D σ H :=
  hc H (Ex.refl H) _ fun H1 e1 => by
    cases b with
    | true => exact h1 rfl H1 e1 _ k
    | false => exact k _ _ (h2 rfl H1 e1)
end
/-! ### plain parts -/
theorem num_turn {q : Rat} (h : Num q) : Num (100 - q) := by
  obtain ⟨h0, h1, u, hu, hb⟩ := h
  refine ⟨by grind, by grind, 4200 - u, ?_, ?_⟩
  · rw [Rat.intCast_sub, ← hu]
    show (100 - q) * 42 = 4200 - q * 42
    grind
  · have : (0 : Rat) ≤ (u : Rat) := by
      rw [← hu]
      exact Rat.mul_nonneg h0 (by decide)
    have : 0 ≤ u := Rat.intCast_nonneg.mp this
    omega
theorem pk_bits {r0 r1 : List Rat} {m : Nat} {value share : Rat} (l0 : r0.length = m) (l1 : r1.length = m) (mp : 0 < m) (h0 : ∀ q ∈ r0, Bits q 13) (h1 : ∀ q ∈ r1, Bits q 13) (pk : Pk r0 r1 m value share) : Bits value 200 := by
  have hm := leastAt_mem (s := share) l0 l1 mp
  rw [← pk.val] at hm
  obtain ⟨j, hj, e⟩ := List.getElem_of_mem hm
  rw [List.getElem_zipWith] at e
  rw [← e]
  exact (line_bits pk.bits (h0 _ (List.getElem_mem _)) (h1 _ (List.getElem_mem _))).2.2.2.mono (by decide)
section
variable {K : PySem.W.Frag} {σ : L2.St} {H : Hp} {ta tb tc : TE}
theorem gv_told3 {q : Rat} {qs cs : List Rat} (h0 : Gv ta σ H (fun v H' => FrV K H' v q)) (h1 : Gv tb σ H (fun v H' => RoV K H' v qs)) (h2 : Gv tc σ H (fun v H' => RoV K H' v cs)) : Gv (tTup (tCons ta (tCons tb (tCons tc tNil)))) σ H (fun v H' => ToV K H' v (q, qs, cs)) := fun H1 e Q k =>
  h0 H1 e _ fun v H2 e2 f => h1 H2 (e.trans e2) _ fun w H3 e3 r => h2 H3 ((e.trans e2).trans e3) _ fun z H4 e4 r2 => ⟨by show 3 ≤ sizeLine; decide, fun p hp =>
    k _ _ (((e2.trans e3).trans e4).trans (Ex.new hp)) ⟨p, v, w, z, rfl, st_of upd_same, f.mono (ExT.of ((e3.trans e4).trans (Ex.new hp))), RoV.mono (ExT.of (e4.trans (Ex.new hp))) r, RoV.mono (ExT.of (Ex.new hp)) r2⟩⟩
end
theorem getD_snoc {r : List Rat} {a : Rat} {m : Nat} (l : r.length = m) : (r ++ [a]).getD m 0 = a := by
  rw [Sx.getD_app, if_neg (by omega), l, Nat.sub_self]; rfl
theorem getD_snoc_lt {r : List Rat} {a : Rat} {m j : Nat} (l : r.length = m) (h : j < m) : (r ++ [a]).getD j 0 = r.getD j 0 := by
  rw [Sx.getD_app, if_pos (by omega)]
theorem two_mat {r0 r1 : List Rat} {m : Nat} (l0 : r0.length = m) (l1 : r1.length = m) (mp : 0 < m) : Mat 2 m [r0, r1] := by
  refine ⟨rfl, fun r hr => ?_, by decide, mp⟩
  rcases List.mem_cons.mp hr with z | z
  · rw [z]; exact l0
  · rw [List.mem_singleton] at z; rw [z]; exact l1
theorem two_num {r0 r1 : List Rat} (h0 : ∀ q ∈ r0, Num q) (h1 : ∀ q ∈ r1, Num q) : ∀ row ∈ [r0, r1], ∀ q ∈ row, Num q := fun row hr q hq => by
  rcases List.mem_cons.mp hr with z | z
  · rw [z] at hq; exact h0 q hq
  · rw [List.mem_singleton] at z; rw [z] at hq; exact h1 q hq
theorem num_bits {q : Rat} (h : Num q) : Bits q 13 := h.2.2.bits (by decide) (by decide) (by decide)
/-- the peak's share shows the value from one side -/
theorem pk_shows {r0 r1 : List Rat} {m : Nat} {value share : Rat} {rs cs : List Rat} (l0 : r0.length = m) (l1 : r1.length = m) (pk : Pk r0 r1 m value share) (s : Shows [r0, r1] 2 m value rs cs) : Shows [r0, r1] 2 m value [share, 1 - share] cs := by
  refine ⟨rfl, s.cl, fun q hq => ?_, s.c0, ?_, s.csum, fun j hj => ?_, s.row⟩
  · have := pk.s0
    have := pk.s1
    rcases List.mem_cons.mp hq with z | z
    · rw [z]; exact pk.s0
    · rw [List.mem_singleton] at z; rw [z]; grind
  · show 0 + share + (1 - share) = 1
    grind
  · show value ≤ 0 + share * r0.getD j 0 + (1 - share) * r1.getD j 0
    rw [pk.val]
    have := leastAt_le (s := share) l0 l1 hj
    grind
theorem mul_den (q : Rat) : q * ((q.den : Int) : Rat) = (q.num : Rat) := by
  have h : ((q.den : Int) : Rat) ≠ 0 := by
    rw [Rat.intCast_natCast]
    have := Rat.natCast_pos.mpr q.den_pos
    grind
  have e := Rat.num_divInt_den q
  rw [Rat.divInt_eq_div] at e
  generalize hd : ((q.den : Int) : Rat) = d at *
  generalize (q.num : Rat) = u at *
  rw [← e]
  exact Rat.div_mul_cancel h
theorem share_cd {N B : Nat} {share : Rat} (hN : N ≤ 2 ^ 2047) (hB : B ≤ 2 ^ 2047) (N0 : 0 < N) (B0 : 0 < B) (hs : Bits share 60) {cs : List Rat} (hc : ∀ q ∈ cs, Cd N B q) :
    ∃ d C : Nat, 0 < d ∧ d < 2 ^ 2130 ∧ 0 < C ∧ C < 2 ^ 2130 ∧ (∀ q ∈ [share, 1 - share], Cd d C q) ∧ ∀ q ∈ cs, Cd d C q := by
  have e : 2 ^ 2130 = 2 ^ 2047 * (2 ^ 60 * 2 ^ 23) := by rw [← Nat.pow_add, ← Nat.pow_add]
  have dp : 0 < share.den := share.den_pos
  have h1 : share.num.natAbs < 2 ^ 60 := hs.1
  have h2 : share.den < 2 ^ 60 := hs.2
  rw [e]
  have sc : Cd share.den share.num.natAbs share := ⟨share.num, by rw [← Rat.intCast_natCast]; exact mul_den share, Nat.le_refl _⟩
  have so : Cd share.den share.den 1 := ⟨(share.den : Int), by rw [Rat.one_mul, Rat.intCast_natCast], by rw [Int.natAbs_natCast]; exact Nat.le_refl _⟩
  have p0 : 0 < 2 ^ 2047 := Nat.pow_pos (by decide)
  generalize 2 ^ 2047 = P at *
  rw [show (2 : Nat) ^ 60 = 1152921504606846976 from rfl] at *
  rw [show (2 : Nat) ^ 23 = 8388608 from rfl]
  have m1 : N * share.den ≤ P * 1152921504606846976 := Nat.mul_le_mul hN (Nat.le_of_lt h2)
  have m2 : B * share.den ≤ P * 1152921504606846976 := Nat.mul_le_mul hB (Nat.le_of_lt h2)
  have m3 : share.num.natAbs * N ≤ 1152921504606846976 * P := Nat.mul_le_mul (Nat.le_of_lt h1) hN
  have m4 : share.den * N ≤ 1152921504606846976 * P := Nat.mul_le_mul (Nat.le_of_lt h2) hN
  refine ⟨N * share.den, B * share.den + (share.den * N + share.num.natAbs * N), Nat.mul_pos N0 dp, by omega, ?_, by omega, fun q hq => ?_, fun q hq => (Cd.scale (k := share.den) (hc q hq)).mono (by omega)⟩
  · have := Nat.mul_pos B0 dp
    omega
  · have s1 := Cd.scale (k := N) sc
    have s2 := (Cd.scale (k := N) so).sub s1
    rw [Nat.mul_comm share.den N] at s1
    rcases List.mem_cons.mp hq with z | z
    · rw [z]; exact s1.mono (by omega)
    · rw [List.mem_singleton] at z
      rw [z]
      have e3 : share.den * N = N * share.den := Nat.mul_comm _ _
      rw [e3] at s2
      exact s2.mono (by omega)
end Mx
end
section
set_option Elab.async false
set_option linter.all false
set_option maxRecDepth 100000
set_option maxHeartbeats 4000000
/-! _law_are_lines_right. -/
namespace Mx
open PySem L2 Evl Fra
open Sx (Mat ent Told Shows)
abbrev sAreLines : Stmt := top 51
def spAreLines : Sp := fun vs H Q _ => ∃ (p : Addr) (H0 : Hp) (t : Nat), vs = [.ref p] ∧ PoV H0 H p t ∧ t + 400 < 100000 ∧ ∀ H', PoV H0 H' p (t + 400) → Q (.bl true) H'
abbrev rTupOf (K : PySem.W.Frag) : List V → Hp → VK → Prop := fun xs H Q => ∃ p ys, xs = [.ref p] ∧ ((SqL K H p ys ∧ ∀ l, H l = none → Q (.ref l) (upd H l (.tup ys))) ∨ (SqT K H p ys ∧ Q (.ref p) H))
section
variable {P : Program} {w : World} {K : PySem.W.Frag} {mg : Str → Option Value} {base : Heap}
theorem scAre : FnScope ["pot", "matrix", "value", "share", "told", "at", "worse", "other", "row", "number"] ["pot"] (defScope sAreLines) := ⟨rfl, rfl, rfl, by decide +kernel, rfl, by decide +kernel, by decide +kernel⟩
theorem ok_are_lines (T : Bt mg) (F : Dn K mg "_law_are_lines_right" sAreLines ["pot"]) (GO : Fn P w K mg base "_law_of" ["pot", "some"] 2 spOf) (GL : Fn P w K mg base "_law_lines" ["pot", "many"] 4 (spLines K)) (GPk : Fn P w K mg base "_law_peak" ["matrix"] 4 (spPeak K))
    (GR : FnG P w K mg base "_law_is_right" ["pot", "matrix", "value"] 9 (spIsRight K)) (GM : Fn P w K mg base "matrix_told" ["matrix"] 8 (spTold K)) (GS : Fn P w K mg base "shows_matrix" ["matrix", "value"] 6 (spShows K))
    (GN : Fn P w K mg base "_law_minus" ["one", "other"] 2 (spFr2 K (· - ·) (CL (· - ·)))) (GT : Fn P w K mg base "_law_take" ["pot", "upto"] 1 spTake) (GU : Fn P w K mg base "_law_turned" ["matrix"] 1 (spTurned K)) :
    FnG P w K mg base "_law_are_lines_right" ["pot"] 10 spAreLines := by
  refine F.fnG scAre (fun vs H Q E h => ?_) (fun f cdv A outer s0 H vs Q E hg hr h => ?_)
  · obtain ⟨_, _, _, rfl, _⟩ := h; rfl
  obtain ⟨p, H0, t, rfl, hp, ht, k⟩ := h
  refine ⟨_, pss_cons (ps_set (i := 1) scAre.nd rfl (.inl rfl) (pe_fn GL (hr.mono (by decide)) (pa_cons (pv 0) (pa_cons (pe_callTy call_int1 (by rfl) T.int (by decide +kernel) (pa_cons (pe_fn GO (hr.mono (by decide)) (pa_cons (pv 0) (pa_cons (pe_lst (pa_cons pe_int (pa_cons pe_int (pa_cons pe_int (pa_cons pe_int (pa_cons pe_int (pa_cons pe_int pa_nil))))))) pa_nil))) pa_nil)) pa_nil))))
    (pss_cons (ps_asg (pe_fn GPk (hr.mono (by decide)) (pa_cons (pv 1) pa_nil)) (pg_tup (by rfl) (pgs_cons (pg_name (i := 2) scAre.nd rfl (Or.inl rfl)) (pgs_cons (pg_name (i := 3) scAre.nd rfl (Or.inl rfl)) pgs_nil))))
    (pss_cons (ps_if (pt_not (pt_val (pe_fnG GR hg hr (pa_cons (pv 0) (pa_cons (pv 1) (pa_cons (pv 2) pa_nil)))))) (pss_one (ps_ret pe_bl)) pss_nil)
    (pss_cons (ps_set (i := 4) scAre.nd rfl (.inl rfl) (pe_fn GM (hr.mono (by decide)) (pa_cons (pv 1) pa_nil)))
    (pss_cons (ps_if (pt_cmpR (r := rIsNB) op_isnot_bl (pe_fn GS (hr.mono (by decide)) (pa_cons (pv 1) (pa_cons (pe_tup (pa_cons (pv 2) (pa_cons (pe_tup (pa_cons (pv 3) (pa_cons (pe_fn GN (hr.mono (by decide)) (pa_cons (pe_tup (pa_cons pe_int (pa_cons pe_int pa_nil))) (pa_cons (pv 3) pa_nil))) pa_nil))) (pa_cons (pe_ix ix_tup (pv 4) pe_int (fun _ _ => rfl)) pa_nil)))) pa_nil))) pe_bl (nomark _)) (pss_one (ps_ret pe_bl)) pss_nil)
    (pss_cons (ps_set (i := 5) scAre.nd rfl (.inr rfl) (pe_fn GT (hr.mono (by decide)) (pa_cons (pv 0) (pa_cons (pe_callB call_len (by rfl) T.len PySem.boot_len (pa_cons (pe_ix ix_tup (pv 1) pe_int (fun _ _ => rfl)) pa_nil)) pa_nil))))
    (pss_cons (ps_if (pt_cmpR op_lt (pe_callB call_len (by rfl) T.len PySem.boot_len (pa_cons (pe_ix ix_tup (pv 1) pe_int (fun _ _ => rfl)) pa_nil)) pe_int (nomark _))
        (pss_cons (ps_set (i := 6) scAre.nd rfl (.inl rfl) (pe_callTy call_tuple_of (by rfl) T.tuple (by decide +kernel) (pa_cons (pe_lc (own := [("row", 8)]) (g := gName 8) (by rfl) scAre.nd (pi_tup (pv 1)) (blkOk_by (own := [("row", 8)]) (N := ["pot", "matrix", "value", "share", "told", "at", "worse", "other", "row", "number"]) (sc := defScope sAreLines) (by decide +kernel))
          (fun _ _ _ _ _ => pg_name (i := 8) scAre.nd rfl (Or.inl rfl)) (fun _ _ _ _ _ => pts_nil) (fun _ _ _ _ _ => pe_op (r := rCatA K) op_catA (pv 8) (pe_tup (pa_cons (pe_fn GO (hr.mono (by decide)) (pa_cons (pv 0) (pa_cons (pe_lst (pa_cons (pe_ix (r := rIxT K) ix_tup (pv 8) (pv 5) (fun _ _ => rfl)) (pa_cons (pe_tup (pa_cons pe_int (pa_cons pe_int pa_nil))) pa_nil))) pa_nil))) pa_nil)))) pa_nil)))
        (pss_one (ps_if (pt_cmpR op_ne (pe_callB (call_repr_F hg hr.units) (by rfl) T.repr (by decide +kernel) (pa_cons (pe_ix ix_tup (pe_fn GM (hr.mono (by decide)) (pa_cons (pv 6) pa_nil)) pe_int (fun _ _ => rfl)) pa_nil)) (pe_callB (call_repr_F hg hr.units) (by rfl) T.repr (by decide +kernel) (pa_cons (pv 2) pa_nil)) (nomark _)) (pss_one (ps_ret pe_bl)) pss_nil))) pss_nil)
    (pss_cons (ps_set (i := 7) scAre.nd rfl (.inl rfl) (pe_fn GU (hr.mono (by decide)) (pa_cons (pe_callTy call_tuple_of (by rfl) T.tuple (by decide +kernel) (pa_cons (pe_lc (own := [("row", 8)]) (g := gName 8) (by rfl) scAre.nd (pi_tup (pv 1)) (blkOk_by (own := [("row", 8)]) (N := ["pot", "matrix", "value", "share", "told", "at", "worse", "other", "row", "number"]) (sc := defScope sAreLines) (by decide +kernel))
        (fun _ _ _ _ _ => pg_name (i := 8) scAre.nd rfl (Or.inl rfl)) (fun _ _ _ _ _ => pts_nil) (fun _ _ _ _ _ => pe_callTy (r := rTupOf K) call_tuple_of (by rfl) T.tuple (by decide +kernel)
          (pa_cons (pe_lc (own := [("number", 9)]) (wi := iTup K (tVar 8)) (g := gName 9) (by rfl) scAre.nd (pi_tup (pv 8)) (blkOk_by (own := [("number", 9)]) (N := ["pot", "matrix", "value", "share", "told", "at", "worse", "other", "row", "number"]) (sc := { kind := .function, names := [(".0", .local), ("row", .local), ("tuple", .globalImplicit)], isGenerator := false, isCoroutine := false }) (by decide +kernel)) (fun _ _ _ _ _ => pg_name (i := 9) scAre.nd rfl (Or.inl rfl)) (fun _ _ _ _ _ => pts_nil)
            (fun _ _ _ _ _ => pe_fn GN (hr.mono (by decide)) (pa_cons (pe_tup (pa_cons pe_int (pa_cons pe_int pa_nil))) (pa_cons (pv 9) pa_nil)))) pa_nil))) pa_nil)) pa_nil)))
    (pss_one (ps_ret (pe_fnG GR hg hr (pa_cons (pv 0) (pa_cons (pv 7) (pa_cons (pe_fn GN (hr.mono (by decide)) (pa_cons (pe_tup (pa_cons pe_int (pa_cons pe_int pa_nil))) (pa_cons (pv 2) pa_nil))) pa_nil))))))))))))), ?_⟩
  refine sq ⟨_, rfl, _, rfl, by show 6 ≤ sizeLine; decide, fun L hL => ?_⟩
  refine ⟨p, L, H0, _, t, rfl, hp.mono (Ex.new hL), upd_same, hp.ne hL, by show 0 < 6; decide, by show 6 ≤ 1000; decide, by omega, fun i v H1 hi g1 _ => ?_⟩
  obtain ⟨m, rfl, m0, m32⟩ : ∃ m : Nat, v = .int (m : Nat) ∧ 0 < m ∧ m ≤ 32 := by
    have := List.mem_of_getElem? hi
    simp only [List.mem_cons, List.not_mem_nil, or_false] at this
    rcases this with z | z | z | z | z | z
    · exact ⟨1, z, by decide, by decide⟩
    · exact ⟨2, z, by decide, by decide⟩
    · exact ⟨3, z, by decide, by decide⟩
    · exact ⟨5, z, by decide, by decide⟩
    · exact ⟨9, z, by decide, by decide⟩
    · exact ⟨32, z, by decide, by decide⟩
  refine .inl ⟨_, rfl, p, H0, t + 1, m, rfl, g1, m0, m32, by omega, fun mv H2 r0 r1 hmv l0 l1 nm0 nm1 hp2 => ?_⟩
  dsimp only
  have mat := two_mat l0 l1 m0
  have nums := two_num nm0 nm1
  have good : Good [r0, r1] 2 m := good_num mat (by omega) nums (Nat.min_le_left _ _)
  have bt0 : ∀ q ∈ r0, Bits q 13 := fun q hq => num_bits (nm0 q hq)
  have bt1 : ∀ q ∈ r1, Bits q 13 := fun q hq => num_bits (nm1 q hq)
  refine sq ⟨_, rfl, mv, r0, r1, m, rfl, hmv, l0, l1, m0, by omega, bt0, bt1, fun pv' H3 value share e3 hpe pk => ?_⟩
  obtain ⟨pa', vv, vs', rfl, hpt, fv, fs⟩ := hpe
  refine ⟨pa', _, rfl, hpt, rfl, _, _, rfl, _, _, rfl, rfl, ?_⟩
  dsimp only at fv fs
  have vb := pk_bits l0 l1 m0 bt0 bt1 pk
  have iv : IsVal [r0, r1] 2 m value := fun v rs cs s => peak_val l0 l1 m0 s pk
  have hp3 := hp2.mono e3
  have hm3 := MaV.mono (ExT.of e3) hmv
  refine sq ⟨_, rfl, _, rfl, _, rfl, p, mv, vv, hide H3 p, t + 301, 2, m, [r0, r1], value, rfl, hp3.here, hm3, good, fv, iv, vb.mono (by decide), by omega, fun H4 g4 => ⟨true, rfl, ?_⟩⟩
  have hp4 := hp3.base g4
  have x4 := hp3.extT g4
  have hm4 := MaV.mono x4 hm3
  have fv4 := fv.mono x4
  have fs4 := fs.mono x4
  dsimp only
  rw [if_neg (by decide)]
  show tSeq _ _ _ _ _
  refine sq ⟨_, rfl, mv, _, 2, m, rfl, hm4, good, fun vt H5 x e5 hv hT => ?_⟩
  have s := hT.shows_
  obtain ⟨N, N0, NB, hcr, hcc, _⟩ := hT.den
  have ev := iv _ _ _ s
  obtain ⟨xv, rs, cs⟩ := x
  dsimp only at ev hv s hcr hcc
  subst ev
  have vn := val_nonneg good s
  obtain ⟨d, C, d0, dlt, C0, Clt, csh, ccs⟩ := share_cd NB (Nat.le_refl (2 ^ 2047)) N0 (Nat.pow_pos (by decide)) pk.bits hcc
  have sh2 := pk_shows l0 l1 pk s
  have ft : FitX (xv, [share, 1 - share], cs) d C := ⟨vb.mono (by decide), d0, dlt, C0, Clt, csh, ccs, by show 2 ≤ 64; decide, by show cs.length ≤ 64; rw [s.cl]; omega⟩
  have hm5 := MaV.mono (ExT.of e5) hm4
  have fv5 := fv4.mono (ExT.of e5)
  have fs5 := fs4.mono (ExT.of e5)
  obtain ⟨tv, w0, w1, w2, rfl, htv, f0, ro1, ro2⟩ := id hv
  have bo : Bits (1 : Rat) 1 := ⟨by decide, by decide⟩
  have bsh : Bits (1 - share) 70 := (bo.sub pk.bits).mono (by decide)
  have gX := gv_told3 (K := K) (σ := [some (.ref p), some mv, some vv, some vs', some (.ref tv), none, none, none, none, none]) (H := H5) (gv_var (i := 2) rfl fun H' e => fv5.mono (ExT.of e))
    ((gv_tup2 (R := FrV) (gv_var (i := 3) rfl fun H' e => fs5.mono (ExT.of e)) (gv_fr2 (g := (· - ·)) (gv_frac (K := K) (a := 1) (b := 1) (q := 1) rfl rfl) (gv_var (i := 3) rfl fun H' e => fs5.mono (ExT.of e)) bo pk.bits (by decide) (CL.of (g := (· - ·)) bsh (by decide))) FrV.ex).imp fun v H' _ h => h.tu)
    (tc := tOp (rIxT K) (tVar 4) (tC (.int 2))) (cs := cs) (fun H' e Q q => ⟨_, rfl, tv, _, 2, w2, rfl, rfl, ex_t e htv, rfl, q _ _ (Ex.refl _) (RoV.mono (ExT.of e) ro2)⟩)
  have test1 := et_isNB (b := true) (ev_shows (i := 1) (b := true) rfl hm5 good gX ft ⟨fun _ => ⟨vn, sh2⟩, fun _ => rfl⟩)
  dsimp only
  refine s_ifret test1 (fun yes => absurd yes (by decide)) fun no H6 e6 => ?_
  have x6 := (ExT.of e5).trans (ExT.of e6)
  have hm6 := MaV.mono x6 hm4
  have hp6 := ((hp4.mono e5).mono e6).le (show t + 301 + 4 ≤ t + 305 by omega)
  obtain ⟨am, vsm, rfl, htm, hpm⟩ := hm6
  obtain ⟨a0, a1, ws0, ws1, rfl, ht0, hp0, ht1, hp1⟩ : ∃ a0 a1 ws0 ws1, vsm = [.ref a0, .ref a1] ∧ SqT K H6 a0 ws0 ∧ Paired (FrV K H6) ws0 r0 ∧ SqT K H6 a1 ws1 ∧ Paired (FrV K H6) ws1 r1 := by
    cases hpm with
    | cons h t => cases t with
      | cons h' t' =>
        cases t'
        obtain ⟨b0, vs0, rfl, q0, q1⟩ := h
        obtain ⟨b1, vs1, rfl, q2, q3⟩ := h'
        exact ⟨b0, b1, vs0, vs1, rfl, q0, q1, q2, q3⟩
  have len0 : ws0.length = m := by rw [Paired.length hp0]; exact l0
  refine sq ⟨_, rfl, ev_lenT (K := K) (n := m) (ev_op (ev_var rfl) ev_c (rv_ixT htm (v := .ref a0) rfl)) ht0 len0 _ (Ex.refl _) _ fun H7 e7 => ⟨p, hide H7 p, (m : Int), t + 305, rfl, (hp6.mono e7).here, by omega, by omega, by omega, fun d1 H8 hd1 g8 => ?_⟩⟩
  have hp8 := (hp6.mono e7).base g8
  have x8 := (ExT.of e7).trans ((hp6.mono e7).extT g8)
  have hd1m : d1 < m := by omega
  have htm8 := x8.t htm
  have ht08 := x8.t ht0
  dsimp only
  have test2 : EvT (tTest (tOp (rI0 fun i j => .bl (decide (i < j))) (tCB (fun xs H Q => ∃ x n, xs = [x] ∧ LenV K x H n ∧ Q (.int n) H) (tCons (tOp (rIxT K) (tVar 1) (tC (.int 0))) tNil)) (tC (.int 32)))) [some (.ref p), some (.ref am), some vv, some vs', some (.ref tv), some (.int d1), none, none, none, none] H8 (decide ((m : Int) < 32)) :=
    et_cmp (ev_lenT (K := K) (n := m) (ev_op (ev_var rfl) ev_c (rv_ixT htm8 (v := .ref a0) rfl)) ht08 len0) ev_c (rv_I0 (g := fun i j => .bl (decide (i < j))))
  refine s_ifI (fun σ' H' => ∃ o6, σ' = [some (.ref p), some (.ref am), some vv, some vs', some (.ref tv), some (.int d1), o6, none, none, none] ∧ PoV H0 H' p (t + 308) ∧ ExT H8 H') test2 (fun yes H9 e9 nx hk => ?_) (fun no H9 e9 => ⟨none, rfl, (hp8.mono e9).le (by omega), ExT.of e9⟩) ?_
  · have m32' : m < 32 := by
      have := of_decide_eq_true yes
      omega
    have hp9 := hp8.mono e9
    have x9 : ExT H6 H9 := x8.trans (ExT.of e9)
    obtain ⟨po, pq, pr, hpot, _⟩ := hp9.pot
    have xh : ExT H9 (hide H9 p) := extT_hide hpot
    have hpmh : Paired (RoV K (hide H9 p)) [V.ref a0, V.ref a1] [r0, r1] := L2.Paired.mapP hpm fun v x r => RoV.mono (x9.trans xh) r
    refine sq ⟨_, rfl, am, rfl, ⟨_, x9.t htm⟩, fun D hD => ?_⟩
    refine lcPi (K := K) (R := RoV) (S := fun i r => ∃ a xr, [r0, r1][i]? = some xr ∧ r = xr ++ [a] ∧ Num a ∧ xr.getD d1 0 ≤ a) (n := 2) (c := 1) (t := t + 306) (B := fun i H' v => ∃ x, [r0, r1][i]? = some x ∧ RoV K H' v x) (wk_tup ((x9.trans xh).t htm) hpmh RoV.ex) (hp9.here.le (by omega)) hD (by decide)
      (fun _ _ _ _ e r => RoV.mono e r) (fun i x H' Q' hi g hB kk => ?_) fun H10 acc rsw g10 hacc hpr hlen hS => ?_
    · obtain ⟨xr, hxr, ⟨ax, wsx, rfl, htx, hpx⟩⟩ := hB
      have xm : xr.length = m ∧ ∀ q ∈ xr, Num q := ⟨mat.each _ (List.mem_of_getElem? hxr), nums _ (List.mem_of_getElem? hxr)⟩
      have wl : wsx.length = m := by rw [Paired.length hpx]; exact xm.1
      obtain ⟨z, hz, fz⟩ := paired_at hpx (some_getD (d := 0) (by omega : d1 < xr.length))
      refine kk [some (.ref p), some (.ref am), some vv, some vs', some (.ref tv), some (.int d1), none, none, some (.ref ax), none] H' (Ex.refl _) rfl fun Q2 q2 => ?_
      refine ⟨_, rfl, _, rfl, _, rfl, _, rfl, ax, wsx, (d1 : Int), z, rfl, rfl, htx, atI_nat hz, by show 2 ≤ sizeLine; decide, fun c hc => ⟨by show 2 ≤ sizeLine; decide, fun Lq hLq => ?_⟩⟩
      have ec := Ex.new (o := .tup [.int 100, .int 1]) hc
      have eL := Ex.new (o := .lst [z, .ref c]) hLq
      have gl := (g.here.mono ec).mono eL
      refine ⟨p, Lq, hide H' p, _, t + 306 + i * 1, rfl, gl, upd_same, ((g.mono ec).ne hLq), by show 0 < 2; decide, by show 2 ≤ 1000; decide, by omega, fun i2 v H11 hi2 g11 g11h => ⟨by show 1 ≤ sizeLine; decide, fun e he => ?_⟩⟩
      have xT : ExT H' H11 := ((ExT.of ec).trans (ExT.of eL)).trans (((g.mono ec).mono eL).extT g11h)
      have ee := Ex.new (o := .tup [v]) he
      obtain ⟨a, fa, na, ga⟩ : ∃ a, FrV K H11 v a ∧ Num a ∧ xr.getD d1 0 ≤ a := by
        have nz := xm.2 _ (mem_getD (by omega : d1 < xr.length))
        match i2, hi2 with
        | 0, h =>
          simp at h
          exact ⟨_, by rw [← h]; exact fz.mono xT, nz, Rat.le_refl⟩
        | 1, h =>
          simp at h
          refine ⟨100, ?_, ⟨by decide, by decide, 4200, by decide +kernel, by decide⟩, nz.2.1⟩
          rw [← h]
          exact FrV.mono ((ExT.of eL).trans (((g.mono ec).mono eL).extT g11h)) (FrV.new (q := 100) rfl rfl)
        | k + 2, h => simp at h
      have x12 := xT.trans (ExT.of ee)
      refine ⟨ax, e, wsx, [v], rfl, rfl, x12.t htx, st_of upd_same, by show wsx.length + 1 ≤ sizeLine; exact Nat.le_trans (by omega : wsx.length + 1 ≤ 65) (by decide), (fun z => by rw [z] at wl; exact absurd wl (by show ¬ 0 = m; omega)), (fun _ z => by cases z), fun _ _ l hl => ?_⟩
      have el := Ex.new (o := .tup (wsx ++ [v])) hl
      exact q2 _ _ (xr ++ [a]) (((g11.mono ee).mono el).le (by omega)) ⟨l, wsx ++ [v], rfl, st_of upd_same, paired_append (L2.Paired.mapP hpx fun v x r => r.mono (x12.trans (ExT.of el))) (.cons (fa.mono ((ExT.of ee).trans (ExT.of el))) .nil)⟩ ⟨a, xr, hxr, rfl, na, ga⟩
    · obtain ⟨s0, s1, rfl⟩ : ∃ s0 s1, rsw = [s0, s1] := by
        match rsw, hlen with
        | [a, b], _ => exact ⟨a, b, rfl⟩
      obtain ⟨b0, y0, hy0, rfl, nb0, gb0⟩ := hS 0 s0 rfl
      obtain ⟨b1, y1, hy1, rfl, nb1, gb1⟩ := hS 1 s1 rfl
      obtain rfl : r0 = y0 := by simpa using hy0
      obtain rfl : r1 = y1 := by simpa using hy1
      refine ⟨D, acc, rfl, .inl ⟨sq_of hacc, fun l hl => ?_⟩⟩
      have el := Ex.new (o := .tup acc) hl
      have hmW : MaV K (upd H10 l (.tup acc)) (.ref l) [r0 ++ [b0], r1 ++ [b1]] := ⟨l, acc, rfl, st_of upd_same, L2.Paired.mapP hpr fun v x r => RoV.mono (ExT.of el) r⟩
      have matW := two_mat (m := m + 1) (r0 := r0 ++ [b0]) (r1 := r1 ++ [b1]) (by rw [List.length_append, l0]; rfl) (by rw [List.length_append, l1]; rfl) (by omega)
      have numW := two_num (r0 := r0 ++ [b0]) (r1 := r1 ++ [b1]) (fun q hq => by
        rcases List.mem_append.mp hq with z | z
        · exact nm0 q z
        · rw [List.mem_singleton] at z; rw [z]; exact nb0) (fun q hq => by
        rcases List.mem_append.mp hq with z | z
        · exact nm1 q z
        · rw [List.mem_singleton] at z; rw [z]; exact nb1)
      have goodW : Good [r0 ++ [b0], r1 ++ [b1]] 2 (m + 1) := good_num matW (by omega) numW (Nat.min_le_left _ _)
      have entW : ∀ i j, i < 2 → j < m → ent [r0 ++ [b0], r1 ++ [b1]] i j = ent [r0, r1] i j := fun i j hi hj => by
        obtain rfl | rfl : i = 0 ∨ i = 1 := by omega
        · exact getD_snoc_lt l0 hj
        · exact getD_snoc_lt l1 hj
      have geW : ∀ i, i < 2 → ent [r0, r1] i d1 ≤ ent [r0 ++ [b0], r1 ++ [b1]] i m := fun i hi => by
        obtain rfl | rfl : i = 0 ∨ i = 1 := by omega
        · show r0.getD d1 0 ≤ (r0 ++ [b0]).getD m 0
          rw [getD_snoc l0]; exact gb0
        · show r1.getD d1 0 ≤ (r1 ++ [b1]).getD m 0
          rw [getD_snoc l1]; exact gb1
      have xW : ExT H9 (upd H10 l (.tup acc)) := (hp9.extT g10).trans (ExT.of el)
      have hpW := (hp9.base g10).mono el
      have fvW : FrV K (upd H10 l (.tup acc)) vv xv := fv4.mono ((x6.trans x9).trans xW)
      generalize upd H10 l (.tup acc) = HW at *
      have gW : Gv (tOp (rIxT K) (tCall (spTold K) [] E0 (tCons (tVar 6) tNil)) (tC (.int 0))) [some (.ref p), some (.ref am), some vv, some vs', some (.ref tv), some (.int d1), some (.ref l), none, none, none] HW (fun v H' => FrV K H' v xv) := fun H' e Q q =>
        ⟨_, rfl, .ref l, _, 2, m + 1, rfl, MaV.mono (ExT.of e) hmW, goodW, fun vt' H12 x' e12 hv' hT' => by
          obtain ⟨tv', u0, u1, u2, rfl, htv', fu0, _, _⟩ := hv'
          have e' := Sx.worse_val mat matW hd1m entW geW s hT'.shows_
          exact ⟨tv', _, 0, u0, rfl, rfl, htv', rfl, q _ _ e12 (by rw [← e']; exact fu0)⟩⟩
      have test3 := et_neSame rfl (ev_rep gW (vb.mono (by decide))) (ev_rep (gv_var (i := 2) rfl fun H' e => fvW.mono (ExT.of e)) (vb.mono (by decide)))
      dsimp only
      refine test3 _ (Ex.refl _) _ fun H13 e13 => ?_
      rw [if_neg (by decide)]
      exact hk _ _ ⟨some (.ref l), rfl, (hpW.mono e13).le (by omega), ((ExT.of e9).trans xW).trans (ExT.of e13)⟩
  · rintro σ' H14 ⟨o6, rfl, hp14, x14⟩
    have x14' := x8.trans x14
    have htm14 := x14'.t htm
    have hpm14 : Paired (RoV K H14) [V.ref a0, V.ref a1] [r0, r1] := L2.Paired.mapP hpm fun v x r => RoV.mono x14' r
    have fv14 := fv4.mono (x6.trans x14')
    have b100 : Bits (100 : Rat) 7 := ⟨by decide +kernel, by decide +kernel⟩
    have lc := gv_lc (R := RoV) (K := K) (g := gName 8) (te := tCB (rTupOf K) (tCons (tLc (iTup K (tVar 8)) (gName 9) tYes (tCall (spFr2 K (· - ·) (CL (· - ·))) [] E0 (tCons (tTup (tCons (tC (.int 100)) (tCons (tC (.int 1)) tNil))) (tCons (tVar 9) tNil))) [9]) tNil)) (vs := [8])
      (σ := [some (.ref p), some (.ref am), some vv, some vs', some (.ref tv), some (.int d1), o6, none, none, none]) (H := H14) (gi_tup (K := K) (t := tVar 1) (ev_var (i := 1) rfl) htm14 hpm14 RoV.ex).gn (by show 2 ≤ 100000; decide) (fun i => ([r0, r1].getD i []).map (100 - ·)) (fun _ _ _ _ e r => RoV.mono e r)
      (fun i x H4 Q1 hi e4 ⟨c, hc, ⟨ra, rws, er, hrt, hrp⟩⟩ kk => by
        subst er
        refine kk [some (.ref p), some (.ref am), some vv, some vs', some (.ref tv), some (.int d1), o6, none, some (.ref ra), none] H4 (Ex.refl _) rfl ?_
        have hcm := List.mem_of_getElem? hc
        have cl := mat.each c hcm
        have inner := gv_lc (R := FrV) (K := K) (g := gName 9) (te := tCall (spFr2 K (· - ·) (CL (· - ·))) [] E0 (tCons (tTup (tCons (tC (.int 100)) (tCons (tC (.int 1)) tNil))) (tCons (tVar 9) tNil))) (vs := [9])
          (σ := [some (.ref p), some (.ref am), some vv, some vs', some (.ref tv), some (.int d1), o6, none, some (.ref ra), none]) (H := H4) (gi_tup (K := K) (t := tVar 8) (ev_var (i := 8) rfl) hrt hrp FrV.ex).gn (by rw [cl]; omega) (fun j => 100 - c.getD j 0) (fun _ _ _ _ e r => r.mono e)
          (fun j y H5 Q2 hj e5 ⟨q, hq, fq⟩ kk => by
            refine kk [some (.ref p), some (.ref am), some vv, some vs', some (.ref tv), some (.int d1), o6, none, some (.ref ra), some y] H5 (Ex.refl _) rfl ?_
            rw [getD_of hq]
            have nq := nums c hcm q (List.mem_of_getElem? hq)
            exact gv_fr2 (g := (· - ·)) (gv_frac (K := K) (a := 100) (b := 1) (q := 100) rfl rfl) (gv_var (i := 9) rfl fun H' e => fq.mono (ExT.of e)) b100 (num_bits nq) (by decide) (CL.of (g := (· - ·)) (n := 21) (b100.sub (num_bits nq)) (by decide)))
        rw [map_range c 0 (fun q => 100 - q)] at inner
        rw [getD_of hc]
        exact (gv_tupleOf inner FrV.ex).imp fun v H' _ h => h.tu)
    have rows : (List.range [r0, r1].length).map (fun i => ([r0, r1].getD i []).map (100 - ·)) = [r0.map (100 - ·), r1.map (100 - ·)] := rfl
    rw [rows] at lc
    have gT := gv_tupleOf lc RoV.ex
    have matT := two_mat (r0 := r0.map (100 - ·)) (r1 := r1.map (100 - ·)) (by rw [List.length_map]; exact l0) (by rw [List.length_map]; exact l1) m0
    have numT := two_num (r0 := r0.map (100 - ·)) (r1 := r1.map (100 - ·)) (fun q hq => by
      obtain ⟨q', hq', rfl⟩ := List.mem_map.mp hq
      exact num_turn (nm0 q' hq')) (fun q hq => by
      obtain ⟨q', hq', rfl⟩ := List.mem_map.mp hq
      exact num_turn (nm1 q' hq'))
    have matC := cols_mat matT
    have entT : ∀ i j, i < 2 → j < m → ent (colsOf [r0.map (100 - ·), r1.map (100 - ·)] m) j i = 100 - ent [r0, r1] i j := fun i j hi hj => by
      rw [cols_ent (n := 2) hj]
      obtain rfl | rfl : i = 0 ∨ i = 1 := by omega
      · show (r0.map (100 - ·)).getD j 0 = 100 - r0.getD j 0
        simp [List.getD_eq_getElem?_getD, show j < r0.length by omega]
      · show (r1.map (100 - ·)).getD j 0 = 100 - r1.getD j 0
        simp [List.getD_eq_getElem?_getD, show j < r1.length by omega]
    have numC := mem_ent matC (p := Num) fun j i hj hi => by
      rw [entT i j hi hj]
      obtain rfl | rfl : i = 0 ∨ i = 1 := by omega
      · exact num_turn (nm0 _ (mem_getD (by omega)))
      · exact num_turn (nm1 _ (mem_getD (by omega)))
    have goodC : Good (colsOf [r0.map (100 - ·), r1.map (100 - ·)] m) m 2 := good_num matC (by omega) numC (Nat.min_le_right _ _)
    have ivC : IsVal (colsOf [r0.map (100 - ·), r1.map (100 - ·)] m) m 2 (100 - xv) := fun v' rs' cs' s' => Sx.turned_val mat matC entT s s'
    have vbC : Bits (100 - xv) 1000 := (b100.sub vb).mono (by decide)
    have gU : Gv (tCall (spTurned K) [] E0 (tCons _ tNil)) [some (.ref p), some (.ref am), some vv, some vs', some (.ref tv), some (.int d1), o6, none, none, none] H14 (fun v H' => MaV K H' v (colsOf [r0.map (100 - ·), r1.map (100 - ·)] m)) :=
      gv_call (ga_cons gT ga_nil (fun v Ha Hb e r => by
        obtain ⟨D', vs'', ev', h1, h2, h3⟩ := r
        exact ⟨D', vs'', ev', h1, e _ _ h2, L2.Paired.mapP h3 fun v x r => RoV.mono (ExT.of e) r⟩)) fun vs'' H5 e5 ⟨v, r, ev, f1, er⟩ Q E q' => by
        subst ev er
        exact ⟨v, _, 2, m, rfl, f1.tu, matT, by decide, by omega, q'⟩
    refine sq (s_asgG gU fun ov H16 e14 hov => ?_)
    have fv16 := fv14.mono (ExT.of e14)
    refine ⟨_, rfl, _, rfl, gv_fr2 (g := (· - ·)) (gv_frac (K := K) (a := 100) (b := 1) (q := 100) rfl rfl) (gv_var (i := 2) rfl fun H' e => fv16.mono (ExT.of e)) b100 vb (by decide) (CL.of (g := (· - ·)) vbC (by decide)) _ (Ex.refl _) _ fun v17 H17 e17 fv17 => ?_⟩
    have hp17 := (hp14.mono e14).mono e17
    exact ⟨p, ov, v17, hide H17 p, t + 308, m, 2, _, 100 - xv, rfl, hp17.here, MaV.mono (ExT.of e17) hov, goodC, fv17, ivC, vbC, by omega, fun H18 g18 => k H18 ((hp17.base g18).le (by omega))⟩
end
end Mx
end
section
set_option Elab.async false
set_option linter.all false
set_option maxRecDepth 100000
set_option maxHeartbeats 4000000
/-! Before law. -/
namespace Mx
open PySem L2 Evl Fra
open Sx (Mat ent Told Shows)
theorem inv_parts {u : Rat} (h : 0 < u) : ((1 : Rat) / u).num = u.den ∧ (((1 : Rat) / u).den : Int) = u.num := by
  have np : 0 < u.num := by
    have h1 := Rat.num_nonneg.mpr (Rat.le_of_lt h)
    have h2 : u.num ≠ 0 := fun z => by
      rw [Rat.num_eq_zero.mp z] at h
      exact absurd h (by decide)
    omega
  have une : u ≠ 0 := by grind
  have nne : (u.num : Rat) ≠ 0 := by
    have := Rat.intCast_pos.mpr np
    grind
  have hm := mul_den u
  have e : (1 : Rat) / u = ⟨u.den, u.num.natAbs, by omega, by simpa using u.reduced.symm⟩ := by
    rw [Rat.mk_eq_divInt, Rat.divInt_eq_div, show ((u.num.natAbs : Nat) : Int) = u.num by omega]
    have h1 : (1 : Rat) / u * u = 1 := Rat.div_mul_cancel une
    have h2 : ((u.den : Int) : Rat) / (u.num : Rat) * (u.num : Rat) = ((u.den : Int) : Rat) := Rat.div_mul_cancel nne
    generalize (1 : Rat) / u = x at *
    generalize ((u.den : Int) : Rat) / (u.num : Rat) = y at *
    generalize ((u.den : Int) : Rat) = d at *
    generalize (u.num : Rat) = n at *
    have h3 : (x - y) * n = 0 := by
      have : x * n = d := by rw [← hm, ← Rat.mul_assoc, h1, Rat.one_mul]
      grind
    rcases Rat.mul_eq_zero.mp h3 with z | z
    · grind
    · exact absurd z nne
  rw [e]
  exact ⟨rfl, by show ((u.num.natAbs : Nat) : Int) = u.num; omega⟩
theorem Bits.inv1 {u : Rat} {a : Nat} (h : 0 < u) (b : Bits u a) : Bits (1 / u) a := by
  obtain ⟨h1, h2⟩ := inv_parts h
  obtain ⟨b1, b2⟩ := b
  refine ⟨by rw [h1]; exact nd b2, ?_⟩
  have : ((1 : Rat) / u).den = u.num.natAbs := by omega
  rw [this]; exact b1
/-- what is under the line -/
def unders (b : Nat) (ds : List Nat) : List Rat := ds.map fun k => 1 / ((k - b : Nat) : Rat)
theorem cast_sub {b k : Nat} (h : b ≤ k) : ((k - b : Nat) : Rat) = (k : Rat) - (b : Rat) := by
  obtain ⟨j, rfl⟩ : ∃ j, k = b + j := ⟨k - b, by omega⟩
  rw [Nat.add_sub_cancel_left, Rat.natCast_add]; grind
theorem unders_sm {b n : Nat} {ds : List Nat} (l : ds.length = n) (h : ∀ k ∈ ds, b < k) : sumQ (unders b ds) = Sx.sm n fun i => 1 / ((ds.getD i 0 : Rat) - (b : Rat)) := by
  rw [Sx.sumQ_sm]
  unfold unders
  rw [List.length_map, l]
  refine Sx.sm_congr fun i hi => ?_
  have e : ds[i]? = some (ds.getD i 0) := some_getD (by omega)
  have hk := h _ (List.mem_of_getElem? e)
  rw [List.getD_eq_getElem?_getD, List.getElem?_map, e]
  show 1 / ((ds.getD i 0 - b : Nat) : Rat) = _
  rw [cast_sub (Nat.le_of_lt hk)]
theorem unders_pos {b n : Nat} {ds : List Nat} (l : ds.length = n) (n0 : 0 < n) (h : ∀ k ∈ ds, b < k) : 0 < sumQ (unders b ds) := by
  rw [unders_sm l h]
  have each : ∀ i, i < n → (0 : Rat) < 1 / ((ds.getD i 0 : Rat) - (b : Rat)) := fun i hi => by
    have e : ds[i]? = some (ds.getD i 0) := some_getD (by omega)
    have hk := h _ (List.mem_of_getElem? e)
    rw [← cast_sub (Nat.le_of_lt hk)]
    have := Rat.inv_pos.mpr (Rat.natCast_pos.mpr (show 0 < ds.getD i 0 - b by omega))
    grind
  have h1 := Sx.sm_ge (f := fun i => 1 / ((ds.getD i 0 : Rat) - (b : Rat))) (fun i hi => Rat.le_of_lt (each i hi)) n0
  have h2 := each 0 n0
  generalize Sx.sm n (fun i => 1 / ((ds.getD i 0 : Rat) - (b : Rat))) = S at *
  generalize 1 / ((ds.getD 0 0 : Rat) - (b : Rat)) = x at *
  grind
theorem over_bits {k : Nat} (h : 0 < k) (h2 : k ≤ 100) : Bits ((1 : Rat) / (k : Rat)) 7 := (over_cd h).bits h (by have : 2 ^ 7 = 128 := rfl; omega) (by decide)
def diagF (b : Nat) (ds : List Nat) (i j : Nat) : Rat := if i = j then (ds.getD i 0 : Rat) else (b : Rat)
theorem diag_good {b n : Nat} {ds : List Nat} (l : ds.length = n) (n0 : 0 < n) (n8 : n ≤ 8) (hb : b ≤ 100) (h : ∀ k ∈ ds, k ≤ 100) : Good (Sx.mk n n (diagF b ds)) n n := by
  refine good_whole (Sx.mk_mat _ n0 n0) (by have := Nat.mul_le_mul n8 n8; omega) (by omega) fun i j hi hj => ?_
  rw [Sx.mk_ent _ hi hj]
  unfold diagF
  split
  · exact ⟨ds.getD i 0, rfl, h _ (List.mem_of_getElem? (some_getD (by omega)))⟩
  · exact ⟨b, rfl, hb⟩
theorem diag_isVal {b n : Nat} {ds : List Nat} (l : ds.length = n) (n0 : 0 < n) (h : ∀ k ∈ ds, b < k) : IsVal (Sx.mk n n (diagF b ds)) n n ((b : Rat) + 1 / sumQ (unders b ds)) := fun v rs cs s => by
  refine Sx.diag_val (d := fun i => (ds.getD i 0 : Rat)) n0 (fun i hi => ?_) (unders_sm l h) s
  have e : ds[i]? = some (ds.getD i 0) := some_getD (by omega)
  exact Rat.natCast_lt_natCast.mpr (h _ (List.mem_of_getElem? e))
/-- the entries of rounds -/
def rndI (n b i j : Nat) : Int := if i = j then 50 else if ((j : Int) - (i : Int)) % (n : Int) % 2 = 1 then 50 + (b : Int) else 50 - (b : Int)
theorem rnd_cast (n b i j : Nat) : Sx.rnd n (b : Rat) i j = ((rndI n b i j : Int) : Rat) := by
  unfold Sx.rnd rndI
  split
  · rfl
  · split
    · rw [Rat.intCast_add, Rat.intCast_natCast]; rfl
    · rw [Rat.intCast_sub, Rat.intCast_natCast]; rfl
theorem rnd_good {n b : Nat} (hn : n = 3 ∨ n = 5 ∨ n = 7) (hb : b ≤ 50) : Good (Sx.mk n n (Sx.rnd n (b : Rat))) n n := by
  have n0 : 0 < n := by omega
  have n8 : n ≤ 8 := by omega
  refine good_whole (Sx.mk_mat _ n0 n0) (by have := Nat.mul_le_mul n8 n8; omega) (by omega) fun i j hi hj => ?_
  rw [Sx.mk_ent _ hi hj, rnd_cast]
  have : 0 ≤ rndI n b i j ∧ rndI n b i j ≤ 100 := by
    unfold rndI
    split
    · decide
    · split <;> omega
  refine ⟨(rndI n b i j).toNat, ?_, by omega⟩
  rw [← Rat.intCast_natCast, show (((rndI n b i j).toNat : Nat) : Int) = rndI n b i j by omega]
section
variable {K : PySem.W.Frag} {σ : L2.St} {H : Hp} {ta tb te : TE} {c : TT} {b : Bool}
theorem gv_pick {i j k l : Nat} {va vb vc vd : V} {qa qb qc qd : Rat} {n1 n2 : Nat} (ha : σ[i]? = some (some va)) (hb : σ[j]? = some (some vb)) (hc : σ[k]? = some (some vc)) (hd : σ[l]? = some (some vd)) (fa : FrV K H va qa) (fb : FrV K H vb qb) (fc : FrV K H vc qc) (fd : FrV K H vd qd)
    (ba : Bits qa n1) (bb : Bits qb n2) (h : n1 + n2 ≤ 100000) : Gv (tIf (tB (tCall (spLess K) [] E0 (tCons (tVar i) (tCons (tVar j) tNil)))) (tVar k) (tVar l)) σ H (fun v H' => FrV K H' v (if qa < qb then qc else qd)) := fun H1 e Q q =>
  ⟨_, ha, _, hb, va, vb, qa, qb, n1, n2, rfl, fa.mono (ExT.of e), fb.mono (ExT.of e), ba, bb, h, _, rfl, by
    dsimp only
    by_cases z : qa < qb
    · rw [if_pos (decide_eq_true z)]
      exact ⟨_, hc, q _ _ (Ex.refl _) (by rw [if_pos z]; exact fc.mono (ExT.of e))⟩
    · rw [decide_eq_false z, if_neg (by decide)]
      exact ⟨_, hd, q _ _ (Ex.refl _) (by rw [if_neg z]; exact fd.mono (ExT.of e))⟩⟩
theorem gv_int1 {x : Int} (h : Ev ta σ H (.int x)) : Gv (tTup (tCons ta (tCons (tC (.int 1)) tNil))) σ H (fun v H' => FrV K H' v (x : Rat)) := fun H1 e Q q =>
  h H1 e _ fun H2 e2 => ⟨by show 2 ≤ sizeLine; decide, fun p hp => q _ _ (e2.trans (Ex.new hp)) (FrV.new rfl rfl)⟩
theorem ev_ifV {v1 v2 : V} (h : EvT c σ H b) (h1 : b = true → Ev ta σ H v1) (h2 : b = false → Ev tb σ H v2) : Ev (tIf c ta tb) σ H (if b = true then v1 else v2) := fun H1 e Q q => h H1 e _ fun H2 e2 => by
  cases b with
  | true => exact h1 rfl H2 (e.trans e2) Q fun H3 e3 => q H3 (e2.trans e3)
  | false => exact h2 rfl H2 (e.trans e2) Q fun H3 e3 => q H3 (e2.trans e3)
theorem gv_ifV {P : V → Hp → Prop} (h : EvT c σ H b) (h1 : b = true → Gv ta σ H P) (h2 : b = false → Gv tb σ H P) : Gv (tIf c ta tb) σ H P := fun H1 e Q q => h H1 e _ fun H2 e2 => by
  cases b with
  | true => exact h1 rfl H2 (e.trans e2) Q fun v H3 e3 p => q v H3 (e2.trans e3) p
  | false => exact h2 rfl H2 (e.trans e2) Q fun v H3 e3 p => q v H3 (e2.trans e3) p
end
theorem least_mem (x : Rat) (l : List Rat) (h : x ∈ l) : leastQ x l ∈ l := by
  rcases List.mem_cons.mp (leastQ_mem x l) with z | z
  · rw [z]; exact h
  · exact z
theorem most_mem (x : Rat) (l : List Rat) (h : x ∈ l) : mostQ x l ∈ l := by
  rcases List.mem_cons.mp (mostQ_mem x l) with z | z
  · rw [z]; exact h
  · exact z
end Mx
end
section
set_option Elab.async false
set_option linter.all false
set_option maxRecDepth 100000
set_option maxHeartbeats 8000000
/-! law. -/
namespace Mx
open PySem L2 Evl Fra
open Sx (Mat ent Told Shows)
abbrev sLaw : Stmt := top 52
def spLaw (K : PySem.W.Frag) : Sp := fun vs H Q _ => ∃ (l : Addr) (ns : List Int), vs = [.ref l] ∧ SqL K H l (ns.map V.int) ∧ ns.length ≤ 1000 ∧ ∀ H', Q (.bl true) H'
abbrev lawN : List Str := ["script", "place", "pot", "row", "least", "most", "number", "many", "beside", "under", "down", "matrix", "odd", "by", "lap", "at", "to"]
section
variable {P : Program} {w : World} {K : PySem.W.Frag} {mg : Str → Option Value} {base : Heap}
theorem scLaw : FnScope ["script", "place", "pot", "row", "least", "most", "number", "many", "beside", "under", "down", "matrix", "odd", "by", "lap", "at", "to"] ["script"] (defScope sLaw) := ⟨rfl, rfl, rfl, by decide +kernel, rfl, by decide +kernel, by decide +kernel⟩
theorem ok_law {fL : Addr} {fdL : FuncData} (T : Bt mg) (F : Fun K "law" "law" sLaw fL fdL) (GC : Fn P w K mg base "_law_cells" ["script", "limit"] 1 (spCells K)) (GB : Fn P w K mg base "_law_pot" ["script", "place"] 1 (spPot K)) (GA : FnG P w K mg base "_law_are_lines_right" ["pot"] 10 spAreLines)
    (GF : Fn P w K mg base "_law_fraction" ["pot"] 3 (spFraction K)) (GO : Fn P w K mg base "_law_of" ["pot", "some"] 2 spOf) (GLs : Fn P w K mg base "_law_less" ["one", "other"] 1 (spLess K)) (GR : FnG P w K mg base "_law_is_right" ["pot", "matrix", "value"] 9 (spIsRight K))
    (GU : Fn P w K mg base "_law_turned" ["matrix"] 1 (spTurned K)) (GT : Fn P w K mg base "_law_take" ["pot", "upto"] 1 spTake) (GP : Fn P w K mg base "_law_plus" ["one", "other"] 2 (spFr2 K (· + ·) (CL (· + ·)))) :
    GnOk P w K mg base 11 fL fdL ["script"] (spLaw K) := by
  refine gn_of F scLaw (fun vs H Q E h => ?_) (fun cdv A outer s0 H vs Q E hg hr h => ?_)
  · obtain ⟨_, _, rfl, _⟩ := h; rfl
  obtain ⟨l, ns, rfl, hl, hns, k⟩ := h
  refine ⟨_, pss_cons (ps_for PassesOwn.never rfl (pi_list (pe_fn GC (hr.mono (by decide)) (pa_cons (pv 0) (pa_cons pe_int pa_nil)))) (pg_name (i := 1) scLaw.nd rfl (Or.inl rfl))
    (pss_cons (ps_set (i := 2) scLaw.nd rfl (.inr rfl) (pe_fn GB (hr.mono (by decide)) (pa_cons (pv 0) (pa_cons (pv 1) pa_nil))))
    (pss_cons (ps_if (pt_not (pt_val (pe_callB (cr_all rfl) (by rfl) T.all (by decide +kernel) (pa_cons (pe_lc (own := [("lap", 14)]) (g := gName 14) (by rfl) scLaw.nd (pi_range1 (by rfl) T.range (pa_cons pe_int pa_nil)) (blkOk_by (own := [("lap", 14)]) (N := lawN) (sc := defScope sLaw) (by decide +kernel))
        (fun _ _ _ _ _ => pg_name (i := 14) scLaw.nd rfl (Or.inl rfl)) (fun _ _ _ _ _ => pts_nil) (fun _ _ _ _ _ => pe_fnG GA hg hr (pa_cons (pv 2) pa_nil))) pa_nil)))) (pss_one (ps_ret pe_bl)) pss_nil)
    (pss_cons (ps_set (i := 3) scLaw.nd rfl (.inl rfl) (pe_callTy call_tuple_of (by rfl) T.tuple (by decide +kernel) (pa_cons (pe_lc (own := [("lap", 14)]) (g := gName 14) (by rfl) scLaw.nd (pi_range1 (by rfl) T.range (pa_cons (pe_fn GO (hr.mono (by decide)) (pa_cons (pv 2) (pa_cons (pe_lst (pa_cons pe_int (pa_cons pe_int (pa_cons pe_int (pa_cons pe_int (pa_cons pe_int pa_nil)))))) pa_nil))) pa_nil)) (blkOk_by (own := [("lap", 14)]) (N := lawN) (sc := defScope sLaw) (by decide +kernel))
        (fun _ _ _ _ _ => pg_name (i := 14) scLaw.nd rfl (Or.inl rfl)) (fun _ _ _ _ _ => pts_nil) (fun _ _ _ _ _ => pe_fn GF (hr.mono (by decide)) (pa_cons (pv 2) pa_nil))) pa_nil)))
    (pss_cons (ps_par (i := 4) (j := 5) rfl scLaw.nd rfl rfl (by decide) rfl rfl (pa_cons (pe_ix ix_tup (pv 3) pe_int (fun _ _ => rfl)) (pa_cons (pe_ix ix_tup (pv 3) pe_int (fun _ _ => rfl)) pa_nil)) rfl)
    (pss_cons (ps_for PassesOwn.never rfl (pi_tup (pv 3)) (pg_name (i := 6) scLaw.nd rfl (Or.inl rfl))
        (pss_one (ps_par (i := 4) (j := 5) rfl scLaw.nd rfl rfl (by decide) rfl rfl (pa_cons (pe_ifExp (pt_val (pe_fn GLs (hr.mono (by decide)) (pa_cons (pv 6) (pa_cons (pv 4) pa_nil)))) (pv 6) (pv 4)) (pa_cons (pe_ifExp (pt_val (pe_fn GLs (hr.mono (by decide)) (pa_cons (pv 5) (pa_cons (pv 6) pa_nil)))) (pv 6) (pv 5)) pa_nil)) rfl)))
    (pss_cons (ps_if (PW.pt (pw_or (pt_not (pt_val (pe_fnG GR hg (hr.mono (by decide)) (pa_cons (pv 2) (pa_cons (pe_tup (pa_cons (pv 3) pa_nil)) (pa_cons (pv 4) pa_nil)))))) (pw_or1 (pt_not (pt_val (pe_fnG GR hg (hr.mono (by decide)) (pa_cons (pv 2) (pa_cons (pe_fn GU (hr.mono (by decide)) (pa_cons (pe_tup (pa_cons (pv 3) pa_nil)) pa_nil)) (pa_cons (pv 5) pa_nil))))))))) (pss_one (ps_ret pe_bl)) pss_nil)
    (pss_cons (ps_asg (pe_tup (pa_cons (pe_callTy call_int1 (by rfl) T.int (by decide +kernel) (pa_cons (pe_op op_add pe_int (pe_fn GT (hr.mono (by decide)) (pa_cons (pv 2) (pa_cons pe_int pa_nil)))) pa_nil)) (pa_cons (pe_callTy call_int1 (by rfl) T.int (by decide +kernel) (pa_cons (pe_fn GT (hr.mono (by decide)) (pa_cons (pv 2) (pa_cons pe_int pa_nil))) pa_nil)) (pa_cons (pe_tup (pa_cons pe_int (pa_cons pe_int pa_nil))) pa_nil))))
        (pg_tup (by rfl) (pgs_cons (pg_name (i := 7) scLaw.nd rfl (Or.inr rfl)) (pgs_cons (pg_name (i := 8) scLaw.nd rfl (Or.inr rfl)) (pgs_cons (pg_name (i := 9) scLaw.nd rfl (Or.inl rfl)) pgs_nil)))))
    (pss_cons (ps_set (i := 10) scLaw.nd rfl (.inr rfl) (pe_lc (own := [("at", 15)]) (g := gName 15) (by rfl) scLaw.nd (pi_range1 (by rfl) T.range (pa_cons (pv 7) pa_nil)) (blkOk_by (own := [("at", 15)]) (N := lawN) (sc := defScope sLaw) (by decide +kernel))
        (fun _ _ _ _ _ => pg_name (i := 15) scLaw.nd rfl (Or.inl rfl)) (fun _ _ _ _ _ => pts_nil) (fun _ _ _ _ _ => pe_callTy (r := fun xs H Q => (∃ i, xs = [.int i] ∧ Q (.int i) H) ∨ ∃ k, xs = [.bl k] ∧ Q (.int (if k then 1 else 0)) H) call_int1 (by rfl) T.int (by decide +kernel)
          (pa_cons (pe_op (r := rI0 fun i j => .int (i + j)) op_add (pe_op (r := rI0 fun i j => .int (i + j)) op_add (pv 8) pe_int) (pe_fn GT (hr.mono (by decide)) (pa_cons (pv 2) (pa_cons pe_int pa_nil)))) pa_nil))))
    (pss_cons (ps_for PassesOwn.never rfl (pi_list (pv 10)) (pg_name (i := 6) scLaw.nd rfl (Or.inl rfl))
        (pss_one (ps_set (i := 9) scLaw.nd rfl (.inl rfl) (pe_fn GP (hr.mono (by decide)) (pa_cons (pv 9) (pa_cons (pe_tup (pa_cons pe_int (pa_cons (pe_op op_sub (pv 6) (pv 8)) pa_nil))) pa_nil))))))
    (pss_cons (ps_set (i := 11) scLaw.nd rfl (.inl rfl) (pe_callTy call_tuple_of (by rfl) T.tuple (by decide +kernel) (pa_cons (pe_lc (own := [("at", 15)]) (g := gName 15) (by rfl) scLaw.nd (pi_range1 (by rfl) T.range (pa_cons (pv 7) pa_nil)) (blkOk_by (own := [("at", 15)]) (N := lawN) (sc := defScope sLaw) (by decide +kernel))
        (fun _ _ _ _ _ => pg_name (i := 15) scLaw.nd rfl (Or.inr rfl)) (fun _ _ _ _ _ => pts_nil) (fun _ _ _ _ _ => pe_callTy (r := rTupOf K) call_tuple_of (by rfl) T.tuple (by decide +kernel)
          (pa_cons (pe_lc (own := [("to", 16)]) (wi := iRng1 (tCons (tVar 7) tNil)) (g := gName 16) (by rfl) scLaw.nd (pi_range1 (by rfl) T.range (pa_cons (pv 7) pa_nil)) (blkOk_by (own := [("to", 16)]) (N := lawN) (sc := { kind := .function, names := [(".0", .local), ("at", .cell), ("tuple", .globalImplicit), ("range", .globalImplicit), ("beside", .cell), ("down", .cell), ("many", .cell)], isGenerator := false, isCoroutine := false }) (by decide +kernel))
            (fun _ _ _ _ _ => pg_name (i := 16) scLaw.nd rfl (Or.inl rfl)) (fun _ _ _ _ _ => pts_nil)
            (fun _ _ _ _ _ => pe_ifExp (pt_cmpR (r := rEq) op_eq (pv 15) (pv 16) (nomark _)) (pe_tup (pa_cons (pe_ix (r := rIxL K) ix_list (pv 10) (pv 15) (fun _ _ => rfl)) (pa_cons pe_int pa_nil))) (pe_tup (pa_cons (pv 8) (pa_cons pe_int pa_nil))))) pa_nil))) pa_nil)))
    (pss_cons (ps_if (pt_not (pt_val (pe_fnG GR hg (hr.mono (by decide)) (pa_cons (pv 2) (pa_cons (pv 11) (pa_cons (pe_fn GP (hr.mono (by decide)) (pa_cons (pe_tup (pa_cons (pv 8) (pa_cons pe_int pa_nil))) (pa_cons (pe_tup (pa_cons (pe_ix ix_tup (pv 9) pe_int (fun _ _ => rfl)) (pa_cons (pe_ix ix_tup (pv 9) pe_int (fun _ _ => rfl)) pa_nil))) pa_nil))) pa_nil)))))) (pss_one (ps_ret pe_bl)) pss_nil)
    (pss_cons (ps_asg (pe_tup (pa_cons (pe_callTy call_int1 (by rfl) T.int (by decide +kernel) (pa_cons (pe_fn GO (hr.mono (by decide)) (pa_cons (pv 2) (pa_cons (pe_lst (pa_cons pe_int (pa_cons pe_int (pa_cons pe_int pa_nil)))) pa_nil))) pa_nil)) (pa_cons (pe_callTy call_int1 (by rfl) T.int (by decide +kernel) (pa_cons (pe_op op_add pe_int (pe_fn GT (hr.mono (by decide)) (pa_cons (pv 2) (pa_cons pe_int pa_nil)))) pa_nil)) pa_nil)))
        (pg_tup (by rfl) (pgs_cons (pg_name (i := 12) scLaw.nd rfl (Or.inr rfl)) (pgs_cons (pg_name (i := 13) scLaw.nd rfl (Or.inr rfl)) pgs_nil))))
    (pss_cons (ps_set (i := 11) scLaw.nd rfl (.inl rfl) (pe_callTy call_tuple_of (by rfl) T.tuple (by decide +kernel) (pa_cons (pe_lc (own := [("at", 15)]) (g := gName 15) (by rfl) scLaw.nd (pi_range1 (by rfl) T.range (pa_cons (pv 12) pa_nil)) (blkOk_by (own := [("at", 15)]) (N := lawN) (sc := defScope sLaw) (by decide +kernel))
        (fun _ _ _ _ _ => pg_name (i := 15) scLaw.nd rfl (Or.inr rfl)) (fun _ _ _ _ _ => pts_nil) (fun _ _ _ _ _ => pe_callTy (r := rTupOf K) call_tuple_of (by rfl) T.tuple (by decide +kernel)
          (pa_cons (pe_lc (own := [("to", 16)]) (wi := iRng1 (tCons (tVar 12) tNil)) (g := gName 16) (by rfl) scLaw.nd (pi_range1 (by rfl) T.range (pa_cons (pv 12) pa_nil)) (blkOk_by (own := [("to", 16)]) (N := lawN) (sc := { kind := .function, names := [(".0", .local), ("at", .cell), ("tuple", .globalImplicit), ("range", .globalImplicit), ("by", .cell), ("odd", .cell)], isGenerator := false, isCoroutine := false }) (by decide +kernel))
            (fun _ _ _ _ _ => pg_name (i := 16) scLaw.nd rfl (Or.inl rfl)) (fun _ _ _ _ _ => pts_nil)
            (fun _ _ _ _ _ => pe_tup (pa_cons (pe_ifExp (pt_cmpR (r := rEq) op_eq (pv 15) (pv 16) (nomark _)) pe_int (pe_ifExp (pt_cmpR (r := rEq) op_eq (pe_op (r := rI (fun _ j => 0 < j) fun i j => .int (i % j)) op_mod (pe_op (r := rI (fun _ j => 0 < j) fun i j => .int (i % j)) op_mod (pe_op (r := rI0 fun i j => .int (i - j)) op_sub (pv 16) (pv 15)) (pv 12)) pe_int) pe_int (nomark _))
              (pe_op (r := rI0 fun i j => .int (i + j)) op_add pe_int (pv 13)) (pe_op (r := rI0 fun i j => .int (i - j)) op_sub pe_int (pv 13)))) (pa_cons pe_int pa_nil)))) pa_nil))) pa_nil)))
    (pss_one (ps_if (pt_not (pt_val (pe_fnG GR hg (hr.mono (by decide)) (pa_cons (pv 2) (pa_cons (pv 11) (pa_cons (pe_tup (pa_cons pe_int (pa_cons pe_int pa_nil))) pa_nil)))))) (pss_one (ps_ret pe_bl)) pss_nil)))))))))))))))) (pss_one (ps_ret pe_bl)), ?_⟩
  refine sq ⟨_, rfl, l, ns, rfl, hl, fun D n H1 e1 hD hn hDl => ⟨D, rfl, ⟨_, sq_of hDl⟩, ?_⟩⟩
  refine for_list (fun i σ' H' => Ex H1 H' ∧ ∃ o1 o2 o3 o4 o5 o6 o7 o8 o9 o10 o11 o12 o13, σ' = [some (.ref l), o1, o2, o3, o4, o5, o6, o7, o8, o9, o10, o11, o12, o13, none, none, none]) ⟨Ex.refl _, none, none, none, none, none, none, none, none, none, none, none, none, none, rfl⟩ (fun i σ' H' _ q => sq_of (q.1 _ _ hDl)) ?_ ?_
  · rintro i x σ' H2 hx ⟨e2, o1, o2, o3, o4, o5, o6, o7, o8, o9, o10, o11, o12, o13, rfl⟩
    obtain ⟨pl, rfl, hpl⟩ : ∃ pl : Nat, x = .int (pl : Nat) ∧ pl ≤ 10 := by
      rw [List.getElem?_map] at hx
      cases h : (List.range n)[i]? with
      | none => rw [h] at hx; cases hx
      | some a =>
        rw [h] at hx
        simp only [Option.map_some, Option.some.injEq] at hx
        have := List.mem_range.mp (List.mem_of_getElem? h)
        exact ⟨a, hx.symm, by omega⟩
    refine sq ⟨_, rfl, _, rfl, l, ns, pl, rfl, ex_l (e1.trans e2) hl, hpl, by omega, fun p H3 hp => ?_⟩
    refine sq ⟨(2 : Int), rfl, by decide, by decide, fun D1 hD1 => ?_⟩
    refine lcP (K := K) (R := BlV) (S := fun b => b = true) (n := 2) (c := 400) (t := 0) (B := fun i _ v => v = .int (0 + (i : Int))) wk_range hp.here hD1 (by decide) (fun _ _ _ _ _ r => r) (fun i x H' Q' hi g hB kk => ?_) fun H4 acc rs g4 hacc hpr hlen hS => ?_
    · refine kk [some (.ref l), some (.int (pl : Nat)), some (.ref p), o3, o4, o5, o6, o7, o8, o9, o10, o11, o12, o13, some x, none, none] H' (Ex.refl _) rfl fun Q2 q2 => ?_
      exact ⟨_, rfl, p, hide H' p, 0 + i * 400, rfl, g.here, by omega, fun H4 g4 => q2 _ _ true (g4.le (by omega)) rfl rfl⟩
    have allT : rs.all id = true := List.all_eq_true.mpr fun b hb => hS b hb
    have hp4 := (hp.base g4).le (show 0 + 2 * 400 ≤ 800 by decide)
    refine ⟨D1, rs, rfl, by rw [← bl_map hpr]; exact sq_of hacc, true, by rw [allT], ?_⟩
    dsimp only
    rw [if_neg (by decide)]
    show tSeq _ _ _ _ _
    -- row
    refine sq ⟨_, rfl, by show 5 ≤ sizeLine; decide, fun Lq hLq => ⟨p, Lq, H2, _, 800, rfl, hp4.mono (Ex.new hLq), upd_same, hp4.ne hLq, by show 0 < 5; decide, by show 5 ≤ 1000; decide, by decide, fun j v H5 hj hp5 _ => ?_⟩⟩
    obtain ⟨m, rfl, m0, m64⟩ : ∃ m : Nat, v = .int (m : Nat) ∧ 0 < m ∧ m ≤ 64 := by
      have := List.mem_of_getElem? hj
      simp only [List.mem_cons, List.not_mem_nil, or_false] at this
      rcases this with z | z | z | z | z
      · exact ⟨1, z, by decide, by decide⟩
      · exact ⟨2, z, by decide, by decide⟩
      · exact ⟨9, z, by decide, by decide⟩
      · exact ⟨33, z, by decide, by decide⟩
      · exact ⟨64, z, by decide, by decide⟩
    refine ⟨(m : Int), rfl, by omega, by omega, fun D2 hD2 => ?_⟩
    refine lcP (K := K) (R := FrV) (S := Num) (n := m) (c := 3) (t := 801) (B := fun i _ v => v = .int (0 + (i : Int))) wk_range hp5.here hD2 (by omega) (fun _ _ _ _ e r => r.mono e) (fun i x H' Q' hi g hB kk => ?_) fun H6 acc2 row g6 hacc2 hpr2 hlen2 hS2 => ?_
    · refine kk [some (.ref l), some (.int (pl : Nat)), some (.ref p), o3, o4, o5, o6, o7, o8, o9, o10, o11, o12, o13, some x, none, none] H' (Ex.refl _) rfl fun Q2 q2 => ?_
      exact ⟨_, rfl, p, hide H' p, 801 + i * 3, rfl, g.here, by omega, fun v H7 q f nq g7 => q2 _ _ q (g7.le (by omega)) f nq⟩
    refine ⟨D2, acc2, rfl, .inl ⟨sq_of hacc2, fun ra hra => ?_⟩⟩
    have hp7 := ((hp5.base g6).mono (Ex.new (o := .tup acc2) hra)).le (show 801 + m * 3 ≤ 1000 by omega)
    have hrt : SqT K (upd H6 ra (.tup acc2)) ra acc2 := st_of upd_same
    have hrp : Paired (FrV K (upd H6 ra (.tup acc2))) acc2 row := L2.Paired.mapP hpr2 fun v x r => r.mono (ExT.of (Ex.new hra))
    generalize upd H6 ra (.tup acc2) = H7 at *
    have al : acc2.length = m := by rw [Paired.length hrp, hlen2]
    obtain ⟨v0, hv0⟩ : ∃ v, acc2[0]? = some v := ⟨acc2[0]'(by omega), by simp [show 0 < acc2.length by omega]⟩
    obtain ⟨x0, hx0, fx0⟩ := wk_list.pget hrp hv0
    have x0m := List.mem_of_getElem? hx0
    have at0' : atI acc2 0 = some v0 := by have := atI_nat hv0; exact this
    dsimp only
    refine sq ⟨_, rfl, ra, _, 0, v0, rfl, rfl, hrt, at0', _, rfl, ra, _, 0, v0, rfl, rfl, hrt, at0', _, _, rfl, ?_⟩
    have numB : ∀ q ∈ row, Bits q 13 := fun q hq => num_bits (hS2 q hq)
    have hr7 := (gi_tup (K := K) (σ := [some (.ref l), some (.int (pl : Nat)), some (.ref p), some (.ref ra), some v0, some v0, o6, o7, o8, o9, o10, o11, o12, o13, none, none, none]) (t := tVar 3) (ev_var rfl) hrt hrp FrV.ex).gn
    dsimp only
    refine sq (s_for hr7 (fun H8 i σ' H' => Ex H8 H' ∧ ∃ vl vm o6, σ' = [some (.ref l), some (.int (pl : Nat)), some (.ref p), some (.ref ra), some vl, some vm, o6, o7, o8, o9, o10, o11, o12, o13, none, none, none] ∧ FrV K H' vl (leastQ x0 (row.take i)) ∧ FrV K H' vm (mostQ x0 (row.take i)))
      (fun H8 e8 => ⟨Ex.refl _, v0, v0, o6, rfl, fx0.mono (ExT.of e8), fx0.mono (ExT.of e8)⟩) (fun _ _ _ _ q => q.1) ?_ ?_)
    · rintro H8 i x σ' H9 H10 e8 hi ⟨e9, vl, vm, o6, rfl, fl, fm⟩ e10 ⟨q, hq, fq⟩
      have fl' := fl.mono (ExT.of e10)
      have fm' := fm.mono (ExT.of e10)
      have bq := numB q (List.mem_of_getElem? hq)
      have inc : ∀ y ∈ x0 :: row.take i, Bits y 13 := fun y hy => by
        rcases List.mem_cons.mp hy with z | z
        · rw [z]; exact numB _ x0m
        · exact numB _ (List.mem_of_mem_take z)
      have bl := inc _ (leastQ_mem x0 (row.take i))
      have bm := inc _ (mostQ_mem x0 (row.take i))
      have el : leastQ x0 (row.take (i + 1)) = if q < leastQ x0 (row.take i) then q else leastQ x0 (row.take i) := by
        unfold leastQ
        rw [foldl_take _ _ hq]
      have em : mostQ x0 (row.take (i + 1)) = if mostQ x0 (row.take i) < q then q else mostQ x0 (row.take i) := by
        unfold mostQ
        rw [foldl_take _ _ hq]
      refine s_parG (gv_pick (K := K) (i := 6) (j := 4) (k := 6) (l := 4) rfl rfl rfl rfl fq fl' fq fl' bq bl (by decide)) (gv_pick (K := K) (i := 5) (j := 6) (k := 6) (l := 5) rfl rfl rfl rfl fm' fq fq fm' bm bq (by decide)) (fun v Ha Hb e r => r.mono (ExT.of e)) fun v w H11 e11 fv fw => ?_
      exact ⟨(e9.trans e10).trans e11, v, w, _, rfl, by rw [el]; exact fv, by rw [em]; exact fw⟩
    rintro H8 σ' H9 e8 ⟨e9, vl, vm, o6', rfl, fl, fm⟩
    rw [List.take_length] at fl fm
    have lm := least_mem x0 row x0m
    have mm := most_mem x0 row x0m
    have l_le : ∀ q ∈ row, leastQ x0 row ≤ q := fun q hq => leastQ_le x0 row q (List.mem_cons_of_mem _ hq)
    have m_ge : ∀ q ∈ row, q ≤ mostQ x0 row := fun q hq => mostQ_le x0 row q (List.mem_cons_of_mem _ hq)
    generalize leastQ x0 row = least at *
    generalize mostQ x0 row = most at *
    have hp9 := hp7.mono (e8.trans e9)
    have hrt9 := ex_t (e8.trans e9) hrt
    have hrp9 : Paired (FrV K H9) acc2 row := L2.Paired.mapP hrp fun v x r => r.mono (ExT.of (e8.trans e9))
    have rmat := row_mat hlen2 m0
    have rgood : Good [row] 1 m := good_num rmat (by omega) (fun r hr q hq => by
      rw [List.mem_singleton] at hr
      rw [hr] at hq
      exact hS2 q hq) (Nat.le_trans (Nat.min_le_left _ _) (by decide))
    have cgood : Good (colsOf [row] m) m 1 := good_num (cols_mat rmat) (by omega) (mem_ent (cols_mat rmat) (p := Num) fun j i hj hi => by
      rw [cols_ent (n := 1) hj]
      have e : i = 0 := by omega
      subst e
      exact hS2 _ (mem_getD (by omega))) (Nat.le_trans (Nat.min_le_right _ _) (by decide))
    -- the row is right
    dsimp only
    refine sq ⟨_, rfl, _, rfl, by show 1 ≤ sizeLine; decide, fun b hb => ?_⟩
    have eb := Ex.new (o := .tup [V.ref ra]) hb
    have hpb := hp9.mono eb
    refine ⟨_, rfl, p, .ref b, vl, hide _ p, 1000, 1, m, [row], least, rfl, hpb.here, ⟨b, [.ref ra], rfl, st_of upd_same, .cons ⟨ra, acc2, rfl, ex_t eb hrt9, L2.Paired.mapP hrp9 fun v x r => r.mono (ExT.of eb)⟩ .nil⟩, rgood, fl.mono (ExT.of eb), row_isVal hlen2 m0 lm l_le, (numB _ lm).mono (by decide), by decide, fun H10 g10 => ⟨true, rfl, ?_⟩⟩
    have hp10 := hpb.base g10
    have x10 := (ExT.of eb).trans (hpb.extT g10)
    have hrt10 := x10.t hrt9
    have hrp10 : Paired (FrV K H10) acc2 row := L2.Paired.mapP hrp9 fun v x r => r.mono x10
    dsimp only
    rw [if_neg (by decide)]
    -- the column is right
    refine ⟨_, rfl, _, rfl, by show 1 ≤ sizeLine; decide, fun b2 hb2 => ?_⟩
    have eb2 := Ex.new (o := .tup [V.ref ra]) hb2
    refine ⟨.ref b2, [row], 1, m, rfl, ⟨b2, [.ref ra], rfl, st_of upd_same, .cons ⟨ra, acc2, rfl, ex_t eb2 hrt10, L2.Paired.mapP hrp10 fun v x r => r.mono (ExT.of eb2)⟩ .nil⟩, rmat, by decide, by omega, fun ov H11 e11 hov => ?_⟩
    have hp11 := (hp10.mono eb2).mono e11
    refine ⟨_, rfl, p, ov, vm, hide _ p, 1004, m, 1, colsOf [row] m, most, rfl, hp11.here, hov, cgood, fm.mono (x10.trans ((ExT.of eb2).trans (ExT.of e11))), column_isVal hlen2 m0 mm m_ge, (numB _ mm).mono (by decide), by decide, fun H12 g12 => ⟨true, rfl, ?_⟩⟩
    have hp12 := hp11.base g12
    dsimp only
    rw [if_neg (by decide)]
    show tSeq _ _ _ _ _
    -- many, beside, under
    refine sq ⟨_, rfl, p, hide H12 p, 5, 1008, rfl, hp12.here, by decide, by decide, by decide, fun d1 H13 hd1 g13 => ⟨4, (d1 : Int), rfl, rfl, .inl ⟨_, rfl, ?_⟩⟩⟩
    have hp13 := hp12.base g13
    refine ⟨_, rfl, p, hide H13 p, 50, 1009, rfl, hp13.here, by decide, by decide, by decide, fun bs H14 hbs g14 => .inl ⟨_, rfl, by show 2 ≤ sizeLine; decide, fun c hc => ⟨by show 3 ≤ sizeLine; decide, fun e he => ⟨e, _, rfl, st_of upd_same, rfl, _, _, rfl, _, _, rfl, _, _, rfl, rfl, ?_⟩⟩⟩⟩
    have ec := Ex.new (o := .tup [.int 0, .int 1]) hc
    have ee := Ex.new (o := .tup [.int (4 + (d1 : Int)), .int (bs : Int), .ref c]) he
    have hp14 := ((hp13.base g14).mono ec).mono ee
    have fu : FrV K _ (.ref c) 0 := FrV.mono (ExT.of ee) (FrV.new (K := K) (H := H14) (p := c) (q := 0) rfl rfl)
    obtain ⟨nn, enn, nn4, nn8⟩ : ∃ nn : Nat, (4 + (d1 : Int)) = (nn : Int) ∧ 4 ≤ nn ∧ nn ≤ 8 := ⟨4 + d1, by omega, by omega, by omega⟩
    have bs50 : bs < 50 := by omega
    rw [enn] at hp14 fu ⊢
    generalize upd (upd H14 c (.tup [.int 0, .int 1])) e (.tup [.int (nn : Int), .int (bs : Int), .ref c]) = H15 at *
    dsimp only
    -- down
    refine sq ⟨_, rfl, (nn : Int), rfl, by omega, by omega, fun D3 hD3 => ?_⟩
    refine lcP (K := K) (R := NtV) (S := fun k => bs < k ∧ k ≤ 100) (n := nn) (c := 1) (t := 1010) (B := fun i _ v => v = .int (0 + (i : Int))) wk_range hp14.here hD3 (by omega) (fun _ _ _ _ _ r => r) (fun i x H' Q' hi g hB kk => ?_) fun H16 acc3 ds g16 hacc3 hpr3 hlen3 hS3 => ?_
    · refine kk [some (.ref l), some (.int (pl : Nat)), some (.ref p), some (.ref ra), some vl, some vm, o6', some (.int (nn : Int)), some (.int (bs : Int)), some (.ref c), o10, o11, o12, o13, none, some x, none] H' (Ex.refl _) rfl fun Q2 q2 => ?_
      refine ⟨_, rfl, _, _, rfl, rfl, _, rfl, p, hide H' p, 50, 1010 + i * 1, rfl, g.here, by decide, by decide, by omega, fun d3 H17 hd3 g17 => ⟨_, _, rfl, rfl, .inl ⟨_, rfl, ?_⟩⟩⟩
      exact q2 _ _ (bs + 1 + d3) (g17.le (by omega)) (show V.int _ = V.int _ by congr 1) ⟨by omega, by omega⟩
    have hp16 := (hp14.base g16).le (show 1010 + nn * 1 ≤ 1020 by omega)
    have fu16 := fu.mono (hp14.extT g16)
    have lt3 : ∀ k ∈ ds, bs < k := fun k hk => (hS3 k hk).1
    have le3 : ∀ k ∈ ds, k ≤ 100 := fun k hk => (hS3 k hk).2
    have nn0 : 0 < nn := by omega
    have bz : Bits (0 : Rat) (10 + 10 * 0) := ⟨by decide, by decide⟩
    dsimp only
    -- under
    have hr16 := (gi_list (R := NtV) (K := K) (σ := [some (.ref l), some (.int (pl : Nat)), some (.ref p), some (.ref ra), some vl, some vm, o6', some (.int (nn : Int)), some (.int (bs : Int)), some (.ref c), some (.ref D3), o11, o12, o13, none, none, none]) (t := tVar 10) (ev_var rfl) (sq_of hacc3) hpr3 (fun _ _ _ _ _ r => r)).gn
    refine sq (s_for hr16 (fun H17 i σ' H' => Ex H17 H' ∧ ∃ vu o6', σ' = [some (.ref l), some (.int (pl : Nat)), some (.ref p), some (.ref ra), some vl, some vm, o6', some (.int (nn : Int)), some (.int (bs : Int)), some vu, some (.ref D3), o11, o12, o13, none, none, none] ∧ FrV K H' vu (sumQ ((unders bs ds).take i)) ∧ Bits (sumQ ((unders bs ds).take i)) (10 + 10 * i))
      (fun H17 e17 => ⟨Ex.refl _, .ref c, o6', rfl, fu16.mono (ExT.of e17), bz⟩) (fun _ _ _ _ q => q.1) ?_ ?_)
    · rintro H17 i x σ' H18 H19 e17 hi ⟨e18, vu, o6'', rfl, fvu, bu⟩ e19 ⟨kx, hk, rfl⟩
      have hk1 := lt3 _ (List.mem_of_getElem? hk)
      have hk2 := le3 _ (List.mem_of_getElem? hk)
      have hu : (unders bs ds)[i]? = some (1 / ((kx - bs : Nat) : Rat)) := by simp [unders, hk]
      have bk := over_bits (k := kx - bs) (by omega) (by omega)
      have bn := (bu.add bk).mono (show 10 + 10 * i + 7 + 1 ≤ 10 + 10 * (i + 1) by omega)
      have i8 : i < 8 := by omega
      obtain ⟨q1, q2⟩ := one_over (k := kx - bs) (by omega)
      refine s_asgG (gv_fr2 (g := (· + ·)) (gv_var (i := 9) rfl fun H' e => fvu.mono (ExT.of (e19.trans e))) (fun H' e Q q => ⟨_, rfl, _, rfl, _, _, rfl, rfl, by show 2 ≤ sizeLine; decide, fun c' hc' => q _ _ (Ex.new hc') (FrV.new q1.symm (by rw [q2]; omega))⟩) bu bk (by omega) (CL.of (g := (· + ·)) bn (by omega))) fun v H20 e20 hv => ?_
      exact ⟨(e18.trans e19).trans e20, v, _, rfl, by rw [sumQ_take hu]; exact hv, by rw [sumQ_take hu]; exact bn⟩
    rintro H17 σ' H18 e17 ⟨e18, vu, o6'', rfl, fvu, bu⟩
    have ul : (unders bs ds).length = ds.length := by unfold unders; rw [List.length_map]
    rw [← ul, List.take_length] at fvu bu
    have upos := unders_pos hlen3 nn0 lt3
    have bu90 : Bits (sumQ (unders bs ds)) 90 := bu.mono (by omega)
    have dv := diag_isVal hlen3 nn0 lt3
    have dg := diag_good hlen3 nn0 nn8 (Nat.le_of_lt (Nat.lt_of_lt_of_le bs50 (by decide))) le3
    generalize sumQ (unders bs ds) = under at *
    have hp18 := hp16.mono (e17.trans e18)
    have hacc18 := (e17.trans e18) _ _ hacc3
    dsimp only
    -- the diagonal
    have lc := gv_lc (R := RoV) (K := K) (g := gName 15) (te := tCB (rTupOf K) (tCons (tLc (iRng1 (tCons (tVar 7) tNil)) (gName 16) tYes (tIf (tTest (tOp rEq (tVar 15) (tVar 16))) (tTup (tCons (tOp (rIxL K) (tVar 10) (tVar 15)) (tCons (tC (.int 1)) tNil))) (tTup (tCons (tVar 8) (tCons (tC (.int 1)) tNil)))) [16]) tNil)) (vs := [15])
      (σ := [some (.ref l), some (.int (pl : Nat)), some (.ref p), some (.ref ra), some vl, some vm, o6'', some (.int (nn : Int)), some (.int (bs : Int)), some vu, some (.ref D3), o11, o12, o13, none, none, none]) (H := H18) (n := nn) (wi := iRng1 (tCons (tVar 7) tNil)) (B := fun i _ v => v = .int (0 + (i : Int))) (gn_range (ea_cons (ev_var rfl) ea_nil) (by omega)) (by omega) (fun i => (List.range nn).map fun j => diagF bs ds i j) (fun _ _ _ _ e r => RoV.mono e r)
      (fun i x H4 Q1 hi e4 hx kk => by
        subst hx
        refine kk [some (.ref l), some (.int (pl : Nat)), some (.ref p), some (.ref ra), some vl, some vm, o6'', some (.int (nn : Int)), some (.int (bs : Int)), some vu, some (.ref D3), o11, o12, o13, none, some (.int (0 + (i : Int))), none] H4 (Ex.refl _) rfl ?_
        have inner := gv_lc (R := FrV) (K := K) (g := gName 16) (te := tIf (tTest (tOp rEq (tVar 15) (tVar 16))) (tTup (tCons (tOp (rIxL K) (tVar 10) (tVar 15)) (tCons (tC (.int 1)) tNil))) (tTup (tCons (tVar 8) (tCons (tC (.int 1)) tNil)))) (vs := [16])
          (σ := [some (.ref l), some (.int (pl : Nat)), some (.ref p), some (.ref ra), some vl, some vm, o6'', some (.int (nn : Int)), some (.int (bs : Int)), some vu, some (.ref D3), o11, o12, o13, none, some (.int (0 + (i : Int))), none]) (H := H4) (n := nn) (wi := iRng1 (tCons (tVar 7) tNil)) (B := fun i _ v => v = .int (0 + (i : Int))) (gn_range (ea_cons (ev_var rfl) ea_nil) (by omega)) (by omega) (fun j => diagF bs ds i j) (fun _ _ _ _ e r => r.mono e)
          (fun j y H5 Q2 hj e5 hy kk => by
            subst hy
            refine kk [some (.ref l), some (.int (pl : Nat)), some (.ref p), some (.ref ra), some vl, some vm, o6'', some (.int (nn : Int)), some (.int (bs : Int)), some vu, some (.ref D3), o11, o12, o13, none, some (.int (0 + (i : Int))), some (.int (0 + (j : Int)))] H5 (Ex.refl _) rfl ?_
            obtain ⟨z, hz, rz⟩ := paired_at hpr3 (some_getD (d := 0) (by omega : i < ds.length))
            refine gv_ifV (et_eqI (ev_var (i := 15) rfl) (ev_var (i := 16) rfl)) (fun yes => ?_) fun no => ?_
            · have e := of_decide_eq_true yes
              have ij : i = j := by omega
              refine (gv_int1 (K := K) (x := ((ds.getD i 0 : Nat) : Int)) (ev_op (ev_var (i := 10) rfl) (ev_var (i := 15) rfl) (rv_ixL (sq_of ((e4.trans e5) _ _ hacc18)) (by rw [Int.zero_add]; exact (atI_nat hz).trans (by rw [rz]))))).imp fun v H' _ h => ?_
              unfold diagF
              rw [if_pos ij]
              exact h
            · have e := of_decide_eq_false no
              have ij : ¬ i = j := by omega
              refine (gv_int1 (K := K) (x := ((bs : Nat) : Int)) (ev_var (i := 8) rfl)).imp fun v H' _ h => ?_
              unfold diagF
              rw [if_neg ij]
              exact h)
        exact (gv_tupleOf inner FrV.ex).imp fun v H' _ h => h.tu)
    refine sq (s_asgG (gv_tupleOf lc RoV.ex) fun mv H19 e19 hmv => ?_)
    have hmv' : MaV K H19 mv (Sx.mk nn nn (diagF bs ds)) := hmv.tu
    have hp19 := hp18.mono e19
    have bbs : Bits (((bs : Nat) : Int) : Rat) 6 := ⟨by show bs < 2 ^ 6; have : 2 ^ 6 = 64 := rfl; omega, by show 1 < 2 ^ 6; decide⟩
    have biu := Bits.inv1 upos bu90
    obtain ⟨pt1, pt2⟩ := inv_parts upos
    obtain ⟨au, rfl, hau⟩ := fvu.mono (ExT.of e19)
    have bsum : Bits ((((bs : Nat) : Int) : Rat) + 1 / under) 100 := (bbs.add biu).mono (by decide)
    have gs := gv_fr2 (K := K) (H := H19) (σ := [some (.ref l), some (.int (pl : Nat)), some (.ref p), some (.ref ra), some vl, some vm, o6'', some (.int (nn : Int)), some (.int (bs : Int)), some (.ref au), some (.ref D3), some mv, o12, o13, none, none, none]) (g := (· + ·)) (gv_int1 (x := ((bs : Nat) : Int)) (ev_var (i := 8) rfl)) (q := 1 / under) (tb := tTup (tCons (tOp (rIxT K) (tVar 9) (tC (.int 1))) (tCons (tOp (rIxT K) (tVar 9) (tC (.int 0))) tNil)))
      (fun H' e Q q => (ev_ixT1 (K := K) (ta := tVar 9) (ev_var rfl) (ex_t e hau)) _ (Ex.refl _) _ fun Ha ea => (ev_ixT0 (K := K) (ta := tVar 9) (w := .non) (ev_var rfl) (ex_t (e.trans ea) hau)) _ (Ex.refl _) _ fun Hb eb => ⟨by show 2 ≤ sizeLine; decide, fun c' hc' => q _ _ ((ea.trans eb).trans (Ex.new hc')) (FrV.new pt1.symm pt2.symm)⟩) bbs biu (by decide) (CL.of (g := (· + ·)) bsum (by decide))
    refine sq ⟨_, rfl, _, rfl, gs _ (Ex.refl _) _ fun v20 H20 e20 f20 => ?_⟩
    have hp20 := hp19.mono e20
    refine ⟨p, mv, v20, hide H20 p, 1020, nn, nn, _, _, rfl, hp20.here, MaV.mono (ExT.of e20) hmv', dg, f20, dv, bsum.mono (by decide), by decide, fun H21 g21 => ⟨true, rfl, ?_⟩⟩
    have hp21 := hp20.base g21
    dsimp only
    rw [if_neg (by decide)]
    show tSeq _ _ _ _ _
    -- odd, by
    refine sq ⟨_, rfl, by show 3 ≤ sizeLine; decide, fun Lq2 hLq2 => ⟨p, Lq2, H2, _, 1024, rfl, hp21.mono (Ex.new hLq2), upd_same, hp21.ne hLq2, by show 0 < 3; decide, by show 3 ≤ 1000; decide, by decide, fun j2 vo H22 hj2 hp22 _ => ?_⟩⟩
    obtain ⟨od, rfl, hod⟩ : ∃ od : Nat, vo = .int (od : Nat) ∧ (od = 3 ∨ od = 5 ∨ od = 7) := by
      have := List.mem_of_getElem? hj2
      simp only [List.mem_cons, List.not_mem_nil, or_false] at this
      rcases this with z | z | z
      · exact ⟨3, z, .inl rfl⟩
      · exact ⟨5, z, .inr (.inl rfl)⟩
      · exact ⟨7, z, .inr (.inr rfl)⟩
    refine .inl ⟨_, rfl, _, rfl, p, H2, 50, 1025, rfl, hp22, by decide, by decide, by decide, fun d4 H23 hd4 hp23 => ⟨1, (d4 : Int), rfl, rfl, .inl ⟨_, rfl, by show 2 ≤ sizeLine; decide, fun e he => ⟨e, _, rfl, st_of upd_same, rfl, _, _, rfl, _, _, rfl, rfl, ?_⟩⟩⟩⟩
    have hp24 := hp23.mono (Ex.new (o := .tup [.int (od : Nat), .int (1 + (d4 : Int))]) he)
    obtain ⟨by', eby, by50⟩ : ∃ by' : Nat, (1 + (d4 : Int)) = (by' : Int) ∧ by' ≤ 50 := ⟨1 + d4, by omega, by omega⟩
    rw [eby] at hp24 ⊢
    generalize upd H23 e (.tup [.int (od : Nat), .int (by' : Int)]) = H24 at *
    have od0 : 0 < od := by omega
    have od7 : od ≤ 7 := by omega
    dsimp only
    -- rounds
    have lc2 := gv_lc (R := RoV) (K := K) (g := gName 15) (te := tCB (rTupOf K) (tCons (tLc (iRng1 (tCons (tVar 12) tNil)) (gName 16) tYes (tTup (tCons (tIf (tTest (tOp rEq (tVar 15) (tVar 16))) (tC (.int 50)) (tIf (tTest (tOp rEq (tOp (rI (fun _ j => 0 < j) fun i j => .int (i % j)) (tOp (rI (fun _ j => 0 < j) fun i j => .int (i % j)) (tOp (rI0 fun i j => .int (i - j)) (tVar 16) (tVar 15)) (tVar 12)) (tC (.int 2))) (tC (.int 1)))) (tOp (rI0 fun i j => .int (i + j)) (tC (.int 50)) (tVar 13)) (tOp (rI0 fun i j => .int (i - j)) (tC (.int 50)) (tVar 13)))) (tCons (tC (.int 1)) tNil))) [16]) tNil)) (vs := [15])
      (σ := [some (.ref l), some (.int (pl : Nat)), some (.ref p), some (.ref ra), some vl, some vm, o6'', some (.int (nn : Int)), some (.int (bs : Int)), some (.ref au), some (.ref D3), some mv, some (.int (od : Nat)), some (.int (by' : Int)), none, none, none]) (H := H24) (n := od) (wi := iRng1 (tCons (tVar 12) tNil)) (B := fun i _ v => v = .int (0 + (i : Int))) (gn_range (ea_cons (ev_var rfl) ea_nil) (by omega)) (by omega) (fun i => (List.range od).map fun j => Sx.rnd od (by' : Rat) i j) (fun _ _ _ _ e r => RoV.mono e r)
      (fun i x H4 Q1 hi e4 hx kk => by
        subst hx
        refine kk [some (.ref l), some (.int (pl : Nat)), some (.ref p), some (.ref ra), some vl, some vm, o6'', some (.int (nn : Int)), some (.int (bs : Int)), some (.ref au), some (.ref D3), some mv, some (.int (od : Nat)), some (.int (by' : Int)), none, some (.int (0 + (i : Int))), none] H4 (Ex.refl _) rfl ?_
        have inner := gv_lc (R := FrV) (K := K) (g := gName 16) (te := tTup (tCons (tIf (tTest (tOp rEq (tVar 15) (tVar 16))) (tC (.int 50)) (tIf (tTest (tOp rEq (tOp (rI (fun _ j => 0 < j) fun i j => .int (i % j)) (tOp (rI (fun _ j => 0 < j) fun i j => .int (i % j)) (tOp (rI0 fun i j => .int (i - j)) (tVar 16) (tVar 15)) (tVar 12)) (tC (.int 2))) (tC (.int 1)))) (tOp (rI0 fun i j => .int (i + j)) (tC (.int 50)) (tVar 13)) (tOp (rI0 fun i j => .int (i - j)) (tC (.int 50)) (tVar 13)))) (tCons (tC (.int 1)) tNil))) (vs := [16])
          (σ := [some (.ref l), some (.int (pl : Nat)), some (.ref p), some (.ref ra), some vl, some vm, o6'', some (.int (nn : Int)), some (.int (bs : Int)), some (.ref au), some (.ref D3), some mv, some (.int (od : Nat)), some (.int (by' : Int)), none, some (.int (0 + (i : Int))), none]) (H := H4) (n := od) (wi := iRng1 (tCons (tVar 12) tNil)) (B := fun i _ v => v = .int (0 + (i : Int))) (gn_range (ea_cons (ev_var rfl) ea_nil) (by omega)) (by omega) (fun j => Sx.rnd od (by' : Rat) i j) (fun _ _ _ _ e r => r.mono e)
          (fun j y H5 Q2 hj e5 hy kk => by
            subst hy
            refine kk [some (.ref l), some (.int (pl : Nat)), some (.ref p), some (.ref ra), some vl, some vm, o6'', some (.int (nn : Int)), some (.int (bs : Int)), some (.ref au), some (.ref D3), some mv, some (.int (od : Nat)), some (.int (by' : Int)), none, some (.int (0 + (i : Int))), some (.int (0 + (j : Int)))] H5 (Ex.refl _) rfl ?_
            rw [rnd_cast]
            refine gv_int1 (x := rndI od by' i j) (ev_if (et_eqI (ev_var (i := 15) rfl) (ev_var (i := 16) rfl)) (fun yes => ?_) fun no => ev_if (et_eqI (ev_op (ev_op (ev_op (ev_var (i := 16) rfl) (ev_var (i := 15) rfl) (rv_I0 (g := fun i j => .int (i - j)))) (ev_var (i := 12) rfl) (rv_I (g := fun i j => .int (i % j)) (show (0 : Int) < (od : Nat) by omega))) ev_c (rv_I (g := fun i j => .int (i % j)) (show (0 : Int) < 2 by decide))) ev_c) (fun yes2 => ?_) fun no2 => ?_)
            · have e := of_decide_eq_true yes
              have ij : i = j := by omega
              rw [show rndI od by' i j = 50 by unfold rndI; rw [if_pos ij]]
              exact ev_c
            · have e := of_decide_eq_false no
              have ij : ¬ i = j := by omega
              have e2 := of_decide_eq_true yes2
              rw [Int.zero_add, Int.zero_add] at e2
              rw [show rndI od by' i j = 50 + (by' : Int) by unfold rndI; rw [if_neg ij, if_pos e2]]
              exact ev_op ev_c (ev_var (i := 13) rfl) (rv_I0 (g := fun i j => .int (i + j)))
            · have e := of_decide_eq_false no
              have ij : ¬ i = j := by omega
              have e2 := of_decide_eq_false no2
              rw [Int.zero_add, Int.zero_add] at e2
              rw [show rndI od by' i j = 50 - (by' : Int) by unfold rndI; rw [if_neg ij, if_neg e2]]
              exact ev_op ev_c (ev_var (i := 13) rfl) (rv_I0 (g := fun i j => .int (i - j))))
        exact (gv_tupleOf inner FrV.ex).imp fun v H' _ h => h.tu)
    refine sq (s_asgG (gv_tupleOf lc2 RoV.ex) fun mv2 H25 e25 hmv2 => ?_)
    have hmv2' : MaV K H25 mv2 (Sx.mk od od (Sx.rnd od (by' : Rat))) := hmv2.tu
    have hp25 := hp24.mono e25
    have b50 : Bits (50 : Rat) 6 := ⟨by decide +kernel, by decide +kernel⟩
    refine ⟨_, rfl, _, rfl, by show 2 ≤ sizeLine; decide, fun cc hcc => ?_⟩
    have ecc := Ex.new (o := .tup [.int 50, .int 1]) hcc
    have hp26 := hp25.mono ecc
    refine ⟨p, mv2, .ref cc, hide _ p, 1026, od, od, _, 50, rfl, hp26.here, MaV.mono (ExT.of ecc) hmv2', rnd_good hod by50, FrV.new rfl rfl, fun v rs cs s => Sx.rnd_val hod s, b50.mono (by decide), by decide, fun H27 g27 => ⟨true, rfl, ?_⟩⟩
    have hp27 := hp26.base g27
    dsimp only
    rw [if_neg (by decide)]
    exact ⟨e2.trans hp27.ex, _, _, _, _, _, _, _, _, _, _, _, _, _, rfl⟩
  · rintro σ' H' _
    exact k H'
end
end Mx
end
section
set_option Elab.async false
set_option linter.all false
set_option maxRecDepth 100000
set_option maxHeartbeats 4000000
/-! The law's own call, nothing being shown. -/
namespace Mx
open PySem PySem.Spec L2 Evl Fra PyProof.Rows
section
variable {P : Program} {w : World} {K : PySem.W.Frag} {mg mb : Str → Option Value} {k : Nat} {fa a : Addr} {fd : FuncData} {x : Str} {sp : Sp} {s1 : Shared} {vs : List Value} {ns : List Int}
/-- the call at a heap H that knows at most the script -/
theorem callG_at {H : Hp} (inK : K.In s1.heap) (nsM : s1.heap.Ns mainGlobals mg) (nsB : s1.heap.Ns builtinsNs mb) (hbb : ∀ x : Str, x ≠ "__name__" → mb x = bootBuiltins x) (nol : s1.heap.NoLimit) (gens : s1.gens = #[])
    (at_ : s1.heap.get? a = some { cls := .type "list", data := .seq vs.toArray }) (room : Room k callerA) (G : ∀ base : Heap, K.In base → base.Ns mainGlobals mg → GnOk P w K mg base k fa fd [x] sp) (bnd : ∀ (s : Shared) (u : Value), BindsTo s fd ⟨[u], []⟩ [(x, u)])
    (only : Only H) (ok : HOk P w H s1.heap) (one : ∀ b, H b ≠ none → b = a) (free : H a ≠ none → K.lookup a = none) (prom : sp [.ref a] H (fun v _ => v = .bl true) fun _ _ _ => False) :
    codeAny (model P w) callerA (.call (.ref fa) ⟨[.ref a], []⟩) (fun r s' => r = .ok (.ret (.bool true)) ∧ OldK s1.heap s'.heap ∧ s'.os = s1.os ∧ AllBare s'.gens) s1 := by
  have keep : ∀ {b : Addr} {o : Obj}, s1.heap.get? b = some o → H b = none → (hidT s1.heap H).get? b = some o := fun e n => hidT_get e n
  have notDict : ∀ {b : Addr} {o : Obj} {es : Array DictEntry} {ep : Nat}, s1.heap.get? b = some o → o.data = .dict es ep → H b = none := by
    intro b o es ep e d
    refine Classical.byContradiction fun z => ?_
    have eb := one b z
    rw [eb, at_] at e
    cases e
    have : Data.seq vs.toArray _ = Data.dict es ep := d
    cases this
  have nsBase : ∀ {b : Addr} {m : Str → Option Value}, s1.heap.Ns b m → (hidT s1.heap H).Ns b m := by
    intro b m n
    obtain ⟨o, es, ep, e, d, r⟩ := n
    exact ⟨o, es, ep, keep e (notDict e d), d, r⟩
  have inBase : K.In (hidT s1.heap H) := by
    intro b o e
    refine keep (inK b o e) (Classical.byContradiction fun z => ?_)
    have eb := one b z
    rw [eb] at z e
    rw [free z] at e
    cases e
  have md : Mod K mg (hidT s1.heap H) := by
    obtain ⟨mc, n1, n2⟩ := nol
    exact ⟨inBase, nsBase nsM, ⟨mb, nsBase nsB, hbb⟩, mc, nsBase n1, n2⟩
  have env : Env0 P w K mg (hidT s1.heap H) callerA [] s1 H := by
    refine ⟨rfl, md, fun b o e => of_hidT e, Nat.le_of_eq (hidT_size _ _), trivial, fun b hb => ?_, ok, .of_eq gens⟩
    have : b ∈ ([] : List Addr) := hb
    cases this
  have go := (G _ inBase (nsBase nsM)).run callerA [] s1 H ⟨[.ref a], []⟩ [.ref a] [.ref a] _ _ rfl room env (bnd s1 (.ref a)) (.cons rfl .nil) prom
  refine codeAny_mono go ?_
  intro r s' end_
  match r, end_ with
  | .error e, h => exact False.elim h
  | .ok .next, h => exact False.elim h
  | .ok .brk, h => exact False.elim h
  | .ok .cont, h => exact False.elim h
  | .ok (.ret u), h =>
    obtain ⟨v, H', os, bare, un, ok', rv, ev⟩ := h
    have ev' : v = .bl true := ev
    rw [ev'] at rv
    cases (show u = Value.bool true from rv)
    refine ⟨rfl, OldK.of_keep fun b o e => ?_, os, bare⟩
    rcases only b with z | ⟨ob, xs, z⟩
    · refine un.keep b o e z (fun q => ?_) (by simp)
      have : b ∈ ([] : List Addr) := q
      cases this
    · have z2 := un.frzs b ob _ z
      have h1 := (ok b _ z).1
      have h2 := (ok' b _ z2).1
      rw [e] at h1
      cases h1
      exact h2
theorem law_callG (inK : K.In s1.heap) (nsM : s1.heap.Ns mainGlobals mg) (nsB : s1.heap.Ns builtinsNs mb) (hbb : ∀ x : Str, x ≠ "__name__" → mb x = bootBuiltins x) (nol : s1.heap.NoLimit) (gens : s1.gens = #[])
    (at_ : s1.heap.get? a = some { cls := .type "list", data := .seq vs.toArray }) (its0 : IntsAre vs ns) (len : ns.length ≤ sizeLine) (room : Room k callerA) (G : ∀ base : Heap, K.In base → base.Ns mainGlobals mg → GnOk P w K mg base k fa fd [x] sp) (bnd : ∀ (s : Shared) (u : Value), BindsTo s fd ⟨[u], []⟩ [(x, u)])
    (prom : ∀ H : Hp, SqL K H a (ns.map V.int) → sp [.ref a] H (fun v _ => v = .bl true) fun _ _ _ => False) :
    codeAny (model P w) callerA (.call (.ref fa) ⟨[.ref a], []⟩) (fun r s' => r = .ok (.ret (.bool true)) ∧ OldK s1.heap s'.heap ∧ s'.os = s1.os ∧ AllBare s'.gens) s1 := by
  have rv := vals_ints its0
  by_cases hk : ∃ o, K.lookup a = some o
  · obtain ⟨o, hk⟩ := hk
    have e := inK a o hk
    rw [at_] at e
    cases e
    have hS : SqL K (fun _ => none) a (ns.map V.int) := .inr ⟨_, vs.toArray, _, hk, rfl, rfl, rfl, by rw [List.size_toArray, its0.length]; exact len, by simpa using rv⟩
    exact callG_at inK nsM nsB hbb nol gens at_ room G bnd (fun _ => .inl rfl) (fun b u z => by cases (show (none : Option HO) = some u from z)) (fun b z => absurd rfl z) (fun z => absurd rfl z) (prom _ hS)
  · have hn : K.lookup a = none := by
      cases h : K.lookup a with
      | none => rfl
      | some o => exact absurd ⟨o, h⟩ hk
    let H : Hp := fun b => if b = a then some (.frz { cls := .type "list", data := .seq vs.toArray } (.lst (ns.map V.int))) else none
    have Ha : H a = some (.frz { cls := .type "list", data := .seq vs.toArray } (.lst (ns.map V.int))) := if_pos rfl
    have Hn : ∀ b, b ≠ a → H b = none := fun b z => if_neg z
    refine callG_at (H := H) inK nsM nsB hbb nol gens at_ room G bnd (fun b => ?_) (fun b u z => ?_) (fun b z => ?_) (fun _ => hn) (prom H (.inl (.inr ⟨_, Ha⟩)))
    · by_cases hb : b = a
      · rw [hb]; exact .inr ⟨_, _, Ha⟩
      · exact .inl (Hn b hb)
    · by_cases hb : b = a
      · rw [hb] at z ⊢
        rw [Ha] at z
        cases z
        exact ⟨at_, by rw [List.length_map]; exact len, vs, _, rv, at_⟩
      · rw [Hn b hb] at z; cases z
    · exact Classical.byContradiction fun hb => z (Hn b hb)
end
/-- the goal behind the head, from the law's promise -/
theorem walkG {l : PySem.W.OpenLaw} {n k : Nat} {q : Program} {loose : List Str} {XP : (Str → Option Value) → Heap → Prop} {YP : World → Heap → Prop} {d : DefRec} {K : Params → PySem.W.Frag} {sp : World → Sp} {x : Str} (hn : l.most = some n) (hn2 : n ≤ sizeLine) (hdf : d.params.defaults = []) (hr : Room k callerA)
    (hY : ∀ (w : World) (h : Heap), YP w h → (K w.params).In h)
    (F : ∀ (w : World) (mg : Str → Option Value) (fa : Addr) (h : Heap), (K w.params).In h → h.Ns mainGlobals mg → mg d.name = some (.ref fa) →
      ∃ fd : FuncData, (∀ (s : Shared) (u : Value), BindsTo s fd ⟨[u], []⟩ [(x, u)]) ∧ ∀ base : Heap, (K w.params).In base → base.Ns mainGlobals mg → GnOk l.prog w (K w.params) mg base k fa fd [x] (sp w))
    (hsp : ∀ (w : World) (H : Hp) (a : Addr) (ns : List Int), ns.length ≤ n → SqL (K w.params) H a (ns.map V.int) → sp w [.ref a] H (fun v _ => v = .bl true) fun _ _ _ => False) :
    PySem.W.WalkO q loose XP YP l.row.toRowW d [] (fun f vs => PySem.call f vs) := by
  refine Att.attach_call hn hdf ?_
  intro w s0 s1 mg mb fa o pm cd doc a vs ns G Y ho hd hcd hmg hobj hints hlen hg
  have inK := hY w _ Y
  obtain ⟨fd, hb, hF⟩ := F w mg fa _ inK G.T.g hmg
  exact law_callG inK G.T.g G.T.b G.T.builtins G.T.nolimit hg hobj hints (Nat.le_trans hlen hn2) hr hF hb fun H hS => hsp w H a ns hlen hS
end Mx
end
section
set_option Elab.async false
set_option linter.all false
set_option maxRecDepth 100000
set_option maxHeartbeats 4000000
/-! All promises, one behind another. -/
namespace Mx
open PySem PySem.Spec L2 Evl Fra PyProof.Rows
section
variable {K : PySem.W.Frag} {h : Heap} {mg : Str → Option Value} {C f : Addr} {x qual m : Str} {st : Stmt} {ps : List Str} {oc kV doc pm cdv ct : Value} {od an : Option Addr} {osl : Array (Option Value)}
theorem dn_mk (X : K.In h) (G : h.Ns mainGlobals mg) (a : PySem.W.nsIn K mainGlobals x = some (some (.ref f))) (l : K.lookup f = some ⟨oc, od, .func (PySem.W.fnOf x x (defArgs st) (defBody st) (defScope st) .none kV doc pm an cdv ct), osl⟩) (c : PySem.W.codeIn K cdv x = true) (k : PySem.W.keepIn K (.ref f) = true)
    (b : ∀ (kV doc pm : Value) (an : Option Addr) (cdv ct : Value) (us : List Value), us.length = ps.length → bindArgs (PySem.W.fnOf x x (defArgs st) (defBody st) (defScope st) .none kV doc pm an cdv ct) ⟨us, []⟩ = pure (ps.zip us)) : Dn K mg x st ps := by
  have F := fun_mk (st := st) l c k
  exact ⟨f, _, F, F.binds b, PySem.W.mg_of X G a⟩
theorem dm_mk (a : PySem.W.findIn K (.ref C) m = some (some (.ref f))) (i : PySem.W.isFn K (.ref f) = true) (l : K.lookup f = some ⟨oc, od, .func (PySem.W.fnOf m qual (defArgs st) (defBody st) (defScope st) .none kV doc pm an cdv ct), osl⟩) (c : PySem.W.codeIn K cdv qual = true) (k : PySem.W.keepIn K (.ref f) = true)
    (b : ∀ (kV doc pm : Value) (an : Option Addr) (cdv ct : Value) (us : List Value), us.length = ps.length → bindArgs (PySem.W.fnOf m qual (defArgs st) (defBody st) (defScope st) .none kV doc pm an cdv ct) ⟨us, []⟩ = pure (ps.zip us)) : Dm K C m qual st ps := by
  have F := fun_mk (st := st) l c k
  exact ⟨f, _, F, F.binds b, a, i, k⟩
/-- a fraction that the top has made -/
theorem fr_mk {a : Addr} {n d : Int} {t u : Tok} {z : Nat} {q : Rat} (l : K.lookup a = some ⟨.type "tuple", od, .seq #[.int n t, .int d u] z, osl⟩) (hn : n = q.num) (hd : d = q.den) (H : Hp) : FrV K H (.ref a) q :=
  ⟨a, rfl, .inr ⟨_, _, _, l, rfl, rfl, by show 2 ≤ sizeLine; decide, by rw [← hn, ← hd]; exact .cons ⟨t, rfl⟩ (.cons ⟨u, rfl⟩ .nil)⟩⟩
end
section
variable {P : Program} {w : World} {K : PySem.W.Frag} {mg : Str → Option Value} {base : Heap} {C f0 fL : Addr} {fd0 fdL : FuncData}
theorem ok_chain (T : Bt mg) (G : Gc K mg) (Y : Ct K C) (gC : mg "Corner" = some (.ref C)) (mk : Mk K C f0) (Fi : Fun K "__init__" "Corner.__init__" sInit f0 fd0) (bi : Binds K fd0 ["self", "matrix"] [])
    (d_is_integer : Dn K mg "is_integer" sIsInteger ["value"])
    (d_common : Dn K mg "common" sCommon ["one", "other"])
    (d_part : Dn K mg "part" sPart ["top", "low"])
    (d_plus : Dn K mg "plus" sPlus ["one", "other"])
    (d_minus : Dn K mg "minus" sMinus ["one", "other"])
    (d_times : Dn K mg "times" sTimes ["one", "other"])
    (d_divided : Dn K mg "divided" sDivided ["one", "other"])
    (d_is_less : Dn K mg "is_less" sIsLess ["one", "other"])
    (d_sum_of : Dn K mg "sum_of" sSumOf ["some"])
    (d_least_of : Dn K mg "least_of" sLeastOf ["some"])
    (d_greatest_of : Dn K mg "greatest_of" sGreatestOf ["some"])
    (d_is_fraction : Dn K mg "is_fraction" sIsFraction ["value"])
    (d_is_share : Dn K mg "is_share" sIsShare ["value", "many"])
    (d_mean_of : Dn K mg "mean_of" sMeanOf ["shares", "some"])
    (d_is_row : Dn K mg "is_row" sIsRow ["value", "many"])
    (d_is_matrix : Dn K mg "is_matrix" sIsMatrix ["value"])
    (d_check_matrix : Dn K mg "check_matrix" sCheckMatrix ["matrix"])
    (d_columns_of : Dn K mg "columns_of" sColumnsOf ["matrix"])
    (d_less_times : Dn K mg "less_times" sLessTimes ["row", "other", "column"])
    (e_entering : Dm K C "entering" "Corner.entering" sEntering ["self"])
    (e_leaving : Dm K C "leaving" "Corner.leaving" sLeaving ["self", "column"])
    (e_turn : Dm K C "turn" "Corner.turn" sTurn ["self", "place", "column"])
    (e_go : Dm K C "go" "Corner.go" sGo ["self"])
    (e_columns : Dm K C "columns" "Corner.columns" sColumns ["self", "wide"])
    (d_solved : Dn K mg "solved" sSolved ["matrix"])
    (d_matrix_told : Dn K mg "matrix_told" sTold ["matrix"])
    (d_shows_matrix : Dn K mg "shows_matrix" sShows ["matrix", "value"])
    (d__law_pot : Dn K mg "_law_pot" sPot ["script", "place"])
    (d__law_take : Dn K mg "_law_take" sTake ["pot", "upto"])
    (d__law_of : Dn K mg "_law_of" sOf ["pot", "some"])
    (d__law_cells : Dn K mg "_law_cells" sCells ["script", "limit"])
    (d__law_short : Dn K mg "_law_short" sShort ["top", "low"])
    (d__law_plus : Dn K mg "_law_plus" sLPlus ["one", "other"])
    (d__law_times : Dn K mg "_law_times" sLTimes ["one", "other"])
    (d__law_less : Dn K mg "_law_less" sLLess ["one", "other"])
    (d__law_turned : Dn K mg "_law_turned" sTurned ["matrix"])
    (d__law_minus : Dn K mg "_law_minus" sLMinus ["one", "other"])
    (d__law_least_at : Dn K mg "_law_least_at" sLeastAt ["matrix", "share"])
    (d__law_peak : Dn K mg "_law_peak" sPeak ["matrix"])
    (d__law_is_shown : Dn K mg "_law_is_shown" sIsShown ["matrix", "told"])
    (d__law_fraction : Dn K mg "_law_fraction" sFraction ["pot"])
    (d__law_lines : Dn K mg "_law_lines" sLines ["pot", "many"])
    (d__law_is_right : Dn K mg "_law_is_right" sIsRight ["pot", "matrix", "value"])
    (d__law_are_lines_right : Dn K mg "_law_are_lines_right" sAreLines ["pot"])
    (FL : Fun K "law" "law" sLaw fL fdL) : GnOk P w K mg base 11 fL fdL ["script"] (spLaw K) := by
  have g_is_integer := ok_is_integer (P := P) (w := w) (base := base) T d_is_integer
  have g_common := ok_common (P := P) (w := w) (base := base) T d_common
  have g_part := ok_part (P := P) (w := w) (base := base) T d_part g_common
  have g_plus := ok_plus (P := P) (w := w) (base := base) d_plus g_part
  have g_minus := ok_minus (P := P) (w := w) (base := base) d_minus g_part
  have g_times := ok_times (P := P) (w := w) (base := base) d_times g_part
  have g_divided := ok_divided (P := P) (w := w) (base := base) d_divided g_part
  have g_is_less := ok_is_less (P := P) (w := w) (base := base) d_is_less
  have g_sum_of := ok_sum_of (P := P) (w := w) (base := base) G d_sum_of g_plus
  have g_least_of := ok_least_of (P := P) (w := w) (base := base) d_least_of g_is_less
  have g_greatest_of := ok_greatest_of (P := P) (w := w) (base := base) d_greatest_of g_is_less
  have g_is_fraction := ok_is_fraction (P := P) (w := w) (base := base) T d_is_fraction g_is_integer g_common
  have g_is_share := ok_is_share (P := P) (w := w) (base := base) T G d_is_share g_is_fraction g_sum_of
  have g_mean_of := ok_mean_of (P := P) (w := w) (base := base) T d_mean_of g_times g_sum_of
  have g_is_row := ok_is_row (P := P) (w := w) (base := base) T G d_is_row g_is_fraction g_is_less
  have g_is_matrix := ok_is_matrix (P := P) (w := w) (base := base) T G d_is_matrix g_is_row
  have g_check_matrix := ok_check_matrix (P := P) (w := w) (base := base) d_check_matrix g_is_matrix
  have g_columns_of := ok_columns_of (P := P) (w := w) (base := base) T d_columns_of
  have g_less_times := ok_less_times (P := P) (w := w) (base := base) T d_less_times g_minus g_times
  have m_entering := ok_entering (P := P) (w := w) (base := base) T G Y e_entering g_is_less
  have m_leaving := ok_leaving (P := P) (w := w) (base := base) T G Y e_leaving g_is_less g_divided g_least_of
  have m_turn := ok_turn (P := P) (w := w) (base := base) T Y e_turn g_divided g_less_times
  have m_go := ok_go (P := P) (w := w) (base := base) T Y e_go m_entering m_leaving m_turn
  have m_columns := ok_columns (P := P) (w := w) (base := base) T G Y e_columns
  have Z : Ck P w K mg base C := ⟨f0, fd0, mk, ok_init T G Y f0 fd0 Fi g_plus g_minus, bi, gC⟩
  have g_solved := ok_solved (P := P) (w := w) (base := base) T G Y Z d_solved m_go m_columns g_sum_of g_minus g_divided
  have g_matrix_told := ok_told (P := P) (w := w) (base := base) d_matrix_told g_check_matrix g_solved
  have g_shows_matrix := ok_shows (P := P) (w := w) (base := base) T G d_shows_matrix g_check_matrix g_is_fraction g_is_share g_mean_of g_least_of g_greatest_of g_is_less g_columns_of
  have g__law_pot := ok_pot (P := P) (w := w) (base := base) T d__law_pot
  have g__law_take := ok_take (P := P) (w := w) (base := base) T d__law_take
  have g__law_of := ok_of (P := P) (w := w) (base := base) T d__law_of g__law_take
  have g__law_cells := ok_cells (P := P) (w := w) (base := base) T d__law_cells
  have g__law_short := ok_short (P := P) (w := w) (base := base) T d__law_short
  have g__law_plus := ok_lplus (P := P) (w := w) (base := base) d__law_plus g__law_short
  have g__law_times := ok_ltimes (P := P) (w := w) (base := base) d__law_times g__law_short
  have g__law_less := ok_lless (P := P) (w := w) (base := base) d__law_less
  have g__law_turned := ok_turned (P := P) (w := w) (base := base) T d__law_turned
  have g__law_minus := ok_lminus (P := P) (w := w) (base := base) d__law_minus g__law_short
  have g__law_least_at := ok_least_at (P := P) (w := w) (base := base) T d__law_least_at g__law_plus g__law_minus g__law_times g__law_less
  have g__law_peak := ok_peak (P := P) (w := w) (base := base) T d__law_peak g__law_short g__law_least_at g__law_less
  have g__law_is_shown := ok_is_shown (P := P) (w := w) (base := base) T d__law_is_shown g__law_plus g__law_times g__law_less g__law_turned
  have g__law_fraction := ok_fraction (P := P) (w := w) (base := base) T d__law_fraction g__law_take g__law_of g__law_short
  have g__law_lines := ok_lines (P := P) (w := w) (base := base) T d__law_lines g__law_take g__law_of g__law_fraction g__law_turned
  have g__law_is_right := ok_is_right (P := P) (w := w) (base := base) T d__law_is_right g_matrix_told g_shows_matrix g__law_is_shown g__law_take g__law_plus g__law_minus g__law_times
  have g__law_are_lines_right := ok_are_lines (P := P) (w := w) (base := base) T d__law_are_lines_right g__law_of g__law_lines g__law_peak g__law_is_right g_matrix_told g_shows_matrix g__law_minus g__law_take g__law_turned
  exact ok_law T FL g__law_cells g__law_pot g__law_are_lines_right g__law_fraction g__law_of g__law_less g__law_is_right g__law_turned g__law_take g__law_plus
end
/-- what the top has left is all that the law wants -/
theorem ok_end {l : PySem.W.OpenLaw} {w : World} {K : PySem.W.Frag} {h : Heap} {mg : Str → Option Value} {fa C f0 fL aN aW aM : Addr} (X : K.In h) (G : h.Ns mainGlobals mg) (hfa : mg "law" = some (.ref fa))
    {oc0 kV0 dc0 pm0 cd0 ct0 ocL kVL dcL pmL cdL ctL : Value} {od0 an0 odL anL odN odW odM : Option Addr} {sl0 slL slN slW slM : Array (Option Value)} {tS tH tN1 tN2 tW1 tW2 tM1 tM2 : Tok} {zN zW zM : Nat}
    (b_abs : PySem.W.nsIn K mainGlobals "abs" = some none)
    (b_int : PySem.W.nsIn K mainGlobals "int" = some none)
    (b_len : PySem.W.nsIn K mainGlobals "len" = some none)
    (b_isinstance : PySem.W.nsIn K mainGlobals "isinstance" = some none)
    (b_tuple : PySem.W.nsIn K mainGlobals "tuple" = some none)
    (b_list : PySem.W.nsIn K mainGlobals "list" = some none)
    (b_bool : PySem.W.nsIn K mainGlobals "bool" = some none)
    (b_all : PySem.W.nsIn K mainGlobals "all" = some none)
    (b_any : PySem.W.nsIn K mainGlobals "any" = some none)
    (b_zip : PySem.W.nsIn K mainGlobals "zip" = some none)
    (b_enumerate : PySem.W.nsIn K mainGlobals "enumerate" = some none)
    (b_range : PySem.W.nsIn K mainGlobals "range" = some none)
    (b_min : PySem.W.nsIn K mainGlobals "min" = some none)
    (b_max : PySem.W.nsIn K mainGlobals "max" = some none)
    (b_dict : PySem.W.nsIn K mainGlobals "dict" = some none)
    (b_sum : PySem.W.nsIn K mainGlobals "sum" = some none)
    (b_repr : PySem.W.nsIn K mainGlobals "repr" = some none)
    (c_NOTHING : PySem.W.nsIn K mainGlobals "NOTHING" = some (some (.ref aN)))
    (c_WHOLE : PySem.W.nsIn K mainGlobals "WHOLE" = some (some (.ref aW)))
    (c_MOST_VALUE : PySem.W.nsIn K mainGlobals "MOST_VALUE" = some (some (.ref aM)))
    (l_NOTHING : K.lookup aN = some ⟨.type "tuple", odN, .seq #[.int 0 tN1, .int 1 tN2] zN, slN⟩) (l_WHOLE : K.lookup aW = some ⟨.type "tuple", odW, .seq #[.int 1 tW1, .int 1 tW2] zW, slW⟩) (l_MOST_VALUE : K.lookup aM = some ⟨.type "tuple", odM, .seq #[.int 100 tM1, .int 1 tM2] zM, slM⟩)
    (c_MOST_SIDE : PySem.W.nsIn K mainGlobals "MOST_SIDE" = some (some (.int 64 tS))) (c_THREE : PySem.W.nsIn K mainGlobals "THREE" = some (some (.int 3 tH)))
    (aC : PySem.W.nsIn K mainGlobals "Corner" = some (some (.ref C))) (pg : PySem.W.plainGet K C Str.empty = true) (hd : PySem.W.hasDictIn K C = true) (po : PySem.W.plainOver K C = true) (sa : PySem.W.findIn K (.ref C) "__setattr__" = some (some (.builtin "object.__setattr__"))) (mk : PySem.W.makesIn K C = true) (kc : PySem.W.keepIn K (.ref C) = true)
    (nR : PySem.W.findIn K (.ref C) "rows" = some none) (nL : PySem.W.findIn K (.ref C) "last" = some none) (nB : PySem.W.findIn K (.ref C) "base" = some none)
    (a0 : PySem.W.findIn K (.ref C) "__init__" = some (some (.ref f0))) (i0 : PySem.W.isFn K (.ref f0) = true) (l0 : K.lookup f0 = some ⟨oc0, od0, .func (PySem.W.fnOf "__init__" "Corner.__init__" (defArgs sInit) (defBody sInit) (defScope sInit) .none kV0 dc0 pm0 an0 cd0 ct0), sl0⟩) (c0 : PySem.W.codeIn K cd0 "Corner.__init__" = true) (k0 : PySem.W.keepIn K (.ref f0) = true)
    (aL : PySem.W.nsIn K mainGlobals "law" = some (some (.ref fL))) (lL : K.lookup fL = some ⟨ocL, odL, .func (PySem.W.fnOf "law" "law" (defArgs sLaw) (defBody sLaw) (defScope sLaw) .none kVL dcL pmL anL cdL ctL), slL⟩) (cL : PySem.W.codeIn K cdL "law" = true) (kL : PySem.W.keepIn K (.ref fL) = true)
    (d_is_integer : Dn K mg "is_integer" sIsInteger ["value"])
    (d_common : Dn K mg "common" sCommon ["one", "other"])
    (d_part : Dn K mg "part" sPart ["top", "low"])
    (d_plus : Dn K mg "plus" sPlus ["one", "other"])
    (d_minus : Dn K mg "minus" sMinus ["one", "other"])
    (d_times : Dn K mg "times" sTimes ["one", "other"])
    (d_divided : Dn K mg "divided" sDivided ["one", "other"])
    (d_is_less : Dn K mg "is_less" sIsLess ["one", "other"])
    (d_sum_of : Dn K mg "sum_of" sSumOf ["some"])
    (d_least_of : Dn K mg "least_of" sLeastOf ["some"])
    (d_greatest_of : Dn K mg "greatest_of" sGreatestOf ["some"])
    (d_is_fraction : Dn K mg "is_fraction" sIsFraction ["value"])
    (d_is_share : Dn K mg "is_share" sIsShare ["value", "many"])
    (d_mean_of : Dn K mg "mean_of" sMeanOf ["shares", "some"])
    (d_is_row : Dn K mg "is_row" sIsRow ["value", "many"])
    (d_is_matrix : Dn K mg "is_matrix" sIsMatrix ["value"])
    (d_check_matrix : Dn K mg "check_matrix" sCheckMatrix ["matrix"])
    (d_columns_of : Dn K mg "columns_of" sColumnsOf ["matrix"])
    (d_less_times : Dn K mg "less_times" sLessTimes ["row", "other", "column"])
    (e_entering : Dm K C "entering" "Corner.entering" sEntering ["self"])
    (e_leaving : Dm K C "leaving" "Corner.leaving" sLeaving ["self", "column"])
    (e_turn : Dm K C "turn" "Corner.turn" sTurn ["self", "place", "column"])
    (e_go : Dm K C "go" "Corner.go" sGo ["self"])
    (e_columns : Dm K C "columns" "Corner.columns" sColumns ["self", "wide"])
    (d_solved : Dn K mg "solved" sSolved ["matrix"])
    (d_matrix_told : Dn K mg "matrix_told" sTold ["matrix"])
    (d_shows_matrix : Dn K mg "shows_matrix" sShows ["matrix", "value"])
    (d__law_pot : Dn K mg "_law_pot" sPot ["script", "place"])
    (d__law_take : Dn K mg "_law_take" sTake ["pot", "upto"])
    (d__law_of : Dn K mg "_law_of" sOf ["pot", "some"])
    (d__law_cells : Dn K mg "_law_cells" sCells ["script", "limit"])
    (d__law_short : Dn K mg "_law_short" sShort ["top", "low"])
    (d__law_plus : Dn K mg "_law_plus" sLPlus ["one", "other"])
    (d__law_times : Dn K mg "_law_times" sLTimes ["one", "other"])
    (d__law_less : Dn K mg "_law_less" sLLess ["one", "other"])
    (d__law_turned : Dn K mg "_law_turned" sTurned ["matrix"])
    (d__law_minus : Dn K mg "_law_minus" sLMinus ["one", "other"])
    (d__law_least_at : Dn K mg "_law_least_at" sLeastAt ["matrix", "share"])
    (d__law_peak : Dn K mg "_law_peak" sPeak ["matrix"])
    (d__law_is_shown : Dn K mg "_law_is_shown" sIsShown ["matrix", "told"])
    (d__law_fraction : Dn K mg "_law_fraction" sFraction ["pot"])
    (d__law_lines : Dn K mg "_law_lines" sLines ["pot", "many"])
    (d__law_is_right : Dn K mg "_law_is_right" sIsRight ["pot", "matrix", "value"])
    (d__law_are_lines_right : Dn K mg "_law_are_lines_right" sAreLines ["pot"]) :
    ∃ fd : FuncData, (∀ (s : Shared) (v : Value), BindsTo s fd ⟨[v], []⟩ [("script", v)]) ∧ ∀ base : Heap, K.In base → base.Ns mainGlobals mg → GnOk l.prog w K mg base 11 fa fd ["script"] (spLaw K) := by
  have e := hfa.symm.trans (PySem.W.mg_of X G aL)
  cases e
  have T : Bt mg := ⟨PySem.W.mg_none_of X G b_abs, PySem.W.mg_none_of X G b_int, PySem.W.mg_none_of X G b_len, PySem.W.mg_none_of X G b_isinstance, PySem.W.mg_none_of X G b_tuple, PySem.W.mg_none_of X G b_list, PySem.W.mg_none_of X G b_bool, PySem.W.mg_none_of X G b_all, PySem.W.mg_none_of X G b_any, PySem.W.mg_none_of X G b_zip, PySem.W.mg_none_of X G b_enumerate, PySem.W.mg_none_of X G b_range, PySem.W.mg_none_of X G b_min, PySem.W.mg_none_of X G b_max, PySem.W.mg_none_of X G b_dict, PySem.W.mg_none_of X G b_sum, PySem.W.mg_none_of X G b_repr⟩
  have GG : Gc K mg := ⟨⟨aN, PySem.W.mg_of X G c_NOTHING, fr_mk l_NOTHING rfl rfl⟩, ⟨aW, PySem.W.mg_of X G c_WHOLE, fr_mk l_WHOLE rfl rfl⟩, ⟨aM, PySem.W.mg_of X G c_MOST_VALUE, fr_mk l_MOST_VALUE rfl rfl⟩, ⟨tS, PySem.W.mg_of X G c_MOST_SIDE⟩, ⟨tH, PySem.W.mg_of X G c_THREE⟩⟩
  have Y : Ct K C := ⟨⟨pg, hd, po, sa⟩, nR, nL, nB⟩
  have F0 := fun_mk (st := sInit) l0 c0 k0
  have B0 := F0.binds (ps := ["self", "matrix"]) fun _ _ _ _ _ _ us hl => match us, hl with | [_, _], _ => rfl
  exact ⟨PySem.W.fnOf "law" "law" (defArgs sLaw) (defBody sLaw) (defScope sLaw) .none kVL dcL pmL anL cdL ctL, fun s v => .of_eq rfl, fun base _ _ =>
    ok_chain T GG Y (PySem.W.mg_of X G aC) ⟨mk, a0, i0, kc⟩ F0 B0 d_is_integer d_common d_part d_plus d_minus d_times d_divided d_is_less d_sum_of d_least_of d_greatest_of d_is_fraction d_is_share d_mean_of d_is_row d_is_matrix d_check_matrix d_columns_of d_less_times e_entering e_leaving e_turn e_go e_columns d_solved d_matrix_told d_shows_matrix d__law_pot d__law_take d__law_of d__law_cells d__law_short d__law_plus d__law_times d__law_less d__law_turned d__law_minus d__law_least_at d__law_peak d__law_is_shown d__law_fraction d__law_lines d__law_is_right d__law_are_lines_right (fun_mk (st := sLaw) lL cL kL)⟩
end Mx
end
section
set_option Elab.async false
set_option linter.all false
set_option maxRecDepth 100000
open PySem PySem.W PyProof.Rows
set_option maxHeartbeats 0 in
open_top Mx.head for PySem.Challenge.rw_astherulessay_k32_whole_matrices_of_two
open PySem PySem.W PyProof.Rows in
set_option maxRecDepth 100000 in
set_option maxHeartbeats 0 in
theorem PySem.Challenge.cw_astherulessay_k32_whole_matrices_of_two_holds : PySem.Challenge.rw_astherulessay_k32_whole_matrices_of_two.Holds := by
  refine Mx.head ?_
  k_fill
  refine Mx.walkG (l := PySem.Challenge.rw_astherulessay_k32_whole_matrices_of_two) (n := 63) (k := 11) (x := "script") (sp := fun w => Mx.spLaw _) rfl (by decide) rfl ⟨rfl, by decide, by decide⟩ (fun w h Y => PySem.W.kIn_of Y) ?F (fun _ _ a ns hl hS => ⟨a, ns, rfl, hS, by omega, fun _ => rfl⟩)
  case F =>
    intro w mg fa h KX G hmg
    refine' Mx.ok_end KX G hmg ?b_abs ?b_int ?b_len ?b_isinstance ?b_tuple ?b_list ?b_bool ?b_all ?b_any ?b_zip ?b_enumerate ?b_range ?b_min ?b_max ?b_dict ?b_sum ?b_repr ?c_NOTHING ?c_WHOLE ?c_MOST_VALUE ?l_NOTHING ?l_WHOLE ?l_MOST_VALUE ?c_MOST_SIDE ?c_THREE ?aC ?pg ?hd ?po ?sa ?mk ?kc ?nR ?nL ?nB ?a0 ?i0 ?l0 ?c0 ?k0 ?aL ?lL ?cL ?kL ?d_is_integer ?d_common ?d_part ?d_plus ?d_minus ?d_times ?d_divided ?d_is_less ?d_sum_of ?d_least_of ?d_greatest_of ?d_is_fraction ?d_is_share ?d_mean_of ?d_is_row ?d_is_matrix ?d_check_matrix ?d_columns_of ?d_less_times ?e_entering ?e_leaving ?e_turn ?e_go ?e_columns ?d_solved ?d_matrix_told ?d_shows_matrix ?d__law_pot ?d__law_take ?d__law_of ?d__law_cells ?d__law_short ?d__law_plus ?d__law_times ?d__law_less ?d__law_turned ?d__law_minus ?d__law_least_at ?d__law_peak ?d__law_is_shown ?d__law_fraction ?d__law_lines ?d__law_is_right ?d__law_are_lines_right
    (case b_abs => k_is)
    (case b_int => k_is)
    (case b_len => k_is)
    (case b_isinstance => k_is)
    (case b_tuple => k_is)
    (case b_list => k_is)
    (case b_bool => k_is)
    (case b_all => k_is)
    (case b_any => k_is)
    (case b_zip => k_is)
    (case b_enumerate => k_is)
    (case b_range => k_is)
    (case b_min => k_is)
    (case b_max => k_is)
    (case b_dict => k_is)
    (case b_sum => k_is)
    (case b_repr => k_is)
    (case c_NOTHING => k_is)
    (case c_WHOLE => k_is)
    (case c_MOST_VALUE => k_is)
    (case l_NOTHING => k_is)
    (case l_WHOLE => k_is)
    (case l_MOST_VALUE => k_is)
    (case c_MOST_SIDE => k_is)
    (case c_THREE => k_is)
    (case aC => k_is)
    (case pg => k_is)
    (case hd => k_is)
    (case po => k_is)
    (case sa => k_is)
    (case mk => k_is)
    (case kc => k_is)
    (case nR => k_is)
    (case nL => k_is)
    (case nB => k_is)
    (case a0 => k_is)
    (case i0 => k_is)
    (case l0 => k_is)
    (case c0 => k_is)
    (case k0 => k_is)
    (case aL => k_is)
    (case lL => k_is)
    (case cL => k_is)
    (case kL => k_is)
    (case d_is_integer => refine' Mx.dn_mk KX G ?a ?l ?c ?k (fun _ _ _ _ _ _ us hl => match us, hl with | [_], _ => rfl); (case a => k_is); (case l => k_is); (case c => k_is); (case k => k_is))
    (case d_common => refine' Mx.dn_mk KX G ?a ?l ?c ?k (fun _ _ _ _ _ _ us hl => match us, hl with | [_, _], _ => rfl); (case a => k_is); (case l => k_is); (case c => k_is); (case k => k_is))
    (case d_part => refine' Mx.dn_mk KX G ?a ?l ?c ?k (fun _ _ _ _ _ _ us hl => match us, hl with | [_, _], _ => rfl); (case a => k_is); (case l => k_is); (case c => k_is); (case k => k_is))
    (case d_plus => refine' Mx.dn_mk KX G ?a ?l ?c ?k (fun _ _ _ _ _ _ us hl => match us, hl with | [_, _], _ => rfl); (case a => k_is); (case l => k_is); (case c => k_is); (case k => k_is))
    (case d_minus => refine' Mx.dn_mk KX G ?a ?l ?c ?k (fun _ _ _ _ _ _ us hl => match us, hl with | [_, _], _ => rfl); (case a => k_is); (case l => k_is); (case c => k_is); (case k => k_is))
    (case d_times => refine' Mx.dn_mk KX G ?a ?l ?c ?k (fun _ _ _ _ _ _ us hl => match us, hl with | [_, _], _ => rfl); (case a => k_is); (case l => k_is); (case c => k_is); (case k => k_is))
    (case d_divided => refine' Mx.dn_mk KX G ?a ?l ?c ?k (fun _ _ _ _ _ _ us hl => match us, hl with | [_, _], _ => rfl); (case a => k_is); (case l => k_is); (case c => k_is); (case k => k_is))
    (case d_is_less => refine' Mx.dn_mk KX G ?a ?l ?c ?k (fun _ _ _ _ _ _ us hl => match us, hl with | [_, _], _ => rfl); (case a => k_is); (case l => k_is); (case c => k_is); (case k => k_is))
    (case d_sum_of => refine' Mx.dn_mk KX G ?a ?l ?c ?k (fun _ _ _ _ _ _ us hl => match us, hl with | [_], _ => rfl); (case a => k_is); (case l => k_is); (case c => k_is); (case k => k_is))
    (case d_least_of => refine' Mx.dn_mk KX G ?a ?l ?c ?k (fun _ _ _ _ _ _ us hl => match us, hl with | [_], _ => rfl); (case a => k_is); (case l => k_is); (case c => k_is); (case k => k_is))
    (case d_greatest_of => refine' Mx.dn_mk KX G ?a ?l ?c ?k (fun _ _ _ _ _ _ us hl => match us, hl with | [_], _ => rfl); (case a => k_is); (case l => k_is); (case c => k_is); (case k => k_is))
    (case d_is_fraction => refine' Mx.dn_mk KX G ?a ?l ?c ?k (fun _ _ _ _ _ _ us hl => match us, hl with | [_], _ => rfl); (case a => k_is); (case l => k_is); (case c => k_is); (case k => k_is))
    (case d_is_share => refine' Mx.dn_mk KX G ?a ?l ?c ?k (fun _ _ _ _ _ _ us hl => match us, hl with | [_, _], _ => rfl); (case a => k_is); (case l => k_is); (case c => k_is); (case k => k_is))
    (case d_mean_of => refine' Mx.dn_mk KX G ?a ?l ?c ?k (fun _ _ _ _ _ _ us hl => match us, hl with | [_, _], _ => rfl); (case a => k_is); (case l => k_is); (case c => k_is); (case k => k_is))
    (case d_is_row => refine' Mx.dn_mk KX G ?a ?l ?c ?k (fun _ _ _ _ _ _ us hl => match us, hl with | [_, _], _ => rfl); (case a => k_is); (case l => k_is); (case c => k_is); (case k => k_is))
    (case d_is_matrix => refine' Mx.dn_mk KX G ?a ?l ?c ?k (fun _ _ _ _ _ _ us hl => match us, hl with | [_], _ => rfl); (case a => k_is); (case l => k_is); (case c => k_is); (case k => k_is))
    (case d_check_matrix => refine' Mx.dn_mk KX G ?a ?l ?c ?k (fun _ _ _ _ _ _ us hl => match us, hl with | [_], _ => rfl); (case a => k_is); (case l => k_is); (case c => k_is); (case k => k_is))
    (case d_columns_of => refine' Mx.dn_mk KX G ?a ?l ?c ?k (fun _ _ _ _ _ _ us hl => match us, hl with | [_], _ => rfl); (case a => k_is); (case l => k_is); (case c => k_is); (case k => k_is))
    (case d_less_times => refine' Mx.dn_mk KX G ?a ?l ?c ?k (fun _ _ _ _ _ _ us hl => match us, hl with | [_, _, _], _ => rfl); (case a => k_is); (case l => k_is); (case c => k_is); (case k => k_is))
    (case e_entering => refine' Mx.dm_mk ?a ?i ?l ?c ?k (fun _ _ _ _ _ _ us hl => match us, hl with | [_], _ => rfl); (case a => k_is); (case i => k_is); (case l => k_is); (case c => k_is); (case k => k_is))
    (case e_leaving => refine' Mx.dm_mk ?a ?i ?l ?c ?k (fun _ _ _ _ _ _ us hl => match us, hl with | [_, _], _ => rfl); (case a => k_is); (case i => k_is); (case l => k_is); (case c => k_is); (case k => k_is))
    (case e_turn => refine' Mx.dm_mk ?a ?i ?l ?c ?k (fun _ _ _ _ _ _ us hl => match us, hl with | [_, _, _], _ => rfl); (case a => k_is); (case i => k_is); (case l => k_is); (case c => k_is); (case k => k_is))
    (case e_go => refine' Mx.dm_mk ?a ?i ?l ?c ?k (fun _ _ _ _ _ _ us hl => match us, hl with | [_], _ => rfl); (case a => k_is); (case i => k_is); (case l => k_is); (case c => k_is); (case k => k_is))
    (case e_columns => refine' Mx.dm_mk ?a ?i ?l ?c ?k (fun _ _ _ _ _ _ us hl => match us, hl with | [_, _], _ => rfl); (case a => k_is); (case i => k_is); (case l => k_is); (case c => k_is); (case k => k_is))
    (case d_solved => refine' Mx.dn_mk KX G ?a ?l ?c ?k (fun _ _ _ _ _ _ us hl => match us, hl with | [_], _ => rfl); (case a => k_is); (case l => k_is); (case c => k_is); (case k => k_is))
    (case d_matrix_told => refine' Mx.dn_mk KX G ?a ?l ?c ?k (fun _ _ _ _ _ _ us hl => match us, hl with | [_], _ => rfl); (case a => k_is); (case l => k_is); (case c => k_is); (case k => k_is))
    (case d_shows_matrix => refine' Mx.dn_mk KX G ?a ?l ?c ?k (fun _ _ _ _ _ _ us hl => match us, hl with | [_, _], _ => rfl); (case a => k_is); (case l => k_is); (case c => k_is); (case k => k_is))
    (case d__law_pot => refine' Mx.dn_mk KX G ?a ?l ?c ?k (fun _ _ _ _ _ _ us hl => match us, hl with | [_, _], _ => rfl); (case a => k_is); (case l => k_is); (case c => k_is); (case k => k_is))
    (case d__law_take => refine' Mx.dn_mk KX G ?a ?l ?c ?k (fun _ _ _ _ _ _ us hl => match us, hl with | [_, _], _ => rfl); (case a => k_is); (case l => k_is); (case c => k_is); (case k => k_is))
    (case d__law_of => refine' Mx.dn_mk KX G ?a ?l ?c ?k (fun _ _ _ _ _ _ us hl => match us, hl with | [_, _], _ => rfl); (case a => k_is); (case l => k_is); (case c => k_is); (case k => k_is))
    (case d__law_cells => refine' Mx.dn_mk KX G ?a ?l ?c ?k (fun _ _ _ _ _ _ us hl => match us, hl with | [_, _], _ => rfl); (case a => k_is); (case l => k_is); (case c => k_is); (case k => k_is))
    (case d__law_short => refine' Mx.dn_mk KX G ?a ?l ?c ?k (fun _ _ _ _ _ _ us hl => match us, hl with | [_, _], _ => rfl); (case a => k_is); (case l => k_is); (case c => k_is); (case k => k_is))
    (case d__law_plus => refine' Mx.dn_mk KX G ?a ?l ?c ?k (fun _ _ _ _ _ _ us hl => match us, hl with | [_, _], _ => rfl); (case a => k_is); (case l => k_is); (case c => k_is); (case k => k_is))
    (case d__law_times => refine' Mx.dn_mk KX G ?a ?l ?c ?k (fun _ _ _ _ _ _ us hl => match us, hl with | [_, _], _ => rfl); (case a => k_is); (case l => k_is); (case c => k_is); (case k => k_is))
    (case d__law_less => refine' Mx.dn_mk KX G ?a ?l ?c ?k (fun _ _ _ _ _ _ us hl => match us, hl with | [_, _], _ => rfl); (case a => k_is); (case l => k_is); (case c => k_is); (case k => k_is))
    (case d__law_turned => refine' Mx.dn_mk KX G ?a ?l ?c ?k (fun _ _ _ _ _ _ us hl => match us, hl with | [_], _ => rfl); (case a => k_is); (case l => k_is); (case c => k_is); (case k => k_is))
    (case d__law_minus => refine' Mx.dn_mk KX G ?a ?l ?c ?k (fun _ _ _ _ _ _ us hl => match us, hl with | [_, _], _ => rfl); (case a => k_is); (case l => k_is); (case c => k_is); (case k => k_is))
    (case d__law_least_at => refine' Mx.dn_mk KX G ?a ?l ?c ?k (fun _ _ _ _ _ _ us hl => match us, hl with | [_, _], _ => rfl); (case a => k_is); (case l => k_is); (case c => k_is); (case k => k_is))
    (case d__law_peak => refine' Mx.dn_mk KX G ?a ?l ?c ?k (fun _ _ _ _ _ _ us hl => match us, hl with | [_], _ => rfl); (case a => k_is); (case l => k_is); (case c => k_is); (case k => k_is))
    (case d__law_is_shown => refine' Mx.dn_mk KX G ?a ?l ?c ?k (fun _ _ _ _ _ _ us hl => match us, hl with | [_, _], _ => rfl); (case a => k_is); (case l => k_is); (case c => k_is); (case k => k_is))
    (case d__law_fraction => refine' Mx.dn_mk KX G ?a ?l ?c ?k (fun _ _ _ _ _ _ us hl => match us, hl with | [_], _ => rfl); (case a => k_is); (case l => k_is); (case c => k_is); (case k => k_is))
    (case d__law_lines => refine' Mx.dn_mk KX G ?a ?l ?c ?k (fun _ _ _ _ _ _ us hl => match us, hl with | [_, _], _ => rfl); (case a => k_is); (case l => k_is); (case c => k_is); (case k => k_is))
    (case d__law_is_right => refine' Mx.dn_mk KX G ?a ?l ?c ?k (fun _ _ _ _ _ _ us hl => match us, hl with | [_, _, _], _ => rfl); (case a => k_is); (case l => k_is); (case c => k_is); (case k => k_is))
    (case d__law_are_lines_right => refine' Mx.dn_mk KX G ?a ?l ?c ?k (fun _ _ _ _ _ _ us hl => match us, hl with | [_], _ => rfl); (case a => k_is); (case l => k_is); (case c => k_is); (case k => k_is))
#print axioms PySem.Challenge.cw_astherulessay_k32_whole_matrices_of_two_holds
end
