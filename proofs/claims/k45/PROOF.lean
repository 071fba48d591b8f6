import PyProof.Rows.All
import Wide.All
import OpenK.AllK
import Wide.FinOn
import PyProof.EqAt
import PyProof.EqKinds
import PyProof.TupleCall
import KE.GoesEnum
import HandS.Base
import HandS.Call
import HandS.List
import HandS.Comp
import HandS.Iter
import HandS.Walk
import HandS.GenBody
import HandS.GenYield
import PyProof.GenComp
import PyProof.FactsAll.subtypes_4
import HandS.More
import HandS.Exc
import HandS.Star
import HandS.TupMul
import HandS.TupSets
import HandS.Words
import PyProof.SetRoads
import HandS.IsInst
import HandS.TupAny
import HandS.Deep
import PyProof.P3In
import HandS.Ends
import HandS.WordsList
import HandS.WordsExc
import HandS.ClsMeth
import HandS.Property
import HandS.GenCall
import HandS.GenList
import HandS.Head0
import HandS.Head1
import HandS.Head2
import HandS.HeadEnd
import HandS.HeadHook1
import HandS.HeadHook2
import HandS.HeadNt
import PySem.Challenge.RW_burstlimits_k45_whole_gates_one_behind_t
set_option linter.all false
/-! The mathematics of burstlimits: rows as lists of ints, gates by their recurrence. Core Lean only. -/
namespace BM

abbrev Pr := Int × Int
def GoodP (P : List Pr) : Prop := ∀ p ∈ P, 1 ≤ p.1 ∧ p.1 ≤ 20 ∧ 1 ≤ p.2 ∧ p.2 ≤ 20
/-- a row: what is asked of it -/
def RowOk (x : List Int) : Prop := (∀ a ∈ x, 0 ≤ a) ∧ x.sum ≤ 60

def cum (x : List Int) (n : Nat) : Int := (x.take n).sum

theorem sum_append (x y : List Int) : (x ++ y).sum = x.sum + y.sum := by
  induction x with
  | nil => simp
  | cons a r ih => simp only [List.cons_append, List.sum_cons, ih]; omega

theorem cum_zero (x : List Int) : cum x 0 = 0 := by simp [cum]
theorem cum_full {x : List Int} {n : Nat} (h : x.length ≤ n) : cum x n = x.sum := by
  unfold cum; rw [List.take_of_length_le h]
theorem cum_succ (x : List Int) (n : Nat) : cum x (n + 1) = cum x n + x.getD n 0 := by
  unfold cum
  rw [List.take_add_one, sum_append]
  congr 1
  rw [List.getD_eq_getElem?_getD]
  cases x[n]? <;> simp
theorem getD_nonneg {x : List Int} (h : ∀ a ∈ x, 0 ≤ a) (n : Nat) : 0 ≤ x.getD n 0 := by
  rw [List.getD_eq_getElem?_getD]
  cases e : x[n]? with
  | none => simp
  | some a => simpa using h a (List.mem_of_getElem? e)
theorem cum_mono1 {x : List Int} (h : ∀ a ∈ x, 0 ≤ a) (n : Nat) : cum x n ≤ cum x (n + 1) := by
  have := getD_nonneg h n
  rw [cum_succ]; omega
theorem mono_of {A : Nat → Int} (h : ∀ n, A n ≤ A (n + 1)) : ∀ {i j : Nat}, i ≤ j → A i ≤ A j := by
  intro i j hij
  induction j with
  | zero => have : i = 0 := by omega
            subst this; exact Int.le_refl _
  | succ j ih =>
    by_cases e : i = j + 1
    · subst e; exact Int.le_refl _
    · exact Int.le_trans (ih (by omega)) (h j)
theorem cum_mono {x : List Int} (h : ∀ a ∈ x, 0 ≤ a) {i j : Nat} (hij : i ≤ j) : cum x i ≤ cum x j := mono_of (cum_mono1 h) hij
theorem sum_nonneg {x : List Int} (h : ∀ a ∈ x, 0 ≤ a) : 0 ≤ x.sum := by
  induction x with
  | nil => simp
  | cons a r ih =>
    have h1 := h a (by simp)
    have h2 := ih fun b hb => h b (by simp [hb])
    rw [List.sum_cons]; omega
theorem mem_le_sum {x : List Int} (h : ∀ a ∈ x, 0 ≤ a) : ∀ a ∈ x, a ≤ x.sum := by
  induction x with
  | nil => intro a ha; cases ha
  | cons b r ih =>
    intro a ha
    have h1 := h b (by simp)
    have h2 : ∀ c ∈ r, 0 ≤ c := fun c hc => h c (by simp [hc])
    rw [List.sum_cons]
    rcases List.mem_cons.mp ha with rfl | hr
    · have := sum_nonneg h2; omega
    · have := ih h2 a hr; omega
theorem cum_le_sum {x : List Int} (h : ∀ a ∈ x, 0 ≤ a) (n : Nat) : cum x n ≤ x.sum := by
  by_cases hn : x.length ≤ n
  · rw [cum_full hn]; exact Int.le_refl _
  · rw [← cum_full (Nat.le_refl x.length)]; exact cum_mono h (by omega)
theorem cum_nonneg {x : List Int} (h : ∀ a ∈ x, 0 ≤ a) (n : Nat) : 0 ≤ cum x n := by
  rw [← cum_zero x]; exact cum_mono h (Nat.zero_le n)
/-- a stretch by the sums of beginnings -/
theorem stretch_cum (x : List Int) (s L : Nat) : ((x.drop s).take L).sum = cum x (s + L) - cum x s := by
  have h : x.take (s + L) = x.take s ++ (x.drop s).take L := by rw [List.take_add]
  unfold cum
  rw [h, sum_append]; omega
theorem drop_cum (x : List Int) (s : Nat) : (x.drop s).sum = x.sum - cum x s := by
  have h : x = x.take s ++ x.drop s := (List.take_append_drop s x).symm
  have h2 := congrArg List.sum h
  rw [sum_append] at h2
  unfold cum; omega

/-! ### the least of some ints -/
def minI : List Int → Int
  | [] => 0
  | [a] => a
  | a :: b :: r => min a (minI (b :: r))
theorem minI_le : ∀ (l : List Int), ∀ a ∈ l, minI l ≤ a
  | [], a, h => by cases h
  | [b], a, h => by
    have : a = b := by simpa using h
    subst this; exact Int.le_refl _
  | b :: c :: r, a, h => by
    show min b (minI (c :: r)) ≤ a
    rcases List.mem_cons.mp h with rfl | h
    · omega
    · have := minI_le (c :: r) a h; omega
theorem minI_mem : ∀ (l : List Int), l ≠ [] → minI l ∈ l
  | [], h => absurd rfl h
  | [b], _ => by simp [minI]
  | b :: c :: r, _ => by
    show min b (minI (c :: r)) ∈ _
    have := minI_mem (c :: r) (by simp)
    by_cases h : b ≤ minI (c :: r)
    · rw [Int.min_eq_left h]; simp
    · rw [Int.min_eq_right (by omega)]; exact List.mem_cons_of_mem _ this
theorem minI_eq {l : List Int} {m : Int} (h1 : m ∈ l) (h2 : ∀ a ∈ l, m ≤ a) : m = minI l := by
  have h3 : l ≠ [] := by rintro rfl; cases h1
  have h4 := h2 _ (minI_mem l h3)
  have h5 := minI_le l m h1
  omega

/-! ### the program's own reckoning -/
/-- what each limit would let by in the next tick -/
def alw (P : List Pr) (t : List Int) : List Int := P.map fun p => p.2 - (t.drop (t.length + 1 - p.1.toNat)).sum
def allowed (P : List Pr) (t : List Int) : Int := minI (alw P t)
def amt (P : List Pr) (row t : List Int) : Int := min (cum row (t.length + 1) - t.sum) (allowed P t)
/-- what is let through in the first k ticks -/
def thr (P : List Pr) (row : List Int) : Nat → List Int
  | 0 => []
  | k + 1 => thr P row k ++ [amt P row (thr P row k)]
theorem thr_len (P : List Pr) (row : List Int) : ∀ k, (thr P row k).length = k
  | 0 => rfl
  | k + 1 => by show (thr P row k ++ [_]).length = k + 1; rw [List.length_append, thr_len P row k]; rfl
theorem thr_take (P : List Pr) (row : List Int) : ∀ (k j : Nat), j ≤ k → (thr P row k).take j = thr P row j
  | 0, j, h => by
    have : j = 0 := by omega
    subst this; rfl
  | k + 1, j, h => by
    by_cases e : j = k + 1
    · subst e; rw [List.take_of_length_le (by rw [thr_len]; exact Nat.le_refl _)]
    · show (thr P row k ++ [_]).take j = _
      rw [List.take_append_of_le_length (by rw [thr_len]; omega)]
      exact thr_take P row k j (by omega)
def R (P : List Pr) (row : List Int) (k : Nat) : Int := (thr P row k).sum
theorem cum_thr (P : List Pr) (row : List Int) {k j : Nat} (h : j ≤ k) : cum (thr P row k) j = R P row j := by
  unfold cum R; rw [thr_take P row k j h]
theorem R_succ (P : List Pr) (row : List Int) (k : Nat) : R P row (k + 1) = R P row k + amt P row (thr P row k) := by
  show (thr P row k ++ [_]).sum = _
  rw [sum_append]; simp [R]

/-! ### gates by their recurrence -/
structure Gate (P : List Pr) (A R : Nat → Int) : Prop where
  zero : R 0 = 0
  le : ∀ k, R (k + 1) ≤ A (k + 1)
  lim : ∀ k, ∀ p ∈ P, R (k + 1) ≤ p.2 + R (k + 1 - p.1.toNat)
  hit : ∀ k, R (k + 1) = A (k + 1) ∨ ∃ p ∈ P, R (k + 1) = p.2 + R (k + 1 - p.1.toNat)
/-- cumulated, it keeps limits -/
def Keeps (P : List Pr) (B : Nat → Int) : Prop := ∀ k, ∀ p ∈ P, B (k + 1) ≤ p.2 + B (k + 1 - p.1.toNat)

theorem gate_thr {P : List Pr} (hP : GoodP P) (hne : P ≠ []) (row : List Int) : Gate P (cum row) (R P row) := by
  have key : ∀ k, ∀ p ∈ P, p.2 - ((thr P row k).drop ((thr P row k).length + 1 - p.1.toNat)).sum = p.2 + R P row (k + 1 - p.1.toNat) - R P row k := by
    intro k p hp
    have h1 := (hP p hp).1
    rw [thr_len, drop_cum, cum_thr P row (by omega)]
    unfold R; omega
  have hle : ∀ k, ∀ p ∈ P, allowed P (thr P row k) ≤ p.2 + R P row (k + 1 - p.1.toNat) - R P row k := by
    intro k p hp
    rw [← key k p hp]
    exact minI_le _ _ (List.mem_map.mpr ⟨p, hp, rfl⟩)
  have hmem : ∀ k, ∃ p ∈ P, allowed P (thr P row k) = p.2 + R P row (k + 1 - p.1.toNat) - R P row k := by
    intro k
    have := minI_mem (alw P (thr P row k)) (by unfold alw; simpa using hne)
    obtain ⟨p, hp, e⟩ := List.mem_map.mp this
    refine ⟨p, hp, ?_⟩
    rw [← key k p hp]; exact e.symm
  have ha : ∀ k, amt P row (thr P row k) = min (cum row (k + 1) - R P row k) (allowed P (thr P row k)) := by
    intro k; unfold amt R; rw [thr_len]
  refine ⟨rfl, fun k => ?_, fun k p hp => ?_, fun k => ?_⟩
  · rw [R_succ, ha]; omega
  · have := hle k p hp
    rw [R_succ, ha]; omega
  · obtain ⟨p, hp, e⟩ := hmem k
    rw [R_succ, ha]
    by_cases h : cum row (k + 1) - R P row k ≤ allowed P (thr P row k)
    · left; omega
    · right; exact ⟨p, hp, by omega⟩

section
variable {P Q : List Pr} {A B R : Nat → Int}
theorem Gate.best (hP : GoodP P) (g : Gate P A R) (h0 : B 0 ≤ 0) (hA : ∀ k, B (k + 1) ≤ A (k + 1)) (hB : Keeps P B) : ∀ k, B k ≤ R k := by
  intro k
  induction k using Nat.strongRecOn with
  | _ k ih =>
    cases k with
    | zero => rw [g.zero]; exact h0
    | succ k =>
      rcases g.hit k with e | ⟨p, hp, e⟩
      · rw [e]; exact hA k
      · have h1 := (hP p hp).1
        have h2 := ih (k + 1 - p.1.toNat) (by omega)
        have h3 := hB k p hp
        omega
theorem Gate.leA (g : Gate P A R) (h0 : A 0 = 0) : ∀ k, R k ≤ A k
  | 0 => by rw [g.zero, h0]; exact Int.le_refl _
  | k + 1 => g.le k
theorem Gate.keeps (g : Gate P A R) : Keeps P R := g.lim
theorem Gate.nonneg (hP : GoodP P) (g : Gate P A R) (hA : ∀ k, 0 ≤ A k) : ∀ k, 0 ≤ R k := by
  refine g.best hP (B := fun _ => 0) (Int.le_refl _) (fun k => hA _) fun k p hp => ?_
  have := (hP p hp).2.2.1
  show (0 : Int) ≤ p.2 + 0
  omega
theorem Gate.mono1 (hP : GoodP P) (g : Gate P A R) (hA : ∀ k, 0 ≤ A k) (hm : ∀ k, A k ≤ A (k + 1)) (k : Nat) : R k ≤ R (k + 1) := by
  induction k using Nat.strongRecOn with
  | _ k ih =>
    rcases g.hit k with e | ⟨p, hp, e⟩
    · cases k with
      | zero => rw [g.zero]; exact g.nonneg hP hA 1
      | succ k => have h1 := g.le k; have h2 := hm (k + 1); omega
    · obtain ⟨h1, _, h3, _⟩ := hP p hp
      cases k with
      | zero => rw [g.zero]; exact g.nonneg hP hA 1
      | succ k =>
        have h4 := g.lim k p hp
        by_cases hl : p.1.toNat ≤ k + 1
        · have h5 := ih (k + 1 - p.1.toNat) (by omega)
          rw [show k + 1 - p.1.toNat + 1 = k + 1 + 1 - p.1.toNat by omega] at h5
          omega
        · rw [show k + 1 - p.1.toNat = 0 by omega] at h4
          rw [show k + 1 + 1 - p.1.toNat = 0 by omega] at e
          omega
/-- limits that what comes keeps are kept by what goes -/
theorem Gate.keepsOther (hP : GoodP P) (hQ : GoodP Q) (g : Gate P A R) (h0 : A 0 = 0) (hK : Keeps Q A) : Keeps Q R := by
  have key : ∀ n, ∀ q ∈ Q, ∀ k, k + 1 = n → R (k + 1) ≤ q.2 + R (k + 1 - q.1.toNat) := by
    intro n
    induction n using Nat.strongRecOn with
    | _ n ih =>
      intro q hq k hk
      obtain ⟨q1, _, q3, _⟩ := hQ q hq
      have hlA := g.le k
      have hkA := hK k q hq
      cases e : k + 1 - q.1.toNat with
      | zero =>
        rw [e] at hkA
        rw [g.zero]; omega
      | succ j =>
        rcases g.hit j with h | ⟨p, hp, h⟩
        · rw [h, ← e]; omega
        · obtain ⟨p1, _, p3, _⟩ := hP p hp
          have h2 := g.lim k p hp
          by_cases hz : k + 1 - p.1.toNat = 0
          · have hz2 : j + 1 - p.1.toNat = 0 := by omega
            rw [hz, g.zero] at h2
            rw [h, hz2, g.zero]; omega
          · have h3 := ih (k + 1 - p.1.toNat) (by omega) q hq (k - p.1.toNat) (by omega)
            rw [show k - p.1.toNat + 1 = k + 1 - p.1.toNat by omega] at h3
            rw [show k + 1 - p.1.toNat - q.1.toNat = j + 1 - p.1.toNat by omega] at h3
            omega
  intro k q hq
  exact key (k + 1) q hq k rfl
/-- when nothing more comes all are through some time -/
theorem Gate.progress (hP : GoodP P) (g : Gate P A R) (hA : ∀ k, 0 ≤ A k) (hm : ∀ k, A k ≤ A (k + 1)) {n : Nat} {T : Int} (hT : ∀ k, n ≤ k → A k = T) :
    ∀ (j : Nat), min T j ≤ R (n + 20 * j) := by
  intro j
  induction j with
  | zero =>
    have := g.nonneg hP hA (n + 20 * 0)
    omega
  | succ j ih =>
    have mono := fun i k (h : i ≤ k) => mono_of (A := R) (g.mono1 hP hA hm) h
    rcases g.hit (n + 20 * j + 19) with e | ⟨p, hp, e⟩
    · rw [show n + 20 * (j + 1) = n + 20 * j + 19 + 1 by omega, e, hT _ (by omega)]; omega
    · obtain ⟨p1, p2, p3, _⟩ := hP p hp
      have h1 := mono (n + 20 * j) (n + 20 * j + 19 + 1 - p.1.toNat) (by omega)
      rw [show n + 20 * (j + 1) = n + 20 * j + 19 + 1 by omega, e]; omega
theorem Gate.all_through (hP : GoodP P) (g : Gate P A R) (h0 : A 0 = 0) (hA : ∀ k, 0 ≤ A k) (hm : ∀ k, A k ≤ A (k + 1)) {n : Nat} {T : Int} (hT : ∀ k, n ≤ k → A k = T) (k : Nat) (hk : n + 20 * T.toNat ≤ k) : R k = T := by
  have h1 := g.progress hP hA hm hT T.toNat
  have h2 := mono_of (A := R) (g.mono1 hP hA hm) hk
  have h3 := g.leA h0 k
  rw [hT k (by omega)] at h3
  have h4 := hA n
  rw [hT n (Nat.le_refl _)] at h4
  omega
/-- more limits, or less that comes: never more through -/
theorem Gate.mono_in {P' : List Pr} {A' R' : Nat → Int} (hP' : GoodP P') (g : Gate P A R) (g' : Gate P' A' R') (hsub : ∀ p ∈ P', p ∈ P) (hle : ∀ k, A k ≤ A' k) : ∀ k, R k ≤ R' k :=
  g'.best hP' (by rw [g.zero]; exact Int.le_refl _) (fun k => Int.le_trans (g.le k) (hle _)) fun k p hp => g.lim k p (hsub p hp)
/-- two gates one behind the other are one with all limits -/
theorem Gate.both {BB : List Pr} {R1 R2 RB : Nat → Int} (hP : GoodP P) (hQ : GoodP Q) (hB : GoodP BB) (hmem : ∀ p, p ∈ BB ↔ p ∈ P ∨ p ∈ Q)
    (g1 : Gate P A R1) (g2 : Gate Q R1 R2) (gB : Gate BB A RB) : ∀ k, R2 k = RB k := by
  intro k
  refine Int.le_antisymm (gB.best hB ?_ ?_ ?_ k) (g2.best hQ ?_ ?_ ?_ k)
  · rw [g2.zero]; exact Int.le_refl _
  · exact fun k => Int.le_trans (g2.le k) (g1.le k)
  · intro k p hp
    rcases (hmem p).mp hp with h | h
    · exact g2.keepsOther hQ hP g1.zero g1.lim k p h
    · exact g2.lim k p h
  · rw [gB.zero]; exact Int.le_refl _
  · refine fun k => g1.best hP ?_ gB.le ?_ (k + 1)
    · rw [gB.zero]; exact Int.le_refl _
    · exact fun k p hp => gB.lim k p ((hmem p).mpr (.inl hp))
  · exact fun k p hp => gB.lim k p ((hmem p).mpr (.inr hp))
end
end BM

set_option linter.all false
namespace BM
/-! ### where the row of what is passed ends -/
def least (p : Nat → Bool) : Nat → Nat → Nat
  | 0, k => k
  | f + 1, k => if p k = true then k else least p f (k + 1)
theorem least_spec (p : Nat → Bool) : ∀ (f k j : Nat), k ≤ j → j ≤ k + f → p j = true →
    p (least p f k) = true ∧ k ≤ least p f k ∧ least p f k ≤ j ∧ ∀ i, k ≤ i → i < least p f k → p i = false
  | 0, k, j, h1, h2, h3 => by
    have e : j = k := by omega
    subst e
    exact ⟨h3, Nat.le_refl _, Nat.le_refl _, fun i a b => absurd b (by show ¬ i < j; omega)⟩
  | f + 1, k, j, h1, h2, h3 => by
    unfold least
    by_cases hp : p k = true
    · rw [if_pos hp]
      exact ⟨hp, Nat.le_refl _, h1, fun i a b => absurd b (by omega)⟩
    · rw [if_neg hp]
      have hkj : k ≠ j := by rintro rfl; exact hp h3
      obtain ⟨a, b, c, d⟩ := least_spec p f (k + 1) j (by omega) (by omega) h3
      refine ⟨a, by omega, c, fun i hi hl => ?_⟩
      by_cases e : i = k
      · subst e; simpa using hp
      · exact d i (by omega) hl
def isEnd (P : List Pr) (row : List Int) (k : Nat) : Bool := decide (row.length ≤ k) && decide (R P row k = row.sum)
def stop (P : List Pr) (row : List Int) : Nat := least (isEnd P row) 1200 row.length
/-- what is passed -/
def passedL (P : List Pr) (row : List Int) : List Int := thr P row (stop P row)
theorem isEnd_iff {P : List Pr} {row : List Int} {k : Nat} : isEnd P row k = true ↔ row.length ≤ k ∧ R P row k = row.sum := by
  unfold isEnd; simp
structure Good (P : List Pr) : Prop where
  g : GoodP P
  ne : P ≠ []
section
variable {P Q : List Pr} {row : List Int}
theorem Good.gate (h : Good P) (row : List Int) : Gate P (cum row) (R P row) := gate_thr h.g h.ne row
theorem R_all (h : Good P) (hr : RowOk row) {k : Nat} (hk : row.length + 1200 ≤ k) : R P row k = row.sum := by
  have h0 := sum_nonneg hr.1
  refine (h.gate row).all_through h.g (cum_zero row) (cum_nonneg hr.1) (cum_mono1 hr.1) (n := row.length) (T := row.sum) (fun k hk => cum_full hk) k ?_
  have := hr.2
  omega
theorem stop_spec (h : Good P) (hr : RowOk row) : row.length ≤ stop P row ∧ R P row (stop P row) = row.sum ∧ stop P row ≤ row.length + 1200 ∧ ∀ i, i < stop P row → isEnd P row i = false := by
  have he : isEnd P row (row.length + 1200) = true := isEnd_iff.mpr ⟨by omega, R_all h hr (Nat.le_refl _)⟩
  obtain ⟨a, b, c, d⟩ := least_spec (isEnd P row) 1200 row.length (row.length + 1200) (by omega) (Nat.le_refl _) he
  refine ⟨b, (isEnd_iff.mp a).2, c, fun i hi => ?_⟩
  by_cases e : row.length ≤ i
  · exact d i e hi
  · cases z : isEnd P row i with
    | false => rfl
    | true => exact absurd (isEnd_iff.mp z).1 e
theorem stop_unique (h : Good P) (hr : RowOk row) {k : Nat} (h1 : isEnd P row k = true) (h2 : ∀ i, i < k → isEnd P row i = false) : k = stop P row := by
  obtain ⟨a, b, c, d⟩ := stop_spec h hr
  have e : isEnd P row (stop P row) = true := isEnd_iff.mpr ⟨a, b⟩
  rcases Nat.lt_trichotomy k (stop P row) with x | x | x
  · rw [d k x] at h1; cases h1
  · exact x
  · rw [h2 _ x] at e; cases e
theorem R_mono (h : Good P) (hr : RowOk row) {i j : Nat} (hij : i ≤ j) : R P row i ≤ R P row j :=
  mono_of ((h.gate row).mono1 h.g (cum_nonneg hr.1) (cum_mono1 hr.1)) hij
theorem R_le (h : Good P) (row : List Int) (k : Nat) : R P row k ≤ cum row k := (h.gate row).leA (cum_zero row) k
theorem R_zero : R P row 0 = 0 := rfl
theorem R_nonneg (h : Good P) (hr : RowOk row) (k : Nat) : 0 ≤ R P row k := by
  rw [← R_zero (P := P) (row := row)]; exact R_mono h hr (Nat.zero_le k)
theorem cum_passed (h : Good P) (hr : RowOk row) (k : Nat) : cum (passedL P row) k = R P row k := by
  obtain ⟨a, b, c, d⟩ := stop_spec h hr
  by_cases hk : k ≤ stop P row
  · exact cum_thr P row hk
  · have h1 : (passedL P row).length = stop P row := thr_len P row _
    rw [cum_full (by omega)]
    have h2 : (passedL P row).sum = R P row (stop P row) := rfl
    have h3 := R_mono h hr (show stop P row ≤ k by omega)
    have h4 := R_le h row k
    have h5 := cum_le_sum hr.1 k
    omega
theorem passed_len (P : List Pr) (row : List Int) : (passedL P row).length = stop P row := thr_len P row _
theorem passed_sum (h : Good P) (hr : RowOk row) : (passedL P row).sum = row.sum := (stop_spec h hr).2.1
theorem ok_of_mono {x : List Int} (h : ∀ k, cum x k ≤ cum x (k + 1)) : ∀ a ∈ x, 0 ≤ a := by
  intro a ha
  obtain ⟨i, hi⟩ := List.mem_iff_getElem?.mp ha
  have h1 := h i
  rw [cum_succ, List.getD_eq_getElem?_getD, hi] at h1
  simp at h1; omega
theorem passed_ok (h : Good P) (hr : RowOk row) : RowOk (passedL P row) := by
  refine ⟨ok_of_mono fun k => ?_, ?_⟩
  · rw [cum_passed h hr, cum_passed h hr]; exact R_mono h hr (Nat.le_succ k)
  · rw [passed_sum h hr]; exact hr.2
theorem passed_len_le (h : Good P) (hr : RowOk row) : (passedL P row).length ≤ row.length + 1200 := by
  rw [passed_len]; exact (stop_spec h hr).2.2.1
theorem len_le_passed (h : Good P) (hr : RowOk row) : row.length ≤ (passedL P row).length := by
  rw [passed_len]; exact (stop_spec h hr).1

/-! ### a row keeps limits -/
def keptB (P : List Pr) (row : List Int) : Bool := (List.range row.length).all fun s => P.all fun p => decide (((row.drop s).take p.1.toNat).sum ≤ p.2)
theorem keptB_iff (hP : GoodP P) (hr : ∀ a ∈ row, 0 ≤ a) : keptB P row = true ↔ Keeps P (cum row) := by
  unfold keptB
  rw [List.all_eq_true]
  constructor
  · intro h k p hp
    obtain ⟨p1, _, p3, _⟩ := hP p hp
    have key : ∀ s, s < row.length → cum row (s + p.1.toNat) - cum row s ≤ p.2 := by
      intro s hs
      have := h s (List.mem_range.mpr hs)
      rw [List.all_eq_true] at this
      have := of_decide_eq_true (this p hp)
      rw [stretch_cum] at this; exact this
    by_cases hl : p.1.toNat ≤ k + 1
    · by_cases hs : k + 1 - p.1.toNat < row.length
      · have := key _ hs
        rw [show k + 1 - p.1.toNat + p.1.toNat = k + 1 by omega] at this; omega
      · rw [cum_full (n := k + 1) (by omega), cum_full (n := k + 1 - p.1.toNat) (by omega)]; omega
    · rw [show k + 1 - p.1.toNat = 0 by omega, cum_zero]
      by_cases hs : 0 < row.length
      · have h1 := key 0 hs
        have h2 := cum_mono hr (show k + 1 ≤ 0 + p.1.toNat by omega)
        rw [cum_zero] at h1; omega
      · rw [cum_full (by omega)]
        have : row = [] := List.length_eq_zero_iff.mp (by omega)
        subst this; simp; omega
  · intro h s hs
    rw [List.all_eq_true]
    intro p hp
    obtain ⟨p1, _, p3, _⟩ := hP p hp
    refine decide_eq_true ?_
    rw [stretch_cum]
    have := h (s + p.1.toNat - 1) p hp
    rw [show s + p.1.toNat - 1 + 1 = s + p.1.toNat by omega, show s + p.1.toNat - p.1.toNat = s by omega] at this
    omega
theorem ext_cum {x y : List Int} (hl : x.length = y.length) (h : ∀ k, cum x k = cum y k) : x = y := by
  refine List.ext_getElem hl fun i h1 h2 => ?_
  have a := cum_succ x i
  have b := cum_succ y i
  rw [h, h] at a
  have e1 : x.getD i 0 = x[i] := by rw [List.getD_eq_getElem?_getD, List.getElem?_eq_getElem h1]; rfl
  have e2 : y.getD i 0 = y[i] := by rw [List.getD_eq_getElem?_getD, List.getElem?_eq_getElem h2]; rfl
  omega
theorem passed_keeps (h : Good P) (hr : RowOk row) : keptB P (passedL P row) = true := by
  rw [keptB_iff h.g (passed_ok h hr).1]
  intro k p hp
  rw [cum_passed h hr, cum_passed h hr]
  exact (h.gate row).lim k p hp
theorem passed_of_kept (h : Good P) (hr : RowOk row) (hk : keptB P row = true) : passedL P row = row := by
  have hK := (keptB_iff h.g hr.1).mp hk
  have hR : ∀ k, R P row k = cum row k := fun k => Int.le_antisymm (R_le h row k)
    ((h.gate row).best h.g (by rw [cum_zero]; exact Int.le_refl _) (fun k => Int.le_refl _) hK k)
  have he : isEnd P row row.length = true := isEnd_iff.mpr ⟨Nat.le_refl _, by rw [hR, cum_full (Nat.le_refl _)]⟩
  have hs : row.length = stop P row := by
    refine stop_unique h hr he fun i hi => ?_
    cases z : isEnd P row i with
    | false => rfl
    | true => have := (isEnd_iff.mp z).1; omega
  refine ext_cum (by rw [passed_len, hs]) fun k => ?_
  rw [cum_passed h hr, hR]
theorem passed_again (h : Good P) (hr : RowOk row) : passedL P (passedL P row) = passedL P row :=
  passed_of_kept h (passed_ok h hr) (passed_keeps h hr)
theorem kept_iff_passed (h : Good P) (hr : RowOk row) : keptB P row = decide (passedL P row = row) := by
  cases e : keptB P row with
  | true => exact (decide_eq_true (passed_of_kept h hr e)).symm
  | false =>
    refine (decide_eq_false fun q => ?_).symm
    have := passed_keeps h hr
    rw [q, e] at this; cases this
theorem kept_other (h : Good P) (hQ : Good Q) (hr : RowOk row) (hk : keptB P row = true) : keptB P (passedL Q row) = true := by
  rw [keptB_iff h.g (passed_ok hQ hr).1]
  have := (hQ.gate row).keepsOther hQ.g h.g (cum_zero row) ((keptB_iff h.g hr.1).mp hk)
  intro k p hp
  rw [cum_passed hQ hr, cum_passed hQ hr]
  exact this k p hp

/-! ### no more by any tick -/
def behindB (x y : List Int) : Bool := (List.range (max x.length y.length)).all fun k => !decide ((y.take (k + 1)).sum < (x.take (k + 1)).sum)
theorem behind_of {x y : List Int} (h : ∀ k, cum x k ≤ cum y k) : behindB x y = true := by
  unfold behindB
  rw [List.all_eq_true]
  intro k _
  have := h (k + 1)
  unfold cum at this
  simp; omega
theorem behind_self (h : Good P) (hr : RowOk row) : behindB (passedL P row) row = true :=
  behind_of fun k => by rw [cum_passed h hr]; exact R_le h row k
theorem behind_less {row' : List Int} (h : Good P) (hr : RowOk row) (hr' : RowOk row') (hle : ∀ k, cum row k ≤ cum row' k) : behindB (passedL P row) (passedL P row') = true :=
  behind_of fun k => by
    rw [cum_passed h hr, cum_passed h hr']
    exact (h.gate row).mono_in h.g (h.gate row') (fun p hp => hp) hle k
theorem behind_limits {B : List Pr} (h : Good P) (hB : Good B) (hsub : ∀ p ∈ P, p ∈ B) (hr : RowOk row) : behindB (passedL B row) (passedL P row) = true :=
  behind_of fun k => by
    rw [cum_passed hB hr, cum_passed h hr]
    exact (hB.gate row).mono_in h.g (h.gate row) hsub (fun k => Int.le_refl _) k
theorem cum_cons (a : Int) (x : List Int) (k : Nat) : cum (a :: x) (k + 1) = a + cum x k := by
  unfold cum; rw [List.take_succ_cons, List.sum_cons]
theorem later_le (hr : RowOk row) (k : Nat) : cum (0 :: row) k ≤ cum row k := by
  cases k with
  | zero => rw [cum_zero, cum_zero]; exact Int.le_refl _
  | succ k =>
    rw [cum_cons]
    have := cum_mono1 hr.1 k
    omega
theorem later_ok (hr : RowOk row) : RowOk (0 :: row) := ⟨fun a ha => by
  rcases List.mem_cons.mp ha with rfl | h
  · exact Int.le_refl _
  · exact hr.1 a h, by rw [List.sum_cons]; have := hr.2; omega⟩
theorem fewer_le : ∀ {x y : List Int} (hl : x.length = y.length) (h : ∀ i, x.getD i 0 ≤ y.getD i 0) (k : Nat), cum x k ≤ cum y k := by
  intro x y hl h k
  induction k with
  | zero => rw [cum_zero, cum_zero]; exact Int.le_refl _
  | succ k ih => rw [cum_succ, cum_succ]; have := h k; omega

/-! ### without the last ticks that have none -/
def bareL (l : List Int) : List Int := (l.reverse.dropWhile fun a => decide (a = 0)).reverse
theorem bare_zero (l : List Int) : bareL (l ++ [0]) = bareL l := by
  unfold bareL; rw [List.reverse_append]; simp
theorem bare_other (l : List Int) {a : Int} (h : a ≠ 0) : bareL (l ++ [a]) = l ++ [a] := by
  unfold bareL; rw [List.reverse_append]; simp [h]
theorem bare_nil : bareL [] = [] := rfl
theorem bare_zeros (l : List Int) : ∀ n, bareL (l ++ List.replicate n 0) = bareL l
  | 0 => by simp
  | n + 1 => by
    rw [List.replicate_succ', ← List.append_assoc, bare_zero]
    exact bare_zeros l n
theorem longer {x y : List Int} (hl : x.length ≤ y.length) (h : ∀ k, cum x k = cum y k) : y = x ++ List.replicate (y.length - x.length) 0 := by
  refine (ext_cum (by rw [List.length_append, List.length_replicate]; omega) fun k => ?_).symm
  rw [← h]
  have hs : ∀ (n k : Nat), cum (x ++ List.replicate n 0) k = cum x k := by
    intro n k
    unfold cum
    rw [List.take_append, sum_append]
    have : (List.take (k - x.length) (List.replicate n (0 : Int))).sum = 0 := by
      rw [List.take_replicate]
      generalize min (k - x.length) n = m
      induction m with
      | zero => rfl
      | succ m ih => rw [List.replicate_succ, List.sum_cons, ih]; rfl
    omega
  exact hs _ k
theorem bare_eq {x y : List Int} (h : ∀ k, cum x k = cum y k) : bareL x = bareL y := by
  rcases Nat.le_total x.length y.length with hl | hl
  · rw [longer hl h, bare_zeros]
  · rw [longer hl fun k => (h k).symm, bare_zeros]
theorem gates_bare {B : List Pr} (hP : Good P) (hQ : Good Q) (hB : Good B) (hmem : ∀ p, p ∈ B ↔ p ∈ P ∨ p ∈ Q) (hr : RowOk row) :
    bareL (passedL Q (passedL P row)) = bareL (passedL B row) := by
  refine bare_eq fun k => ?_
  have hr1 := passed_ok hP hr
  rw [cum_passed hQ hr1, cum_passed hB hr]
  have g2 : Gate Q (R P row) (R Q (passedL P row)) := by
    have g := hQ.gate (passedL P row)
    have e : cum (passedL P row) = R P row := funext fun k => cum_passed hP hr k
    rw [e] at g; exact g
  exact (hP.gate row).both hP.g hQ.g hB.g hmem g2 (hB.gate row) k
end

/-! ### how long they wait -/
def ticksFrom : Nat → List Int → List Int
  | _, [] => []
  | i, a :: r => List.replicate a.toNat (i : Int) ++ ticksFrom (i + 1) r
def ticksL (x : List Int) : List Int := ticksFrom 0 x
theorem ticksFrom_snoc : ∀ (i : Nat) (x : List Int) (a : Int), ticksFrom i (x ++ [a]) = ticksFrom i x ++ List.replicate a.toNat ((i + x.length : Nat) : Int)
  | i, [], a => by simp [ticksFrom]
  | i, b :: r, a => by
    show List.replicate b.toNat (i : Int) ++ ticksFrom (i + 1) (r ++ [a]) = _
    rw [ticksFrom_snoc (i + 1) r a]
    show _ = List.replicate b.toNat (i : Int) ++ ticksFrom (i + 1) r ++ _
    rw [List.append_assoc, List.length_cons, show i + 1 + r.length = i + (r.length + 1) by omega]
theorem ticks_snoc (x : List Int) (a : Int) : ticksL (x ++ [a]) = ticksL x ++ List.replicate a.toNat ((x.length : Nat) : Int) := by
  unfold ticksL; rw [ticksFrom_snoc, Nat.zero_add]
theorem ticks_len {x : List Int} (h : ∀ a ∈ x, 0 ≤ a) : ∀ i, ((ticksFrom i x).length : Int) = x.sum := by
  induction x with
  | nil => intro i; rfl
  | cons a r ih =>
    intro i
    have h1 := h a (by simp)
    have h2 := ih (fun b hb => h b (by simp [hb])) (i + 1)
    show ((List.replicate a.toNat (i : Int) ++ ticksFrom (i + 1) r).length : Int) = _
    rw [List.length_append, List.length_replicate, List.sum_cons]; omega
def waitsL (P : List Pr) (row : List Int) : List Int := List.zipWith (fun a b => b - a) (ticksL row) (ticksL (passedL P row))
def waitingL (P : List Pr) (row : List Int) : List Int := (List.range (passedL P row).length).map fun k => cum row (k + 1) - cum (passedL P row) (k + 1)
theorem sum_replicate (n : Nat) (a : Int) : (List.replicate n a).sum = n * a := by
  induction n with
  | zero => simp
  | succ n ih => rw [List.replicate_succ, List.sum_cons, ih]; rw [show ((n + 1 : Nat) : Int) = n + 1 by omega, Int.add_mul]; omega
theorem wsum {x : List Int} (h : ∀ a ∈ x, 0 ≤ a) : ∀ n, ((List.range n).map fun k => cum x (k + 1)).sum = n * cum x n - (ticksL (x.take n)).sum
  | 0 => by simp [ticksL, ticksFrom]
  | n + 1 => by
    rw [List.range_succ, List.map_append, sum_append, wsum h n]
    simp only [List.map_cons, List.map_nil, List.sum_cons, List.sum_nil]
    have e : (ticksL (x.take (n + 1))).sum = (ticksL (x.take n)).sum + n * x.getD n 0 := by
      by_cases hn : n < x.length
      · have hx : x.take (n + 1) = x.take n ++ [x[n]] := by
          rw [List.take_add_one, List.getElem?_eq_getElem hn]; rfl
        have h0 := h x[n] (List.getElem_mem hn)
        rw [hx, ticks_snoc, sum_append, sum_replicate, List.length_take, show min n x.length = n by omega]
        rw [List.getD_eq_getElem?_getD, List.getElem?_eq_getElem hn]
        show _ = _ + (n : Int) * x[n]
        rw [show ((x[n].toNat : Nat) : Int) = x[n] by omega, Int.mul_comm]
      · rw [List.take_of_length_le (by omega), List.take_of_length_le (by omega), List.getD_eq_getElem?_getD, List.getElem?_eq_none (by omega)]
        simp
    rw [e, cum_succ, show ((n + 1 : Nat) : Int) = n + 1 by omega, Int.add_mul, Int.mul_add]
    omega
theorem sum_map_sub {α : Type} (l : List α) (f g : α → Int) : (l.map fun k => f k - g k).sum = (l.map f).sum - (l.map g).sum := by
  induction l with
  | nil => rfl
  | cons a r ih => simp only [List.map_cons, List.sum_cons, ih]; omega
theorem zip_sum : ∀ (x y : List Int), x.length = y.length → (List.zipWith (fun a b => b - a) x y).sum = y.sum - x.sum
  | [], [], _ => rfl
  | a :: r, b :: q, h => by
    rw [List.zipWith_cons_cons, List.sum_cons, List.sum_cons, List.sum_cons, zip_sum r q (by simpa using h)]; omega
  | [], b :: q, h => by simp at h
  | a :: r, [], h => by simp at h
section
variable {P : List Pr} {row : List Int}
theorem ticks_same (h : Good P) (hr : RowOk row) : (ticksL row).length = (ticksL (passedL P row)).length := by
  have a := ticks_len hr.1 0
  have b := ticks_len (passed_ok h hr).1 0
  rw [passed_sum h hr] at b
  unfold ticksL; omega
theorem waits_len (h : Good P) (hr : RowOk row) : ((waitsL P row).length : Int) = row.sum := by
  unfold waitsL
  rw [List.length_zipWith, ← ticks_same h hr, Nat.min_self]
  exact ticks_len hr.1 0
theorem waiting_sum (h : Good P) (hr : RowOk row) : (waitingL P row).sum = (waitsL P row).sum := by
  have hp := passed_ok h hr
  unfold waitingL waitsL
  rw [sum_map_sub, wsum hr.1, wsum hp.1, zip_sum _ _ (ticks_same h hr), List.take_of_length_le (len_le_passed h hr), List.take_of_length_le (Nat.le_refl _), cum_full (len_le_passed h hr), cum_full (Nat.le_refl _), passed_sum h hr]
  omega
end
end BM

set_option Elab.async false
set_option linter.all false
set_option maxRecDepth 100000
set_option maxHeartbeats 2000000
/-! Rules that the layer lacks: sum of a tuple, enumerate of a tuple. -/
namespace BX
open PySem PySem.Spec PyProof.Rows L2

/-! ### sum of a tuple of ints -/
def rSumT (K : PySem.W.Frag) : List V → Hp → VK → Prop := fun vs H Q => ∃ (a : Addr) (ns : List Int), vs = [V.ref a] ∧ SqT K H a (ns.map V.int) ∧ Q (.int ns.sum) H
section
variable {prog : Program} {w : World} {A : Around} {E : Value → Shared → Prop} {s : Shared}
theorem sum_rawT {l : Addr} {its : List Value} {ns : List Int} {Q : Value → Shared → Prop} (hh : A.handled = none) (hl : s.heap.IsTuple l its.toArray) (hi : IntsAre its ns)
    (h : ∀ h' tk t', (∀ b o, s.heap.get? b = some o → h'.get? b = some o) → Q (.int ns.sum t') { s with heap := h', toks := tk }) : wpAny (model prog w) A (call (.builtin "sum") [.ref l]) Q E s := by
  obtain ⟨xs, e⟩ := hi.allInts.items
  have hn : numsOf (intItems xs).toList = ns := by rw [← e]; exact hi.numsOf
  rw [nums_intItems] at hn
  rw [e] at hl
  have hll : l < s.heap.objs.size := by obtain ⟨o, ho, _⟩ := hl; exact Heap.lt_size ho
  refine call_sum_walkG (wpAny_pyIter_tuple hl ?_)
  refine ⟨_, _, _, _, _, _, numAt xs, rfl, Walks.tuple (A := A.in1) hh s.heap.objs.size l (Nat.ne_of_lt hll) (intItems xs), ⟨⟨_, Heap.get?_push_size _ rfl, rfl, rfl⟩, hl.at fun o e => Heap.get?_push_of_some _ e⟩, fun b hb => ?_, (fun _ _ => intItems_at), fun h' tk t' hk => ?_⟩
  · rw [Heap.size_push]
    have e' : b = s.heap.objs.size ∨ b = l := by simpa using hb
    rcases e' with z | z
    · rw [z]; exact Nat.lt_succ_self _
    · rw [z]; exact Nat.lt_succ_of_lt hll
  · have := h h' tk t' fun b o e => hk b o (by simpa using Nat.ne_of_lt (Heap.lt_size e)) (Heap.get?_push_of_some _ e)
    rw [preSum_eq, List.take_of_length_le (by simp [intItems]), hn]; exact this
end
theorem cr_sumT {X : Cx} (hc : X.calm = true) : CallR X (.builtin "sum") (rSumT X.K) := by
  intro pins s σ H vs us Q I r h
  obtain ⟨a, ns, rfl, hs, q⟩ := h
  obtain ⟨its, rv, hl, _⟩ := I.tuple hs
  rw [Vals.ref1 r]
  exact sum_rawT (I.ok.hd hc) hl rv.ints fun h' tk t' hk => ⟨.int _, H, I.kept hk, ⟨_, rfl⟩, q⟩

/-! ### enumerate of a tuple -/
set_option maxHeartbeats 4000000 in
theorem meets_enumerate_newT (l : Addr) (items : Array Value) :
    Meets (Builtin.«enumerate.__new__» ⟨[.type "enumerate", .ref l], []⟩) (fun _ R s => s.heap.IsTuple l items ∧
      R (.ok (.ret (.ref (s.heap.push { cls := .type "tuple_iterator", data := .fields #[.ref l, .int 0 0] }).objs.size)))
        { s with heap := (s.heap.push { cls := .type "tuple_iterator", data := .fields #[.ref l, .int 0 0] }).push { cls := .type "enumerate", data := .fields #[.none, .bool false, .ref s.heap.objs.size, rawInt 0, .none, .none] } }) :=
  .of_wp fun prog w A R s h => by
    obtain ⟨hp, g, d, tk, os⟩ := s; obtain ⟨h1, h⟩ := h
    have hsub := sub_enumerate
    have q1 : ∀ {A' : Around} {E : Value → Shared → Prop} {Q : Value → Shared → Prop}, Q (.ref hp.objs.size) ⟨hp.push { cls := .type "tuple_iterator", data := .fields #[.ref l, .int 0 0] }, g, d, tk, os⟩ → wpAny (model prog w) A' (pyIter (.ref l)) Q E ⟨hp, g, d, tk, os⟩ :=
      fun q => wpAny_pyIter_tuple h1 q
    wp_walk using q1
    refine wpAny_stack_any fun st => wpAny_pure ?_
    split
    · rename_i c _ _ _ _ _
      cases (c == Value.type "enumerate")
      · wp_walk using q1
        exact ⟨_, rfl, h⟩
      · wp_walk using q1
        exact ⟨_, rfl, h⟩
    · wp_walk using q1
      exact ⟨_, rfl, h⟩
section
variable {prog : Program} {w : World} {A : Around} {E : Value → Shared → Prop} {s : Shared}
theorem call_enumerate_tuple {l : Addr} {items : Array Value} {Q : Value → Shared → Prop} (hL : s.heap.IsTuple l items)
    (h : ∀ h', IsEnum h' (s.heap.objs.size + 1) s.heap.objs.size 0 .none → h'.IsTupleIter s.heap.objs.size l 0 → h'.objs.size = s.heap.objs.size + 2 →
      (∀ b o, s.heap.get? b = some o → h'.get? b = some o) → Q (.ref (s.heap.objs.size + 1)) { s with heap := h' }) :
    wpAny (model prog w) A (call (.type "enumerate") [.ref l]) Q E s := by
  refine callType_new F.called_enumerate (by decide) (F.typeCall_enumerate_1 _) (F.newCall_enumerate_1 _) (fun obj => F.args_object_init_2 obj _) F.entry_enumerate_new
    (meets_enumerate_newT l items) ⟨hL, ?_⟩
  have hz : (s.heap.push { cls := .type "tuple_iterator", data := .fields #[.ref l, .int 0 0] }).objs.size = s.heap.objs.size + 1 := Heap.size_push ..
  show _ ∧ _
  rw [hz]
  have he : IsEnum ((s.heap.push { cls := .type "tuple_iterator", data := .fields #[.ref l, .int 0 0] }).push
      { cls := .type "enumerate", data := .fields #[.none, .bool false, .ref s.heap.objs.size, rawInt 0, .none, .none] }) (s.heap.objs.size + 1) s.heap.objs.size 0 .none := by
    have := Heap.get?_push_size (s.heap.push { cls := .type "tuple_iterator", data := .fields #[.ref l, .int 0 0] })
      (o := { cls := .type "enumerate", data := .fields #[.none, .bool false, .ref s.heap.objs.size, rawInt 0, .none, .none] }) rfl
    rw [hz] at this; exact this
  refine ⟨⟨_, he, rfl⟩, h _ he ⟨_, Heap.get?_push_of_some _ (Heap.get?_push_size _ rfl), rfl, rfl⟩ (by rw [Heap.size_push, hz]) fun b o x => Heap.get?_push_of_some _ (Heap.get?_push_of_some _ x)⟩
end
/-- the tuple at a, each item in a new pair -/
def IteT (K : PySem.W.Frag) (a : Addr) : It :=
  ⟨fun i H => ∃ (xs : List V) (x : V), SqT K H a xs ∧ xs[i]? = some x, fun i H v H' => ∃ T x, v = .ref T ∧ H T = none ∧ H' = upd H T (.tup [.int (i : Nat), x]) ∧ ∀ xs, SqT K H a xs → xs[i]? = some x, fun i H => ∃ xs : List V, SqT K H a xs ∧ xs.length = i⟩
theorem turn_enumT {P : Program} {w : World} {K : PySem.W.Frag} {elts : List Expr} {kk : Nat} {tpos : Pos} (a e it : Addr) (hat : a ≠ it) (hae : a ≠ e) :
    Turn P w K (.Tuple elts kk tpos) (IteT K a) [e, it] e (fun i h => (∃ old, IsEnum h e it ((i : Nat) : Int) old) ∧ h.IsTupleIter it a i ∧ e ≠ it) where
  mem := by simp
  obj := fun i h st b hb => by
    obtain ⟨⟨old, he⟩, ⟨o, ho, hc, hd⟩, _⟩ := st
    have e' : b = e ∨ b = it := by simpa using hb
    rcases e' with z | z
    · rw [z]; exact ⟨_, he, fun v q => nomatch q⟩
    · rw [z]; exact ⟨o, ho, fun v q => by rw [hd] at q; cases q⟩
  keep := fun i h h' st k => let ⟨⟨old, he⟩, hi, hne⟩ := st; ⟨⟨old, k e (by simp) _ he⟩, hi.at fun o q => k it (by simp) o q, hne⟩
  item := by
    intro X hP hw hK hc i pins s σ H E I hf st hg
    subst hP hw hK
    obtain ⟨⟨old, he⟩, hit, hne⟩ := st
    obtain ⟨xs, x, hq, hx⟩ := hg
    obtain ⟨its, rv, p, hz⟩ := I.tuple hq
    obtain ⟨u, hu, ru⟩ := rv.get hx
    have hel : e < s.heap.objs.size := Heap.lt_size he
    have hil : it < s.heap.objs.size := by obtain ⟨_, q, _⟩ := hit; exact Heap.lt_size q
    have D := Draws.tuple (prog := X.prog) (w := X.w) (A := X.A.in1) (I.ok.hd hc) it a hat its.toArray
    have hlt : i < its.toArray.size := by
      have := (List.getElem?_eq_some_iff.mp hu).1
      simpa using this
    refine wpAny_pyNext_enum_itemD D he ⟨hit, p⟩ hlt hne (by simp [hne, Ne.symm hae]) fun x' h' tk hP ho hst' hT hsz hk => ?_
    have hxu : x' = u := by
      have h1 : its[i]? = some x' := by simpa using hP
      rw [hu] at h1; exact (Option.some.inj h1).symm
    subst hxu
    refine ⟨_, rfl, wpAny_letOwnedTupleGo_enum (s := { s with heap := h', toks := tk + 1 }) ho fun h'' he' sb => ?_⟩
    have hT2 : h''.get? s.heap.objs.size = some { cls := .type "tuple", data := .seq #[.int i tk, x'] } := (sb.2 _ (Nat.ne_of_gt hel)).trans hT
    have new : ObjOk X.prog X.w (upd H s.heap.objs.size (.tup [.int (i : Nat), x])) h'' s.heap.objs.size (.tup [.int (i : Nat), x]) :=
      ⟨by show 2 ≤ sizeLine; decide, [.int i tk, x'], .cons ⟨_, rfl⟩ (.cons ru .nil), ⟨_, hT2, rfl, _, rfl⟩⟩
    have I1 : Inv X pins σ (upd H s.heap.objs.size (.tup [.int (i : Nat), x])) { s with heap := h'', toks := tk + 1 } :=
      I.turnedNew (ch := [e, it]) (fun b ob hb q => (sb.2 b (fun z => hb (by simp [z]))).trans (hk b ob (fun z => hb (by simp [z])) (fun z => hb (by simp [z])) q)) hf (Nat.le_refl _) new
    refine ⟨.ref s.heap.objs.size, _, I1, rfl, ⟨_, x, rfl, I.hok.fresh (Nat.le_refl _), rfl, fun ys hy => by rw [I.tuple_inj hy hq]; exact hx⟩, ⟨⟨x', ?_⟩, hst'.1.at fun o q => (sb.2 it (Ne.symm hne)).trans q, hne⟩, fun b hb => ?_⟩
    · have e1 : ((i + 1 : Nat) : Int) = (i : Int) + 1 := by omega
      rw [e1]; exact he'
    · have hb' : b < s.heap.objs.size := by
        have e' : b = e ∨ b = it := by simpa using hb
        rcases e' with z | z
        · rw [z]; exact hel
        · rw [z]; exact hil
      rw [upd_ne (Nat.ne_of_lt hb')]
      exact (hf b hb).1
  done := by
    intro X hP hw hK hc i pins s σ H E I hf st hg
    subst hP hw hK
    obtain ⟨⟨old, he⟩, hit, hne⟩ := st
    obtain ⟨xs, hq, hx⟩ := hg
    obtain ⟨its, rv, p, hz⟩ := I.tuple hq
    obtain ⟨f0, f1, f2, f3, f4, f5⟩ := hf it (by simp)
    have hl := rv.length
    have D := Draws.tuple (prog := X.prog) (w := X.w) (A := X.A.in1) (I.ok.hd hc) it a hat its.toArray
    have hin : i = its.toArray.size := by simp; omega
    refine wpAny_pyNext_enum_endD D he (by rw [← hin]; exact ⟨hit, p⟩) fun h' eb => ⟨rfl, I.turned (t' := s.toks) (fun b o hb q => eb b o hb q) f0 f1 f3 f4 f5⟩
  self := fun A i s Q E st h => let ⟨⟨_, he⟩, _⟩ := st; wpAny_pyIter_enum he h
def iEnumT (K : PySem.W.Frag) (ta : TA) : TI := fun σ H R => ta σ H fun vs H1 => ∃ a xs, vs = [.ref a] ∧ SqT K H1 a xs ∧ R (IteT K a) H1
theorem pi_enumT {X : Cx} {e : Expr} {ta : TA} {p pos tpos : Pos} {elts : List Expr} {kk : Nat} (hg : Gl X "enumerate") (hm : X.mg "enumerate" = none) (ha : PA X [e] ta) (hs : starEach [e] X.env = [(false, eval e X.env)] := by rfl) :
    PI X (.Tuple elts kk tpos) (.Call (.Name "enumerate" p) [e] [] pos) (iEnumT X.K ta) := by
  refine ⟨fun pins s σ H R I h => ?_⟩
  refine Call_ (ld_blt I hg hm boot_enumerate (PyProof.Rows.callWith_type1 (thn (ha.run pos pins s σ H _ I h) fun us s1 ⟨vs, H1, I1, r1, q1⟩ => ?_) hs rfl))
  obtain ⟨a, xs, ex, hq, q⟩ := q1
  subst ex
  cases r1 with
  | cons r rr =>
    cases rr
    cases r
    obtain ⟨its, rv, p', hz⟩ := I1.tuple hq
    have hal : a < s1.heap.objs.size := by obtain ⟨o, ho, _⟩ := p'; exact Heap.lt_size ho
    refine call_enumerate_tuple p' fun h' he hit hsz hk => wpAny_pyIter_enum he ?_
    have I2 : Inv X pins σ H1 { s1 with heap := h' } := I1.kept (t' := s1.toks) hk
    refine ⟨s1.heap.objs.size + 1, [s1.heap.objs.size + 1, s1.heap.objs.size], _, _, H1, rfl, I2, turn_enumT a (s1.heap.objs.size + 1) s1.heap.objs.size (Nat.ne_of_lt hal) (Nat.ne_of_lt (Nat.lt_succ_of_lt hal)), ⟨⟨.none, he⟩, hit, Nat.succ_ne_self _⟩, fun b hb => ?_, q⟩
    have e' : b = s1.heap.objs.size + 1 ∨ b = s1.heap.objs.size := by simpa using hb
    have hle : s1.heap.objs.size ≤ b := by
      rcases e' with z | z
      · rw [z]; exact Nat.le_add_right _ _
      · rw [z]; exact Nat.le_refl _
    exact I1.fpOk hle (I1.hok.fresh hle)
theorem walk_enumT {K : PySem.W.Frag} {a : Addr} {xs : List V} : Walk (IteT K a) xs.length (fun H => SqT K H a xs) (YPair (fun i => some (.int (i : Nat))) (fun i => xs[i]?)) := by
  refine ⟨fun i _ hi q => ⟨xs, xs[i], q, by simp [hi]⟩, fun _ q => ⟨xs, q, rfl⟩, fun i H v H' _ q y => ?_⟩
  obtain ⟨T, x, h1, h2, h3, h4⟩ := y
  exact ⟨T, .int (i : Nat), x, h1, h2, h3, rfl, h4 xs q⟩
end BX

set_option Elab.async false
set_option linter.all false
set_option maxRecDepth 100000
set_option maxHeartbeats 2000000
/-! A for in a generator's body. -/
namespace BX
open PySem PySem.Spec PyProof.Rows L2 GenW

section
variable {prog : Program} {w : World} {A : Around} {R : GenEnd} {Y : Protocol} {n : Nat} {s₀ : Shared} {fs : List Frame} {s : Shared} {env : Env}
/-- what an exception in a loop's turn comes to -/
abbrev SegX (prog : Program) (w : World) (A : Around) (R : GenEnd) (Y : Protocol) (n : Nat) (s₀ : Shared) (c : Code) (fs : List Frame) (env : Env) (x : Value) (s' : Shared) : Prop :=
  Seg (model prog w) A R Y n s₀ c ((do noteFrame x env; theTreesLotGoes x : Sem Unit).wrap (fun _ => .raise x) .raise id id) fs s'
theorem seg_forLoop {target : Expr} {it : Value} {body : List Stmt}
    (h : wpAny (model prog w) (A.over (.forLoop target it body [] env) fs) (pyNext it) (fun r s1 => match r with
        | none => Seg (model prog w) A R Y n s₀ (.block [] env) (.pure (.done .next)) fs s1
        | some v => wpAny (model prog w) (A.over (.forLoop target it body [] env) fs) (letOwnedTupleGo target it v) (fun _ s2 =>
            wpAny (model prog w) (A.over (.forLoop target it body [] env) fs) (assign target env v) (fun _ s3 =>
              Seg (model prog w) A R Y n s₀ (.forLoop target it body [] env) ((execs body env).wrap (fun f => match f with
                | .next | .cont => .pure (.again (.forLoop target it body [] env))
                | .brk => .pure (.done .next)
                | .ret v => .pure (.done (.ret v))) (fun e => (do noteFrame e env; theTreesLotGoes e : Sem Unit).wrap (fun _ => .raise e) .raise id id) id id) fs s3)
              (SegX prog w A R Y n s₀ (.forLoop target it body [] env) fs env) s2)
            (SegX prog w A R Y n s₀ (.forLoop target it body [] env) fs env) s1)
      (SegX prog w A R Y n s₀ (.forLoop target it body [] env) fs env) s) :
    Seg (model prog w) A R Y n s₀ (.forLoop target it body [] env) ((model prog w).den (.forLoop target it body [] env)) fs s := by
  show Seg _ A R Y n s₀ _ ((forTurn target it body [] env).onRaise (fun x => do noteFrame x env; theTreesLotGoes x)) fs s
  have ex : ∀ {x : Value} {s' : Shared}, SegX prog w A R Y n s₀ (.forLoop target it body [] env) fs env x s' →
      Seg (model prog w) A R Y n s₀ (.forLoop target it body [] env) ((do noteFrame x env; theTreesLotGoes x : Sem Unit).bind fun _ => .raise x) fs s' := fun {x s'} hx => by
    rw [Sem.bind_eq_wrap]; exact hx
  rw [Sem.onRaise_eq_wrap]
  unfold forTurn
  refine seg_bind_wrap (wpAny_standAt ?_)
  refine seg_bind_wrap (wpAny_onRaise (wpAny_mono h (fun r s1 h1 => ?_) (fun x s1 hx => wpAny_standAt (ex hx))))
  cases r with
  | none => exact seg_again rfl h1
  | some v =>
    refine seg_bind_wrap (wpAny_mono h1 (fun _ s2 h2 => ?_) fun x s' hx => ex hx)
    refine seg_bind_wrap (wpAny_mono h2 (fun _ s3 h3 => ?_) fun x s' hx => ex hx)
    rw [Sem.bind_eq_wrap', Sem.wrap_wrap]
    rw [Sem.wrap_congr (execs body env) _ _ (K' := fun f => match f with
            | .next | .cont => .pure (.again (.forLoop target it body [] env))
            | .brk => .pure (.done .next)
            | .ret v => .pure (.done (.ret v))) (H' := (fun e => (do noteFrame e env; theTreesLotGoes e : Sem Unit).wrap (fun _ => .raise e) .raise id id))
        (fun f => by cases f <;> rfl)
        (fun e => by first | exact Sem.bind_eq_wrap _ _ | (show (do noteFrame e env; theTreesLotGoes e : Sem Unit).bind (fun _ => .raise e) = _; rw [Sem.bind_eq_wrap]))]
    exact h3
end

/-- for, in a generator -/
def tGFor (wi : TI) (g : TG) (tb : TGn) : TGn := fun D ys σ H => wi σ H fun J H1 => ∃ W : Nat → Nat → List V → L2.St → Hp → Prop, (∃ m, W 0 m ys σ H1) ∧ ∀ i m ys σ H, W i m ys σ H →
  (J.stop i H ∧ D.nx ys σ H) ∨ (J.go i H ∧ ∃ N : List V → L2.St → Hp → Prop, (∀ ys' σ' H', N ys' σ' H' → ∃ m', m' < m ∧ W (i + 1) m' ys' σ' H') ∧ ∀ x H', J.yld i H x H' → g x σ H' fun σ2 H2 => tb { D with nx := N, ct := N, bk := D.nx } ys σ2 H2)
section
variable {X : Cx}
theorem gs_for {tg iter : Expr} {body : List Stmt} {pos : Pos} {wi : TI} {g : TG} {tb : TGn} (hp : PassesOwn (model X.prog X.w) X.A X.env X.xe) (hcalm : X.calm = true) (hi : PI X tg iter wi) (hg : PG X tg g) (hb : GSs X body tb)
    (hs : ∀ x, foldedSetIterable iter X.env x = pure x := by intro _; rfl) : GS X (.For tg iter body [] pos) (tGFor wi g tb) := by
  refine ⟨fun A S ip R n ys s₀ c fs K J gd lv s σ H D gc hn k hI ht => ?_⟩
  obtain ⟨acc0, cc0, r0, I0⟩ := hI
  rw [exec_For]
  refine seg_bind_wrap (wpAny_standAt ?_)
  refine seg_bind_wrap ?_
  rw [gc.over]
  refine wpAny_mono (hi.run _ s σ H _ I0 ht) (fun v s1 h1 => ?_) fun x s' hx => k.exc n s₀ x s' hx
  refine seg_bind_wrap (wpAny_of_eq (hs v) ?_)
  refine seg_bind_wrap (wpAny_standAt ?_)
  refine seg_bind_wrap (wpAny_holding ?_)
  rw [gc.over]
  refine wpAny_mono h1 (fun itv s2 h2 => ?_) fun x s' hx => k.exc n s₀ x s' hx
  obtain ⟨it, fp, tn, JJ, H2, e, I2, T, st2, f2, W, ⟨m0, w0⟩, turn⟩ := h2
  subst e
  refine seg_call fun p => ?_
  have gl := fun (kk : Result → Sem PySem.Fin) => gc_loop (k := kk) (c' := .forLoop tg (.ref it) body [] X.env) (l := lv []) (kp := []) (p := p) gc rfl rfl
  have stat : ∀ {H' : Hp} {ac : Array Value} {cc : Nat}, (∀ b ∈ fp, H' b = none) → ∀ b ∈ fp, FpOk X ((S, lstObj ac cc) :: ip) H' b := fun {H' ac cc} hnn b hb => by
    obtain ⟨_, b1, b2, b3, b4, b5⟩ := f2 b hb
    refine ⟨hnn b hb, b1, b2, b3, b4, fun q hq => ?_⟩
    rcases List.mem_append.mp hq with hq | hq
    · exact b5 q (List.mem_append_left _ hq)
    · rcases List.mem_cons.mp hq with hq | hq
      · subst hq
        exact b5 (S, lstObj acc0 cc0) (List.mem_append_right _ List.mem_cons_self)
      · exact b5 q (List.mem_append_right _ (List.mem_cons_of_mem _ hq))
  have nS : ∀ b ∈ fp, b ≠ S := fun b hb z => (f2 b hb).2.2.2.2.2 (S, lstObj acc0 cc0) (List.mem_append_right _ List.mem_cons_self) z.symm
  have loop : ∀ (m i n : Nat) (ys : List V) (s₀ s : Shared) (σ : L2.St) (H : Hp), n + ys.length = sizeLine → W i m ys σ H → GI X S ip ys σ H s → tn i s.heap → (∀ b ∈ fp, H b = none) →
      Seg (model X.prog X.w) A R (GY X S) n s₀ (.forLoop tg (.ref it) body [] X.env) ((model X.prog X.w).den (.forLoop tg (.ref it) body [] X.env))
        (.ret (fun r => ((match r with | .ok f => (.pure f : Sem Flow) | .error e => .raise e).onRaise (cameBack X.env)).wrap K J gd lv) none (gd false) (lv []) c p [] :: fs) s := by
    intro m
    induction m using Nat.strongRecOn with
    | ind m ih =>
      intro i n ys s₀ s σ H hn w hI st3 fr3
      have ee : ∀ (n : Nat) (s₀ : Shared) (x : Value) (s' : Shared), X.xe x s' → Seg (model X.prog X.w) A R (GY X S) n s₀ (.forLoop tg (.ref it) body [] X.env)
          ((do noteFrame x X.env; theTreesLotGoes x : Sem Unit).wrap (fun _ => .raise x) .raise id id)
          (.ret (fun r => ((match r with | .ok f => (.pure f : Sem Flow) | .error e => .raise e).onRaise (cameBack X.env)).wrap K J gd lv) none (gd false) (lv []) c p [] :: fs) s' := fun n s₀ x s' hx => by
        refine seg_wrap ?_
        rw [(gl _).over]
        refine wpAny_bind (wpAny_mono (hp x s' hx) (fun _ s'' hcb => wpAny_theTreesLotGoes ?_) fun y s'' hcb => ?_)
        · exact seg_leaf (.error x) (seg_cameBack gc k hcb)
        · exact seg_leaf (.error y) (seg_cameBack gc k hcb)
      refine seg_forLoop ?_
      rw [(gl _).over]
      obtain ⟨acc, cc, r, I⟩ := hI
      rcases turn i m ys σ H w with ⟨hstop, qn⟩ | ⟨go, N, hN, step⟩
      · refine wpAny_mono (T.done X rfl rfl rfl hcalm i _ s σ H X.xe I (stat fr3) st3 hstop) (fun r s4 ⟨hr, I4⟩ => ?_) fun x s' hx => ee n s₀ x s' hx
        subst hr
        exact seg_leaf (.ok .next) (k.ok n ys s₀ s4 .next hn ⟨σ, H, ⟨acc, cc, r, I4⟩, qn⟩)
      · refine wpAny_mono (T.item X rfl rfl rfl hcalm i _ s σ H X.xe I (stat fr3) st3 go) (fun r s4 ⟨u, hr, h4⟩ => ?_) fun x s' hx => ee n s₀ x s' hx
        subst hr
        refine wpAny_mono h4 (fun _ s5 ⟨x, H5, I5, r5, y5, st5, fr5⟩ => ?_) fun x s' hx => ee n s₀ x s' hx
        have I5' := I5.pinned (stat fr5) (T.obj _ _ st5)
        refine wpAny_mono (hg.run _ s5 σ H5 x u _ I5' r5 (step x H5 y5)) (fun _ s6 ⟨σ6, H6, I6, q6⟩ => ?_) fun x s' hx => ee n s₀ x s' hx
        have gl2 : GC X S (ip ++ pinsAt fp s5.heap) A (.forLoop tg (.ref it) body [] X.env) (.ret (fun r => ((match r with | .ok f => (.pure f : Sem Flow) | .error e => .raise e).onRaise (cameBack X.env)).wrap K J gd lv) none (gd false) (lv []) c p [] :: fs) id :=
          ⟨gc.pn, (fun q hq => (List.mem_append.mp hq).elim (fun z => gc.ip q z) (fun z => nS q.1 (of_pinsAt z).1)), gc.apart, (gl _).over, (gl _).split, (gl _).guard, rfl⟩
        have back : ∀ {ys' : List V} {σ' : L2.St} {H' : Hp} {s' : Shared}, GI X S (ip ++ pinsAt fp s5.heap) ys' σ' H' s' → GI X S ip ys' σ' H' s' := fun {ys' σ' H' s'} ⟨a1, c1, r1, I1⟩ => ⟨a1, c1, r1, Inv.unpinned (pins := (S, lstObj a1 c1) :: ip) (pl := pinsAt fp s5.heap) I1⟩
        have stay : ∀ {ys' : List V} {σ' : L2.St} {H' : Hp} {s' : Shared}, GI X S (ip ++ pinsAt fp s5.heap) ys' σ' H' s' → tn (i + 1) s'.heap ∧ ∀ b ∈ fp, H' b = none := fun {ys' σ' H' s'} ⟨a1, c1, r1, I1⟩ => by
          refine ⟨T.keep _ _ _ st5 fun b hb o e => (I1.pin (b, o) (List.mem_append_right _ (List.mem_cons_of_mem _ (List.mem_append_right _ (mem_pinsAt hb e))))).1, fun b hb => ?_⟩
          obtain ⟨o, e, d⟩ := T.obj _ _ st5 b hb
          exact (I1.pin (b, o) (List.mem_append_right _ (List.mem_cons_of_mem _ (List.mem_append_right _ (mem_pinsAt hb e))))).2.1
        refine hb.run A S (ip ++ pinsAt fp s5.heap) R n ys s₀ _ _ _ _ id id s6 σ6 H6 { D with nx := N, ct := N, bk := D.nx } gl2 hn ⟨fun n' ys' s₀' s7 f hn' hs' => ?_, fun n' s₀' x s3 hx => ee n' s₀' x s3 hx⟩ ⟨acc, cc, r, I6⟩ q6
        cases f with
        | next =>
          obtain ⟨σ7, H7, I7, n7⟩ := hs'
          obtain ⟨m', hm, w7⟩ := hN ys' σ7 H7 n7
          exact seg_again rfl (ih m' hm (i + 1) n' ys' s₀' s7 σ7 H7 hn' w7 (back I7) (stay I7).1 (stay I7).2)
        | cont =>
          obtain ⟨σ7, H7, I7, n7⟩ := hs'
          obtain ⟨m', hm, w7⟩ := hN ys' σ7 H7 n7
          exact seg_again rfl (ih m' hm (i + 1) n' ys' s₀' s7 σ7 H7 hn' w7 (back I7) (stay I7).1 (stay I7).2)
        | brk =>
          obtain ⟨σ7, H7, I7, q7⟩ := hs'
          exact seg_leaf (.ok .next) (k.ok n' ys' s₀' s7 .next hn' ⟨σ7, H7, back I7, q7⟩)
        | ret v =>
          obtain ⟨v', σ7, H7, I7, r7, q7⟩ := hs'
          exact seg_leaf (.ok (.ret v)) (k.ok n' ys' s₀' s7 (.ret v) hn' ⟨v', σ7, H7, back I7, r7, q7⟩)
  exact loop m0 0 n ys s₀ s2 σ H2 hn w0 ⟨acc0, cc0, r0, I2⟩ st2 fun b hb => (f2 b hb).1
end
end BX

set_option Elab.async false
set_option linter.all false
set_option maxRecDepth 100000
set_option maxHeartbeats 4000000
/-! Rules that the layer lacks: a tuple times nought or one, a class called by a local name or with a star, an own __add__, len(set(a tuple of tuples of ints)). -/
namespace BX
open PySem PySem.Spec PyProof.Rows L2 StX

/-! ### (x,) * k for k = 0, 1 and more -/
theorem tuple_mul0 (l : Addr) (items : Array Value) (n : Nat) (dd : Option Addr) (sl : Array (Option Value)) (u : Tok) (hne : items.isEmpty = false) :
    Meets (Builtin.«tuple.__mul__» ⟨[.ref l, .int 0 u], []⟩) (fun _ R s => s.heap.get? l = some { cls := .type "tuple", dict := dd, data := .seq items n, slots := sl } ∧
      R (.ok (.ret (Value.ref s.heap.objs.size))) { s with heap := s.heap.push { cls := Value.type "tuple", data := Data.seq #[] }, toks := s.toks }) :=
  .of_wp fun prog w A R s h => by
    obtain ⟨hp, g, d, tk, os⟩ := s
    obtain ⟨hl, h⟩ := h
    have f1 := AutoSeq1.idx_int
    have c1 : (items.isEmpty || (0 : Int) == 1) = false := by rw [hne]; rfl
    wp_walk using wpAny_loadPart' hl
    repeat (first
      | (refine wpAny_ite_false (decide_eq_false (by rw [c1]; exact Bool.false_ne_true)) ?_; wp_walk using wpAny_loadPart' hl)
      | (refine wpAny_ite_true (decide_eq_true rfl) ?_; wp_walk using wpAny_loadPart' hl))
    exact ⟨_, rfl, h⟩
theorem tuple_mul1 (l : Addr) (items : Array Value) (n : Nat) (dd : Option Addr) (sl : Array (Option Value)) (u : Tok) :
    Meets (Builtin.«tuple.__mul__» ⟨[.ref l, .int 1 u], []⟩) (fun _ R s => s.heap.get? l = some { cls := .type "tuple", dict := dd, data := .seq items n, slots := sl } ∧
      R (.ok (.ret (Value.ref l))) s) :=
  .of_wp fun prog w A R s h => by
    obtain ⟨hp, g, d, tk, os⟩ := s
    obtain ⟨hl, h⟩ := h
    have f1 := AutoSeq1.idx_int
    have c1 : (items.isEmpty || (1 : Int) == 1) = true := by cases items.isEmpty <;> rfl
    have hT : Shared.TypeIs ⟨hp, g, d, tk, os⟩ (.ref l) "tuple" := ⟨_, hl, rfl⟩
    wp_walk using wpAny_loadPart' hl
    repeat (first
      | (refine wpAny_ite_true (decide_eq_true c1) ?_; wp_walk using wpAny_loadPart' hl)
      | (refine wpAny_ite_true (decide_eq_true rfl) ?_; wp_walk using wpAny_loadPart' hl))
    exact ⟨_, rfl, h⟩
/-- (x, ..) * k, k from 0 to 1000: some tuple with these items -/
def rRepA (K : PySem.W.Frag) : R2 := fun x y H Q => ∃ l k xs, x = .ref l ∧ y = .int k ∧ SqT K H l xs ∧ xs ≠ [] ∧ 0 ≤ k ∧ k ≤ 1000 ∧ xs.length ≤ 1000 ∧ (k = 1 → Q (.ref l) H) ∧ (k ≠ 1 → ∀ p, H p = none → Q (.ref p) (upd H p (.tup (List.replicate k.toNat xs).flatten)))
theorem op_repA {X : Cx} : OpR X (binaryOp .Mult) (rRepA X.K) := by
  intro pins s σ H x y v u Q I rx ry h
  obtain ⟨l, k, xs, rfl, rfl, hT, hne, h0, h2, hz, q1, q⟩ := h
  rcases (show 2 ≤ k ∨ k = 1 ∨ k = 0 by omega) with hk | hk | hk
  · exact op_repT pins s σ H _ _ v u Q I rx ry ⟨l, k, xs, rfl, rfl, hT, hne, hk, h2, hz, q (by omega)⟩
  · subst hk
    cases rx
    obtain ⟨t, rfl⟩ := ry
    obtain ⟨its, r, ⟨⟨cls, dd, data, sl⟩, ho, hc, n, hd⟩, hs⟩ := I.tuple hT
    simp only at hc hd
    subst hc hd
    refine wpAny_binaryOp_repeat_ref (T := "tuple") (U := "int") (by decide) ⟨_, ho, rfl⟩ (fun s' => typeIs_int s' 1 t) noFill_tuple_mul F.fills_int_mul F.slot_int_rmul repeat_tuple F.slot_int_index.lookup
      (call_meets F.slot_int_rmul (typeIs_int s 1 t) F.entry_int_rmul (F.args_int_rmul_2 _ _) (int_rmul_tuple 1 t l its.toArray n dd sl)
        ⟨ho, rfl, ⟨_, ho, rfl⟩, call_meets F.slot_tuple_mul ⟨_, ho, rfl⟩ F.entry_tuple_mul (F.args_tuple_mul_2 _ _) (tuple_mul1 l its.toArray n dd sl t) ⟨ho, ?_⟩⟩)
    exact ⟨.ref l, H, I, rfl, q1 rfl⟩
  · subst hk
    cases rx
    obtain ⟨t, rfl⟩ := ry
    obtain ⟨its, r, ⟨⟨cls, dd, data, sl⟩, ho, hc, n, hd⟩, hs⟩ := I.tuple hT
    simp only at hc hd
    subst hc hd
    have hi : its.toArray.isEmpty = false := by
      cases r with
      | nil => exact absurd rfl hne
      | cons a b => rfl
    refine wpAny_binaryOp_repeat_ref (T := "tuple") (U := "int") (by decide) ⟨_, ho, rfl⟩ (fun s' => typeIs_int s' 0 t) noFill_tuple_mul F.fills_int_mul F.slot_int_rmul repeat_tuple F.slot_int_index.lookup
      (call_meets F.slot_int_rmul (typeIs_int s 0 t) F.entry_int_rmul (F.args_int_rmul_2 _ _) (int_rmul_tuple 0 t l its.toArray n dd sl)
        ⟨ho, rfl, ⟨_, ho, rfl⟩, call_meets F.slot_tuple_mul ⟨_, ho, rfl⟩ F.entry_tuple_mul (F.args_tuple_mul_2 _ _) (tuple_mul0 l its.toArray n dd sl t hi) ⟨ho, ?_⟩⟩)
    refine ⟨.ref s.heap.objs.size, _, I.laid (t' := s.toks) (o := .tup []) (fun b ob q => Heap.get?_push_of_some _ q) (Nat.le_refl _) ?_, rfl, q (by decide) _ (I.hok.fresh (Nat.le_refl _))⟩
    exact ⟨Nat.zero_le _, [], .nil, IsTup.new _ _⟩

/-! ### a class called by a local name; with a star alone -/
section
variable {X : Cx} {CX : CXT} {k i : Nat} {f C : Addr} {sp : Sp} {E : XK} {x : Str} {e : Expr} {es : List Expr} {te : TE} {t : TA} {p sp_ pos : Pos}
def tMakeL (i : Nat) (C : Addr) (sp : Sp) (E : XK) (t : TA) : TE := fun σ H Q => σ[i]? = some (some (.ref C)) ∧ tMakeR C sp E t σ H Q
theorem pe_makeL (M : Mk X.K C f) (F : FnR X.prog X.w X.K X.mg X.base CX k f sp) (hr : Room (k + 1) X.A) (hN : X.N[i]? = some x) (hv : Vis X.env.scope x) (hx : Passes CX X E) (ha : PA X (e :: es) t) (hdb : (x == ("__debug__" : Str)) = false := by decide) (hcd : (x == ("__classdict__" : Str)) = false := by decide)
    (he : starEach (e :: es) X.env = (false, eval e X.env) :: starEach es X.env := by rfl) (hpl : (backTo pos (starEach es X.env)).any (·.1) = false := by rfl) : PE X (.Call (.Name x p) (e :: es) [] pos) (tMakeL i C sp E t) := by
  refine ⟨fun pins s σ H Q I h => ?_⟩
  obtain ⟨hs, ht⟩ := h
  refine wpAny_Call_Name_kw (thn ((pe_var (pos := p) hN hv hdb hcd).run pins s σ H (fun v H1 => v = .ref C ∧ H1 = H) I ⟨.ref C, hs, rfl, rfl⟩) fun u s1 ⟨v, H1, I1, r1, q1⟩ => ?_)
  obtain ⟨rfl, rfl⟩ := q1
  cases r1
  refine PySem.W.callWith_K (h₀ := X.base) I.ok.mod.kin M.kp (thn (ha.run pos pins s1 σ _ _ I1 ht) fun us s2 ⟨vs, H2, I2, r, q⟩ => ⟨I2.kIn, ?_⟩) he hpl
  exact run_makeR M F hr hx I2 r q
/-- C( *y) -/
theorem pe_makeS1 (M : Mk X.K C f) (F : FnR X.prog X.w X.K X.mg X.base CX k f sp) (hr : Room (k + 1) X.A) (hg : Gl X x) (hm : X.mg x = some (.ref C)) (hx : Passes CX X E) (he : PE X e te) (hd : (x == ("__debug__" : Str)) = false := by decide)
    (hst : starEach [.Starred e sp_] X.env = [(true, eval e X.env)] := by rfl) :
    PE X (.Call (.Name x p) [.Starred e sp_] [] pos) (fun σ H Q => te σ H fun y H1 => ∃ a xs, y = V.ref a ∧ (SqT X.K H1 a xs ∨ SqL X.K H1 a xs) ∧ ∀ x dx, H1 x = Option.none → H1 dx = Option.none → dx ≠ x →
      sp (V.ref x :: xs) (upd (upd H1 dx (.own x)) x (.ins C dx [])) (fun v H2 => v = .non ∧ Q (.ref x) H2) E) := by
  refine ⟨fun pins s σ H Q I h => ?_⟩
  refine wpAny_Call_Name_kw (ld_glob I hg hm ?_ hd)
  refine PySem.W.callWith_S (h₀ := X.base) I.ok.mod.kin M.kp (thn (he.run pins s σ H _ I h) fun v s1 ⟨y, H1, I1, ry, a, xs, ey, hxs, q⟩ => ?_) hst
  subst ey
  obtain rfl : v = Value.ref a := ry
  exact star_any I1 hxs fun us s2 I2 rv => ⟨I2.kIn, run_makeR M F hr hx I2 rv q⟩
end

/-! ### a + b by an own __add__ -/
structure AddOwn (K : PySem.W.Frag) (C f : Addr) : Prop where
  sf : PySem.W.selfFirst K C = true
  at_ : PySem.W.findIn K (.ref C) "__add__" = some (some (.ref f))
  fn : PySem.W.isFn K (.ref f) = true
def rAddOwn (C : Addr) (sp : Sp) (E : XK) : R2 := fun x y H Q => ∃ a b dx fs dy gs, x = .ref a ∧ y = .ref b ∧ H a = some (.ins C dx fs) ∧ H b = some (.ins C dy gs) ∧ sp [.ref a, .ref b] H Q E
theorem op_addOwn {X : Cx} {CX : CXT} {k : Nat} {f C : Addr} {sp : Sp} {E : XK} (W : AddOwn X.K C f) (F : FnR X.prog X.w X.K X.mg X.base CX k f sp) (hr : Room k X.A) (hx : Passes CX X E) : OpR X (binaryOp .Add) (rAddOwn C sp E) := by
  intro pins s σ H x y v u Q I rx ry h
  obtain ⟨a, b, dx, fs, dy, gs, rfl, rfl, ha, hb, q⟩ := h
  cases rx
  cases ry
  obtain ⟨mA, O, _⟩ := ins_get I.hok ha
  obtain ⟨od, J, _⟩ := O.look
  obtain ⟨mB, O2, _⟩ := ins_get I.hok hb
  obtain ⟨od2, J2, _⟩ := O2.look
  obtain ⟨m, Fm⟩ := I.fr
  refine PySem.W.binop_K Fm I.ok.mod.kin J J2.type W.sf (show PySem.W.findIn X.K (.ref C) (PySem.dunder Operator.Add.info.2) = _ from W.at_) W.fn ?_
  refine wpAny_call (codeAny_mono (run_fnR (us := [.ref a, .ref b]) (vs := [.ref a, .ref b]) F hr hx I (.cons rfl (.cons rfl .nil)) q) fun r s' hq => ?_)
  cases r with
  | error e => exact hq
  | ok fl =>
    cases fl with
    | ret w' =>
      obtain ⟨v, H', I', rv, qv⟩ := hq
      have hq2 : EP X pins σ Q w' s' := ⟨v, H', I', rv, qv⟩
      show PySem.W.CmpBack _ w' s'
      cases w' with
      | notImplemented =>
        cases v <;> first | (obtain ⟨_, e⟩ := rv; cases e) | cases rv
      | _ => exact hq2
    | next => exact hq
    | brk => exact hq
    | cont => exact hq
end BX

set_option Elab.async false
set_option linter.all false
set_option maxRecDepth 100000
set_option maxHeartbeats 4000000
/-! len(set(t)), t a tuple of tuples of ints that all differ. -/
namespace BX
open PySem PySem.Spec PyProof.Rows L2
section
variable {P : Program} {w : World} {A : Around} {E : Value → Shared → Prop} {s : Shared}
theorem call_set_tupsT {l : Addr} {items : Array Value} (ks : List (Addr × List Int)) {Q : Value → Shared → Prop} (hh : A.handled = none) (hl : s.heap.IsTuple l items) (hit : items.toList = ks.map fun p => Value.ref p.1)
    (hk : ∀ p ∈ ks, IsT P w s.heap p.2 p.1) (hfew : ks.length < 64) (hu : A.units + 3 < cLine)
    (h : ∀ (h' : Heap) (tk : Nat) L es ep t, SetTR P w h' s.heap.objs.size L es ep t → Got ks ks.length L → (∀ b o, s.heap.get? b = some o → h'.get? b = some o) → Q (.ref s.heap.objs.size) { s with heap := h', toks := tk }) :
    wpAny (model P w) A (call (.type "set") [.ref l]) Q E s := by
  have hisz : items.size = ks.length := by
    have q := congrArg List.length hit
    rw [Array.length_toList, List.length_map] at q
    exact q
  obtain ⟨c, tl, hmro⟩ := F.called_set.mro
  have hmade := F.called_set.made
  have hsub := F.called_set.sub
  refine wpAny_call (codeAny_of_tree ?_)
  show wpAny _ _ (callAny (.type "set") _) _ _ _
  refine wpAny_pure ⟨Code.quiet_builtin _ (by decide +kernel), codeAny_builtin F.entry_type_call ?_⟩
  rw [Around.under_plain (weight_type_call_type "set" [.ref l] []) rfl]
  have h1 := F.called_set.notType
  have h2 := F.called_set.canCreate
  have hct := F.typeCall_set_1 (.ref l)
  repeat (any_goals (first | assumption | wp_step))

  refine codeAny_mono (code_set_led1 (.ref l) (E := E) (Q₁ := fun obj s₁ => obj = .ref s.heap.objs.size ∧ s₁ = { s with heap := s.heap.push { cls := .type "set", dict := none, data := .set #[] 0 (.fresh 0 0 (!w.params.followText "set-order")) } }) ⟨rfl, rfl⟩) fun r s₁ hr => ?_
  cases r with
  | error e => exact hr
  | ok fl =>
    cases fl with
    | ret obj =>
      obtain ⟨rfl, rfl⟩ := hr
      have hS : (s.heap.push { cls := .type "set", dict := none, data := .set #[] 0 (.fresh 0 0 (!w.params.followText "set-order")) }).get? s.heap.objs.size = some { cls := .type "set", dict := none, data := .set #[] 0 (.fresh 0 0 (!w.params.followText "set-order")) } := Heap.get?_push_size _ rfl
      have hT : Shared.TypeIs { s with heap := s.heap.push { cls := .type "set", dict := none, data := .set #[] 0 (.fresh 0 0 (!w.params.followText "set-order")) } } (.ref s.heap.objs.size) "set" := ⟨_, hS, rfl⟩
      have hli := F.called_set.init.lookup
      have hbi := F.called_set.init.bind (.ref s.heap.objs.size)
      repeat (any_goals (first | assumption | wp_step))

      refine codeAny_mono (codeAny_call_builtin (R := wants (fun r s₂ => r = .none ∧ ∃ h' tk L es ep t, s₂ = { s with heap := h', toks := tk } ∧ SetTR P w h' s.heap.objs.size L es ep t ∧ Got ks ks.length L ∧
          (∀ b o, s.heap.get? b = some o → h'.get? b = some o)) E) F.called_set.init.plain F.entry_set_init (check_set_init_1 hT ?_)) fun r₂ s₂ hr₂ => ?_
      · obtain ⟨ol, hol, hcl, nl, hdl⟩ := hl
        obtain ⟨ocls, odict, odata, oslots⟩ := ol
        simp only at hcl hdl
        subst hcl; subst hdl
        have hol' : (s.heap.push { cls := .type "set", dict := none, data := .set #[] 0 (.fresh 0 0 (!w.params.followText "set-order")) }).get? l = some { cls := .type "tuple", dict := odict, data := .seq items nl, slots := oslots } := Heap.get?_push_of_some _ hol
        have hsls := F.sub_tuple_set
        have hslf := F.sub_tuple_frozenset
        have hne : (Value.type "tuple" == Value.type "dict") = false := by decide
        have hl1 : (s.heap.push { cls := .type "set", dict := none, data := .set #[] 0 (.fresh 0 0 (!w.params.followText "set-order")) }).IsTuple l items := ⟨_, hol', rfl, nl, rfl⟩
        unfold Builtin.«set.__init__» noKeywords Builtin.Frozenset.updateFrom
        generalize hPI : pyIter = PI
        wp_walk
        subst hPI

        refine wpAny_pyIter_tuple hl1 ?_
        refine wpAny_bind (wpAny_runValue ?_)
        have hlS : l < s.heap.objs.size := Heap.lt_size hol
        have hh3 : A.in1.in1.in1.handled = none := by simp [hh]
        have hz1 : (s.heap.push { cls := .type "set", dict := none, data := .set #[] 0 (.fresh 0 0 (!w.params.followText "set-order")) }).objs.size = s.heap.objs.size + 1 := Heap.size_push ..
        have hneI : l ≠ (s.heap.push { cls := .type "set", dict := none, data := .set #[] 0 (.fresh 0 0 (!w.params.followText "set-order")) }).objs.size := by
          rw [Heap.size_push]; exact Nat.ne_of_lt (Nat.lt_succ_of_lt hlS)
        have hSf : s.heap.objs.size ∉ [(s.heap.push { cls := .type "set", dict := none, data := .set #[] 0 (.fresh 0 0 (!w.params.followText "set-order")) }).objs.size, l] := by
          rw [Heap.size_push]; simp only [List.mem_cons, List.mem_singleton, List.not_mem_nil, or_false, not_or]
          exact ⟨Nat.ne_of_lt (Nat.lt_succ_self _), Nat.ne_of_gt hlS⟩
        have hval : ∀ (i : Nat) (v : Value), items[i]? = some v → ∃ p, ks[i]? = some p ∧ v = .ref p.1 := fun i v hv => by
          have q : items.toList[i]? = some v := by rw [Array.getElem?_toList]; exact hv
          rw [hit, List.getElem?_map] at q
          cases hq : ks[i]? with
          | none => rw [hq] at q; cases q
          | some p =>
            rw [hq] at q
            exact ⟨p, rfl, (Option.some.inj q).symm⟩
        have none_of : ∀ b, s.heap.objs.size ≤ b → s.heap.get? b = none := fun b hb => by
          cases q : s.heap.get? b with
          | none => rfl
          | some o => exact absurd (Nat.lt_of_lt_of_le (Heap.lt_size q) hb) (Nat.lt_irrefl _)
        refine set_update_tups ((Walks.tuple hh3 _ l hneI items).toS) s.heap.objs.size
          hSf ks hisz hfew hval s.heap hk (none_of _ (Nat.le_refl _)) (fun b hb => none_of b (by
            rw [List.mem_singleton.mp hb, Heap.size_push]
            exact Nat.le_succ _)) hu (items.size - 0) 0 _ (by omega) (Nat.zero_le _)
          ⟨⟨_, Heap.get?_push_size _ rfl, rfl, rfl⟩, (hl1.at fun o e => Heap.get?_push_of_some _ e)⟩ (fun b o e => Heap.get?_push_of_some _ (Heap.get?_push_of_some _ e)) ?hS0 ?hR
        case hS0 =>
          have hget : ((s.heap.push { cls := .type "set", dict := none, data := .set #[] 0 (.fresh 0 0 (!w.params.followText "set-order")) }).push { cls := .type "tuple_iterator", data := .fields #[.ref l, .int 0 0] }).get? s.heap.objs.size
              = some { cls := .type "set", dict := none, data := .set #[] 0 (.fresh 0 0 (!w.params.followText "set-order")) } := Heap.get?_push_of_some _ hS
          exact ⟨[], #[], 0, _, setTR_fresh hget, Got.zero ks⟩
        case hR =>
          intro s' L es ep t hm hS' g' hkp
          obtain ⟨h', g2, d', tk', os'⟩ := s'
          have eg : g2 = s.gens := hm.gens
          have ed : d' = s.drawn := hm.drawn
          have eo : os' = s.os := hm.os
          subst eg; subst ed; subst eo
          show wpAny _ _ _ _ _ _
          refine wpAny_pure ?_
          show wpAny _ _ (ret Value.none) _ _ _
          rw [hisz] at g'
          exact wpAny_pure ⟨rfl, h', tk', L, es, ep, t, rfl, hS', g', hkp⟩

      · cases r₂ with
        | error e => exact hr₂
        | ok fl₂ =>
          cases fl₂ with
          | ret r =>
            obtain ⟨rfl, h', tk, L, es, ep, t, rfl, hS', g', hk'⟩ := hr₂
            repeat (any_goals (first | assumption | wp_step))
            exact h _ _ _ _ _ _ hS' g' hk'
          | _ => exact hr₂.elim
    | _ => exact hr.elim
end
theorem nodup_sub_len {α : Type} [DecidableEq α] : ∀ (l m : List α), l.Nodup → (∀ x ∈ l, x ∈ m) → l.length ≤ m.length
  | [], m, _, _ => Nat.zero_le _
  | a :: r, m, hn, hs => by
    have ha : a ∈ m := hs a (List.mem_cons_self)
    have hn2 := List.nodup_cons.mp hn
    have := nodup_sub_len r (m.erase a) hn2.2 fun x hx => (List.mem_erase_of_ne (fun e => hn2.1 (by rw [← e]; exact hx))).mpr (hs x (List.mem_cons_of_mem _ hx))
    have h2 := List.length_erase_of_mem ha
    have h3 := List.length_pos_of_mem ha
    rw [List.length_cons]; omega
def tLenSetT (K : PySem.W.Frag) (ta : TE) : TE := fun σ H Q => ta σ H fun x H1 => ∃ (l : Addr) (ks : List (Addr × List Int)), x = V.ref l ∧ SqT K H1 l (ks.map fun p => V.ref p.1) ∧ (∀ p ∈ ks, SqT K H1 p.1 (p.2.map V.int)) ∧ ks.length < 64 ∧ (ks.map (·.2)).Nodup ∧ Q (.int ks.length) H1
theorem pe_lenSetT {X : Cx} {a : Expr} {ta : TE} {p p2 q pos : Pos} (hc : X.calm = true) (hu : X.A.units + 64 < cLine) (hg : Gl X "len") (hm : X.mg "len" = none) (hg2 : Gl X "set") (hm2 : X.mg "set" = none) (ha : PE X a ta)
    (na : starEach [a] X.env = (false, eval a X.env) :: starEach [] X.env := by rfl) : PE X (.Call (.Name "len" p) [.Call (.Name "set" p2) [a] [] q] [] pos) (tLenSetT X.K ta) := by
  refine ⟨fun pins s σ H Q I h => ?_⟩
  refine Call_ (ld_blt I hg hm PySem.boot_len ?_)
  refine PyProof.Rows.callWith_builtin1 (PyProof.Rows.args_cons ?_ rfl) rfl rfl
  refine Call_ (ld_blt I hg2 hm2 PyProof.Rows.boot_set ?_)
  refine PyProof.Rows.callWith_type1 (PyProof.Rows.args_cons (thn (ha.run pins s σ H _ I h) fun v s1 ⟨x, H1, I1, r1, q1⟩ => PyProof.Rows.args_nil ?_) na) na rfl
  obtain ⟨l, ks, rfl, hq, hks, h1, hnd, q1⟩ := q1
  cases r1
  obtain ⟨its, r, pl, hz⟩ := I1.tuple hq
  refine call_set_tupsT (P := X.prog) (w := X.w) ks (I1.ok.hd hc) pl (by simpa using refs_of_vals r) (fun p hp => I1.isT (hks p hp)) h1 (by omega) fun h' tk L es ep t R g k => ?_
  refine PyProof.Rows.args_nil ?_
  obtain ⟨o, ho, hex, hd⟩ := R.ob
  have hLk : L.length = ks.length := by
    have a1 := nodup_sub_len (L.map (·.2)) (ks.map (·.2)) R.nd fun x hx => by
      obtain ⟨p, hp, rfl⟩ := List.mem_map.mp hx
      exact List.mem_map.mpr ⟨p, List.mem_of_mem_take (g.sub p hp), rfl⟩
    have a2 := nodup_sub_len (ks.map (·.2)) (L.map (·.2)) hnd fun x hx => by
      obtain ⟨p, hp, rfl⟩ := List.mem_map.mp hx
      exact g.all p (by rw [List.take_length]; exact hp)
    rw [List.length_map, List.length_map] at a1 a2
    omega
  have hes : es.size = ks.length := by rw [SetTR.size (s := { s1 with heap := h', toks := tk }) R, hLk]
  have I2 : Inv X pins σ H1 { s1 with heap := h', toks := tk } := I1.kept k
  refine call_len_set ho hex hd (SetTR.fits (s := { s1 with heap := h', toks := tk }) R) (by rw [hes]; omega) ⟨.int ks.length, H1, I2.tok _, ⟨_, by rw [hes]⟩, q1⟩
end BX

set_option Elab.async false
set_option linter.all false
set_option maxRecDepth 100000
set_option maxHeartbeats 2000000
/-! Comprehensions whose turns add objects alone. -/
namespace BX
open PySem PySem.Spec PyProof.Rows L2

def given (n : Nat) (f : Nat → Bool) (v : Nat → V) : List V := ((List.range n).filter f).map v
theorem given_yes {n : Nat} {f : Nat → Bool} {v : Nat → V} (h : f n = true) : given (n + 1) f v = given n f v ++ [v n] := by
  unfold given; rw [List.range_succ, List.filter_append, List.map_append]; simp [h]
theorem given_no {n : Nat} {f : Nat → Bool} {v : Nat → V} (h : f n = false) : given (n + 1) f v = given n f v := by
  unfold given; rw [List.range_succ, List.filter_append]; simp [h]
theorem given_len (n : Nat) (f : Nat → Bool) (v : Nat → V) : (given n f v).length ≤ n := by
  unfold given; rw [List.length_map]; exact Nat.le_trans (List.length_filter_le _ _) (by rw [List.length_range]; exact Nat.le_refl _)
theorem given_all (n : Nat) (v : Nat → V) : given n (fun _ => true) v = (List.range n).map v := by
  unfold given; rw [List.filter_eq_self.mpr (fun _ _ => rfl)]
theorem smallK {n : Nat} (h : n ≤ 100000) : n < sizeLine := Nat.lt_of_le_of_lt h (by rw [sizeLine_eq]; decide)
theorem sameU {H H' : Hp} {p : Addr} {o : HO} (e : Same H H') (h : H p = none) : Same H (upd H' p o) := fun b u eb => by
  rw [upd_ne (ne_of_none eb h)]; exact e b u eb
theorem sameW {H : Hp} {p : Addr} {o : HO} (h : H p = none) : Same H (upd H p o) := sameU (Same.refl H) h
/-- a comprehension over a walk, each turn adding objects alone -/
theorem lc_pure {J : It} {n : Nat} {G : Hp → Prop} {Y : Nat → Hp → V → Hp → Prop} (w : Walk J n G Y) {g : TG} {tt : TT} {te : TE} {vs : List Nat} {σ : L2.St} {H1 : Hp} {D : Addr} {Qd : Hp → Prop} (f : Nat → Bool) (v : Nat → V) (hD : H1 D = none) (hz : n ≤ 100000)
    (hG : ∀ H, Same H1 H → G H)
    (hs : ∀ i x H H' (k : L2.St → Hp → Prop), i < n → Same H1 H → Y i H x H' → (∀ σ2 H2, Same H H2 → wipe σ2 vs = wipe σ vs → (∀ Qb : Bool → Hp → Prop, (∀ H3, Same H H3 → Qb (f i) H3) → tt σ2 H2 Qb) →
      (f i = true → ∀ H3 (Q' : VK), Same H H3 → (∀ H4, Same H H4 → Q' (v i) H4) → te σ2 H3 Q') → k σ2 H2) → g x (wipe σ vs) H' k)
    (hd : ∀ H, Same H1 H → H D = some (.lst (given n f v)) → Qd H) :
    ∃ W : Nat → Nat → Hp → Prop, (∃ m, W 0 m (upd H1 D (.lst []))) ∧ ∀ i m H, W i m H →
      (J.stop i H ∧ Qd H) ∨ (J.go i H ∧ ∃ Nx : Hp → Prop, (∀ H', Nx H' → ∃ m', m' < m ∧ W (i + 1) m' H') ∧ ∀ x H', J.yld i H x H' → g x (wipe σ vs) H' fun σ2 H2 => wipe σ2 vs = wipe σ vs ∧ tt σ2 H2 fun b H3 =>
        if b = true then te σ2 H3 fun y H4 => ∃ acc, H4 D = some (.lst acc) ∧ acc.length < sizeLine ∧ Nx (upd H4 D (.lst (acc ++ [y]))) else Nx H3) := by
  refine lc_it w (fun i H => Same H1 H ∧ H D = some (.lst (given i f v))) ⟨sameW hD, upd_same⟩ (fun i H _ p => hG H p.1) (fun i x H H' hi p y => ?_) fun H p => hd H p.1 p.2
  refine hs i x H H' _ hi p.1 y fun σ2 H2 s2 hw ht he => ⟨hw, ht _ fun H3 s3 => ?_⟩
  cases hf : f i with
  | true =>
    rw [if_pos rfl]
    refine he hf H3 _ s3 fun H4 s4 => ⟨given i f v, s4 _ _ p.2, Nat.lt_of_le_of_lt (given_len _ _ _) (smallK (by omega)), sameU (p.1.trans s4) hD, ?_⟩
    rw [upd_same, given_yes hf]
  | false =>
    rw [if_neg Bool.false_ne_true]
    exact ⟨p.1.trans s3, by rw [given_no hf]; exact s3 _ _ p.2⟩
/-- .. without tests -/
theorem lc_pureA {J : It} {n : Nat} {G : Hp → Prop} {Y : Nat → Hp → V → Hp → Prop} (w : Walk J n G Y) {g : TG} {te : TE} {vs : List Nat} {σ : L2.St} {H1 : Hp} {D : Addr} {Qd : Hp → Prop} (v : Nat → V) (hD : H1 D = none) (hz : n ≤ 100000)
    (hG : ∀ H, Same H1 H → G H)
    (hs : ∀ i x H H' (k : L2.St → Hp → Prop), i < n → Same H1 H → Y i H x H' → (∀ σ2 H2, Same H H2 → wipe σ2 vs = wipe σ vs → (∀ H3 (Q' : VK), Same H H3 → (∀ H4, Same H H4 → Q' (v i) H4) → te σ2 H3 Q') → k σ2 H2) → g x (wipe σ vs) H' k)
    (hd : ∀ H, Same H1 H → H D = some (.lst ((List.range n).map v)) → Qd H) :
    ∃ W : Nat → Nat → Hp → Prop, (∃ m, W 0 m (upd H1 D (.lst []))) ∧ ∀ i m H, W i m H →
      (J.stop i H ∧ Qd H) ∨ (J.go i H ∧ ∃ Nx : Hp → Prop, (∀ H', Nx H' → ∃ m', m' < m ∧ W (i + 1) m' H') ∧ ∀ x H', J.yld i H x H' → g x (wipe σ vs) H' fun σ2 H2 => wipe σ2 vs = wipe σ vs ∧ tYes σ2 H2 fun b H3 =>
        if b = true then te σ2 H3 fun y H4 => ∃ acc, H4 D = some (.lst acc) ∧ acc.length < sizeLine ∧ Nx (upd H4 D (.lst (acc ++ [y]))) else Nx H3) :=
  lc_pure w (tt := tYes) (fun _ => true) v hD hz hG (fun i x H H' k hi s1 y hk => hs i x H H' k hi s1 y fun σ2 H2 s2 hw he => hk σ2 H2 s2 hw (fun Qb q => q H2 s2) fun _ => he) (by
    intro H s h; rw [given_all] at h; exact hd H s h)
/-- a tuple's type -/
theorem tyx_tup {K : PySem.W.Frag} {H : Hp} {a : Addr} {xs : List V} (h : SqT K H a xs) : TyX K H (.ref a) (.type "tuple") := by
  rcases h with (h | ⟨o, h⟩) | ⟨o, its, n, h1, h2, _⟩
  · exact .base (.tup h)
  · exact .fTuple h
  · exact .kTuple h1 h2
/-! ### slices -/
theorem cutV_nn (xs : List V) (s e : Nat) : cutV xs (some (s : Int)) (some (e : Int)) = (xs.drop s).take (e - s) := by
  unfold cutV
  rw [HT.sIx_nat, HT.sIx_nat]
  refine List.ext_getElem? fun i => ?_
  rw [List.getElem?_take, List.getElem?_take, List.getElem?_drop, List.getElem?_drop]
  by_cases h1 : i < min e xs.length - min s xs.length
  · rw [if_pos h1, if_pos (by omega), show min s xs.length + i = s + i by omega]
  · rw [if_neg h1]
    by_cases h2 : i < e - s
    · rw [if_pos h2, List.getElem?_eq_none (by omega)]
    · rw [if_neg h2]
theorem cutV_n0 (xs : List V) (s : Nat) : cutV xs (some (s : Int)) none = xs.drop s := by
  unfold cutV
  rw [HT.sIx_nat, HT.sIx_none]
  refine List.ext_getElem? fun i => ?_
  rw [List.getElem?_take, List.getElem?_drop, List.getElem?_drop]
  by_cases h1 : i < xs.length - min s xs.length
  · rw [if_pos h1, show min s xs.length + i = s + i by omega]
  · rw [if_neg h1, List.getElem?_eq_none (by omega)]
theorem cutV_0n (xs : List V) (e : Nat) : cutV xs none (some (e : Int)) = xs.take e := by
  unfold cutV
  rw [HT.sIx_nat, HT.sIx_none]
  refine List.ext_getElem? fun i => ?_
  rw [List.getElem?_take, List.getElem?_take, List.getElem?_drop, Nat.zero_add]
  by_cases h1 : i < min e xs.length - 0
  · rw [if_pos h1, if_pos (by omega)]
  · rw [if_neg h1]
    by_cases h2 : i < e
    · rw [if_pos h2, List.getElem?_eq_none (by omega)]
    · rw [if_neg h2]
theorem cutV_full {xs : List V} {lo hi : Option Int} (h : HT.sIx xs.length 0 lo = 0 ∧ HT.sIx xs.length xs.length hi = xs.length) : cutV xs lo hi = xs := by
  unfold cutV
  rw [h.1, h.2, List.drop_zero, Nat.sub_zero, List.take_length]
/-- a tuple's slice, the same object or a new one -/
theorem slA_to {K : PySem.W.Frag} {H : Hp} {a : Addr} {xs : List V} {lo hi : Option Int} {Q : VK} (hT : SqT K H a xs) (q : ∀ p H', Same H H' → SqT K H' p (cutV xs lo hi) → Q (.ref p) H') : rSlA K (.ref a) lo hi H Q :=
  ⟨a, xs, rfl, hT, fun h => q a H (Same.refl H) (by rw [cutV_full h]; exact hT), fun _ p hp => q p _ (sameW hp) (.inl (.inl upd_same))⟩
end BX

set_option Elab.async false
set_option linter.all false
set_option maxRecDepth 100000
set_option maxHeartbeats 2000000
/-! Data of ints and pairs: == and in. -/
namespace BX
open PySem PySem.Spec PyProof.Rows L2
def rNotInT (K : PySem.W.Frag) : R2 := fun x y H Q => ∃ d ds, Dp K H x d ∧ Dp K H y (.tuple ds) ∧ SeqAt.shaped d = true ∧ SeqAt.shaped (.tuple ds) = true ∧ Q (.bl (!ds.any fun z => PyData.eqv z d)) H
theorem op_notInT {X : Cx} (hu : X.A.units + 65 < cLine) : OpR X (compareOp .NotIn) (rNotInT X.K) := by
  intro pins s σ H x y v u Q I rx ry h
  obtain ⟨d, ds, hd, he, sd, se, q⟩ := h
  obtain ⟨as, r1⟩ := Dp.reads I d x v hd rx
  obtain ⟨bs, r2⟩ := Dp.reads I (.tuple ds) y u he ry
  exact SeqAt.notIn_tuple_reads r2 r1 (SeqAt.canLay_of_shaped se) (SeqAt.canLay_of_shaped sd) (room_in_shaped sd hu) ⟨.bl _, H, I, rfl, q⟩

/-! ### rows of ints -/
def dRow (xs : List Int) : PyData := .tuple (xs.map .int)
theorem ints_lay : ∀ xs : List Int, PyData.canLayAll0 (xs.map .int) = true
  | [] => by simp [PyData.canLayAll0]
  | x :: r => by simp [PyData.canLayAll0, PyData.canLay0, ints_lay r]
theorem ints_depth : ∀ xs : List Int, PyData.depthAll (xs.map .int) = 0
  | [] => by simp [PyData.depthAll]
  | x :: r => by simp [PyData.depthAll, PyData.depth, ints_depth r]
theorem dRow_shaped (xs : List Int) : SeqAt.shaped (dRow xs) = true := by
  show ((dRow xs).canLay0 && decide ((dRow xs).depth ≤ 64)) = true
  rw [Bool.and_eq_true]
  refine ⟨by simp only [dRow, PyData.canLay0]; exact ints_lay xs, decide_eq_true ?_⟩
  simp only [dRow, PyData.depth, ints_depth]; decide
theorem lRow_shaped (xs : List Int) : SeqAt.shaped (.list (xs.map .int)) = true := by
  show (PyData.canLay0 (.list (xs.map .int)) && decide (PyData.depth (.list (xs.map .int)) ≤ 64)) = true
  rw [Bool.and_eq_true]
  refine ⟨by simp only [PyData.canLay0]; exact ints_lay xs, decide_eq_true ?_⟩
  simp only [PyData.depth, ints_depth]; decide
theorem ints_eqv : ∀ xs ys : List Int, PyData.eqvAll (xs.map .int) (ys.map .int) = decide (xs = ys)
  | [], [] => by simp [PyData.eqvAll]
  | [], y :: ys => by simp [PyData.eqvAll]
  | x :: xs, [] => by simp [PyData.eqvAll]
  | x :: xs, y :: ys => by
    simp only [List.map_cons, PyData.eqvAll, PyData.eqv]
    rw [ints_eqv xs ys]
    by_cases h : x = y
    · subst h; simp
    · have q : (x == y) = false := beq_eq_false_iff_ne.mpr h
      rw [q, Bool.false_and, decide_eq_false (fun e => h (List.cons.inj e).1)]
theorem dRow_eqv (xs ys : List Int) : PyData.eqv (dRow xs) (dRow ys) = decide (xs = ys) := by
  simp only [dRow, PyData.eqv]; exact ints_eqv xs ys
theorem lRow_eqv (xs ys : List Int) : PyData.eqv (.list (xs.map .int)) (.list (ys.map .int)) = decide (xs = ys) := by
  simp only [PyData.eqv]; exact ints_eqv xs ys
theorem dp_ints {K : PySem.W.Frag} {H : Hp} : ∀ xs : List Int, DpAll K H (xs.map V.int) (xs.map .int)
  | [] => .nil
  | x :: r => .cons (.int x) (dp_ints r)
theorem dp_row {K : PySem.W.Frag} {H : Hp} {a : Addr} {xs : List Int} (h : SqT K H a (xs.map V.int)) : Dp K H (.ref a) (dRow xs) := .tup h (dp_ints xs)
theorem dp_lst {K : PySem.W.Frag} {H : Hp} {a : Addr} {xs : List Int} (h : SqL K H a (xs.map V.int)) : Dp K H (.ref a) (.list (xs.map .int)) := .lst h (dp_ints xs)

/-! ### pairs -/
def dPr (p : BM.Pr) : PyData := dRow [p.1, p.2]
theorem dPr_eqv (p q : BM.Pr) : PyData.eqv (dPr p) (dPr q) = decide (p = q) := by
  obtain ⟨a, b⟩ := p
  obtain ⟨c, d⟩ := q
  rw [dPr, dPr, dRow_eqv]
  by_cases h : ((a, b) : BM.Pr) = (c, d)
  · cases h; simp
  · rw [decide_eq_false h]
    refine decide_eq_false fun e => h ?_
    have e1 := (List.cons.inj e).1
    have e2 := (List.cons.inj (List.cons.inj e).2).1
    exact Prod.ext e1 e2
theorem prs_lay : ∀ P : List BM.Pr, PyData.canLayAll0 (P.map dPr) = true
  | [] => by simp [PyData.canLayAll0]
  | p :: r => by
    have := ints_lay [p.1, p.2]
    simp only [List.map_cons, PyData.canLayAll0, prs_lay r, Bool.and_true]
    show PyData.canLay0 (dRow [p.1, p.2]) = true
    simp only [dRow, PyData.canLay0]; exact this
theorem prs_depth : ∀ P : List BM.Pr, PyData.depthAll (P.map dPr) ≤ 1
  | [] => by simp [PyData.depthAll]
  | p :: r => by
    have h1 := prs_depth r
    have h2 : (dPr p).depth = 1 := by
      show (dRow [p.1, p.2]).depth = 1
      simp only [dRow, PyData.depth, ints_depth]
    simp only [List.map_cons, PyData.depthAll]
    omega
theorem tPrs_shaped (P : List BM.Pr) : SeqAt.shaped (.tuple (P.map dPr)) = true := by
  have h1 := prs_depth P
  show (PyData.canLay0 (.tuple (P.map dPr)) && decide (PyData.depth (.tuple (P.map dPr)) ≤ 64)) = true
  rw [Bool.and_eq_true]
  refine ⟨by simp only [PyData.canLay0]; exact prs_lay P, decide_eq_true ?_⟩
  simp only [PyData.depth]; omega
theorem lPrs_shaped (P : List BM.Pr) : SeqAt.shaped (.list (P.map dPr)) = true := by
  have h1 := prs_depth P
  show (PyData.canLay0 (.list (P.map dPr)) && decide (PyData.depth (.list (P.map dPr)) ≤ 64)) = true
  rw [Bool.and_eq_true]
  refine ⟨by simp only [PyData.canLay0]; exact prs_lay P, decide_eq_true ?_⟩
  simp only [PyData.depth]; omega
theorem dPr_shaped (p : BM.Pr) : SeqAt.shaped (dPr p) = true := dRow_shaped _
theorem prs_any (P : List BM.Pr) (p : BM.Pr) : (P.map dPr).any (fun z => PyData.eqv z (dPr p)) = decide (p ∈ P) := by
  induction P with
  | nil => simp
  | cons q r ih =>
    rw [List.map_cons, List.any_cons, ih, dPr_eqv]
    by_cases h : q = p
    · subst h; simp
    · rw [decide_eq_false h, Bool.false_or]
      by_cases h2 : p ∈ r
      · rw [decide_eq_true h2, decide_eq_true (List.mem_cons_of_mem _ h2)]
      · rw [decide_eq_false h2, decide_eq_false]
        intro h3
        rcases List.mem_cons.mp h3 with e | e
        · exact h e.symm
        · exact h2 e
theorem dp_prs {K : PySem.W.Frag} {H : Hp} : ∀ (as : List Addr) (P : List BM.Pr), as.length = P.length → (∀ (i : Nat) (a : Addr) (p : BM.Pr), as[i]? = some a → P[i]? = some p → SqT K H a [V.int p.1, V.int p.2]) → DpAll K H (as.map V.ref) (P.map dPr)
  | [], [], _, _ => .nil
  | a :: as, p :: P, hl, h => .cons (dp_row (xs := [p.1, p.2]) (h 0 a p rfl rfl)) (dp_prs as P (by simpa using hl) fun i b q x y => h (i + 1) b q (by simpa using x) (by simpa using y))
  | [], _ :: _, hl, _ => by simp at hl
  | _ :: _, [], hl, _ => by simp at hl
end BX

set_option Elab.async false
set_option linter.all false
set_option maxRecDepth 100000
set_option maxHeartbeats 2000000
/-! Comprehensions of two walks. -/
namespace BX
open PySem PySem.Spec PyProof.Rows L2
theorem lc2_it {J : It} {n : Nat} {G : Hp → Prop} {Y : Nat → Hp → V → Hp → Prop} (w : Walk J n G Y) {g : TG} {tt : TT} {wi1 : TI} {g1 : TG} {tt1 : TT} {te : TE} {vs vs1 : List Nat} {σ : L2.St} {H1 : Hp} {D : Addr} {Qd : Hp → Prop} (Pv : Nat → Hp → Prop) (h0 : Pv 0 (upd H1 D (.lst []))) (hG : ∀ i H, i ≤ n → Pv i H → G H)
    (hs : ∀ i x H H', i < n → Pv i H → Y i H x H' → g x (wipe σ vs) H' fun σ2 H2 => wipe σ2 vs = wipe σ vs ∧ tt σ2 H2 fun b H3 =>
      if b = true then wi1 σ2 H3 fun J1 H4 => ∃ W1 : Nat → Nat → Hp → Prop, (∃ m, W1 0 m H4) ∧ ∀ j k H, W1 j k H →
        (J1.stop j H ∧ Pv (i + 1) H) ∨ (J1.go j H ∧ ∃ Nx1 : Hp → Prop, (∀ H', Nx1 H' → ∃ k', k' < k ∧ W1 (j + 1) k' H') ∧ ∀ x H', J1.yld j H x H' → g1 x (wipe σ2 vs1) H' fun σ3 H5 => wipe σ3 vs1 = wipe σ2 vs1 ∧ tt1 σ3 H5 fun b H6 =>
          if b = true then te σ3 H6 fun y H7 => ∃ acc, H7 D = some (.lst acc) ∧ acc.length < sizeLine ∧ Nx1 (upd H7 D (.lst (acc ++ [y]))) else Nx1 H6) else Pv (i + 1) H3) (hd : ∀ H, Pv n H → Qd H) :
    ∃ W : Nat → Nat → Hp → Prop, (∃ m, W 0 m (upd H1 D (.lst []))) ∧ ∀ i m H, W i m H →
      (J.stop i H ∧ Qd H) ∨ (J.go i H ∧ ∃ Nx : Hp → Prop, (∀ H', Nx H' → ∃ m', m' < m ∧ W (i + 1) m' H') ∧ ∀ x H', J.yld i H x H' → g x (wipe σ vs) H' fun σ2 H2 => wipe σ2 vs = wipe σ vs ∧ tt σ2 H2 fun b H3 =>
        if b = true then wi1 σ2 H3 fun J1 H4 => ∃ W1 : Nat → Nat → Hp → Prop, (∃ m, W1 0 m H4) ∧ ∀ j k H, W1 j k H →
          (J1.stop j H ∧ Nx H) ∨ (J1.go j H ∧ ∃ Nx1 : Hp → Prop, (∀ H', Nx1 H' → ∃ k', k' < k ∧ W1 (j + 1) k' H') ∧ ∀ x H', J1.yld j H x H' → g1 x (wipe σ2 vs1) H' fun σ3 H5 => wipe σ3 vs1 = wipe σ2 vs1 ∧ tt1 σ3 H5 fun b H6 =>
            if b = true then te σ3 H6 fun y H7 => ∃ acc, H7 D = some (.lst acc) ∧ acc.length < sizeLine ∧ Nx1 (upd H7 D (.lst (acc ++ [y]))) else Nx1 H6) else Nx H3) := by
  refine ⟨fun i m H => m = n - i ∧ i ≤ n ∧ Pv i H, ⟨n, by simp, Nat.zero_le _, h0⟩, ?_⟩
  rintro i m H ⟨rfl, hi, p⟩
  have q := hG i H hi p
  by_cases hlt : i < n
  · exact .inr ⟨w.goes i H hlt q, Pv (i + 1), fun H' p' => ⟨n - (i + 1), by omega, rfl, hlt, p'⟩, fun x H' y => hs i x H H' hlt p (w.yields i H x H' hlt q y)⟩
  · have e : i = n := by omega
    subst e
    exact .inl ⟨w.stops H q, hd H p⟩
/-- the walk within -/
theorem lc1_it {J : It} {n : Nat} {G : Hp → Prop} {Y : Nat → Hp → V → Hp → Prop} (w : Walk J n G Y) {g1 : TG} {tt1 : TT} {te : TE} {vs1 : List Nat} {σ2 : L2.St} {H4 : Hp} {D : Addr} {Qd : Hp → Prop} (Pv : Nat → Hp → Prop) (h0 : Pv 0 H4) (hG : ∀ i H, i ≤ n → Pv i H → G H)
    (hs : ∀ j x H H', j < n → Pv j H → Y j H x H' → g1 x (wipe σ2 vs1) H' fun σ3 H5 => wipe σ3 vs1 = wipe σ2 vs1 ∧ tt1 σ3 H5 fun b H6 =>
      if b = true then te σ3 H6 fun y H7 => ∃ acc, H7 D = some (.lst acc) ∧ acc.length < sizeLine ∧ Pv (j + 1) (upd H7 D (.lst (acc ++ [y]))) else Pv (j + 1) H6) (hd : ∀ H, Pv n H → Qd H) :
    ∃ W1 : Nat → Nat → Hp → Prop, (∃ m, W1 0 m H4) ∧ ∀ j k H, W1 j k H →
      (J.stop j H ∧ Qd H) ∨ (J.go j H ∧ ∃ Nx1 : Hp → Prop, (∀ H', Nx1 H' → ∃ k', k' < k ∧ W1 (j + 1) k' H') ∧ ∀ x H', J.yld j H x H' → g1 x (wipe σ2 vs1) H' fun σ3 H5 => wipe σ3 vs1 = wipe σ2 vs1 ∧ tt1 σ3 H5 fun b H6 =>
        if b = true then te σ3 H6 fun y H7 => ∃ acc, H7 D = some (.lst acc) ∧ acc.length < sizeLine ∧ Nx1 (upd H7 D (.lst (acc ++ [y]))) else Nx1 H6) := by
  refine ⟨fun i m H => m = n - i ∧ i ≤ n ∧ Pv i H, ⟨n, by simp, Nat.zero_le _, h0⟩, ?_⟩
  rintro i m H ⟨rfl, hi, p⟩
  have q := hG i H hi p
  by_cases hlt : i < n
  · exact .inr ⟨w.goes i H hlt q, Pv (i + 1), fun H' p' => ⟨n - (i + 1), by omega, rfl, hlt, p'⟩, fun x H' y => hs i x H H' hlt p (w.yields i H x H' hlt q y)⟩
  · have e : i = n := by omega
    subst e
    exact .inl ⟨w.stops H q, hd H p⟩
/-- without tests -/
theorem lc2_itA {J : It} {n : Nat} {G : Hp → Prop} {Y : Nat → Hp → V → Hp → Prop} (w : Walk J n G Y) {g : TG} {wi1 : TI} {g1 : TG} {te : TE} {vs vs1 : List Nat} {σ : L2.St} {H1 : Hp} {D : Addr} {Qd : Hp → Prop} (Pv : Nat → Hp → Prop) (h0 : Pv 0 (upd H1 D (.lst []))) (hG : ∀ i H, i ≤ n → Pv i H → G H)
    (hs : ∀ i x H H', i < n → Pv i H → Y i H x H' → g x (wipe σ vs) H' fun σ2 H2 => wipe σ2 vs = wipe σ vs ∧
      wi1 σ2 H2 fun J1 H4 => ∃ W1 : Nat → Nat → Hp → Prop, (∃ m, W1 0 m H4) ∧ ∀ j k H, W1 j k H →
        (J1.stop j H ∧ Pv (i + 1) H) ∨ (J1.go j H ∧ ∃ Nx1 : Hp → Prop, (∀ H', Nx1 H' → ∃ k', k' < k ∧ W1 (j + 1) k' H') ∧ ∀ x H', J1.yld j H x H' → g1 x (wipe σ2 vs1) H' fun σ3 H5 => wipe σ3 vs1 = wipe σ2 vs1 ∧ tYes σ3 H5 fun b H6 =>
          if b = true then te σ3 H6 fun y H7 => ∃ acc, H7 D = some (.lst acc) ∧ acc.length < sizeLine ∧ Nx1 (upd H7 D (.lst (acc ++ [y]))) else Nx1 H6)) (hd : ∀ H, Pv n H → Qd H) :
    ∃ W : Nat → Nat → Hp → Prop, (∃ m, W 0 m (upd H1 D (.lst []))) ∧ ∀ i m H, W i m H →
      (J.stop i H ∧ Qd H) ∨ (J.go i H ∧ ∃ Nx : Hp → Prop, (∀ H', Nx H' → ∃ m', m' < m ∧ W (i + 1) m' H') ∧ ∀ x H', J.yld i H x H' → g x (wipe σ vs) H' fun σ2 H2 => wipe σ2 vs = wipe σ vs ∧ tYes σ2 H2 fun b H3 =>
        if b = true then wi1 σ2 H3 fun J1 H4 => ∃ W1 : Nat → Nat → Hp → Prop, (∃ m, W1 0 m H4) ∧ ∀ j k H, W1 j k H →
          (J1.stop j H ∧ Nx H) ∨ (J1.go j H ∧ ∃ Nx1 : Hp → Prop, (∀ H', Nx1 H' → ∃ k', k' < k ∧ W1 (j + 1) k' H') ∧ ∀ x H', J1.yld j H x H' → g1 x (wipe σ2 vs1) H' fun σ3 H5 => wipe σ3 vs1 = wipe σ2 vs1 ∧ tYes σ3 H5 fun b H6 =>
            if b = true then te σ3 H6 fun y H7 => ∃ acc, H7 D = some (.lst acc) ∧ acc.length < sizeLine ∧ Nx1 (upd H7 D (.lst (acc ++ [y]))) else Nx1 H6) else Nx H3) :=
  lc2_it w (tt := tYes) Pv h0 hG hs hd
theorem lc1_itA {J : It} {n : Nat} {G : Hp → Prop} {Y : Nat → Hp → V → Hp → Prop} (w : Walk J n G Y) {g1 : TG} {te : TE} {vs1 : List Nat} {σ2 : L2.St} {H4 : Hp} {D : Addr} {Qd : Hp → Prop} (Pv : Nat → Hp → Prop) (h0 : Pv 0 H4) (hG : ∀ i H, i ≤ n → Pv i H → G H)
    (hs : ∀ j x H H', j < n → Pv j H → Y j H x H' → g1 x (wipe σ2 vs1) H' fun σ3 H5 => wipe σ3 vs1 = wipe σ2 vs1 ∧
      te σ3 H5 fun y H7 => ∃ acc, H7 D = some (.lst acc) ∧ acc.length < sizeLine ∧ Pv (j + 1) (upd H7 D (.lst (acc ++ [y])))) (hd : ∀ H, Pv n H → Qd H) :
    ∃ W1 : Nat → Nat → Hp → Prop, (∃ m, W1 0 m H4) ∧ ∀ j k H, W1 j k H →
      (J.stop j H ∧ Qd H) ∨ (J.go j H ∧ ∃ Nx1 : Hp → Prop, (∀ H', Nx1 H' → ∃ k', k' < k ∧ W1 (j + 1) k' H') ∧ ∀ x H', J.yld j H x H' → g1 x (wipe σ2 vs1) H' fun σ3 H5 => wipe σ3 vs1 = wipe σ2 vs1 ∧ tYes σ3 H5 fun b H6 =>
        if b = true then te σ3 H6 fun y H7 => ∃ acc, H7 D = some (.lst acc) ∧ acc.length < sizeLine ∧ Nx1 (upd H7 D (.lst (acc ++ [y]))) else Nx1 H6) :=
  lc1_it w (tt1 := tYes) Pv h0 hG hs hd
/-- a comprehension without tests over a walk -/
theorem lc_itA {J : It} {n : Nat} {G : Hp → Prop} {Y : Nat → Hp → V → Hp → Prop} (w : Walk J n G Y) {g : TG} {te : TE} {vs : List Nat} {σ : L2.St} {H1 : Hp} {D : Addr} {Qd : Hp → Prop} (Pv : Nat → Hp → Prop) (h0 : Pv 0 (upd H1 D (.lst []))) (hG : ∀ i H, i ≤ n → Pv i H → G H)
    (hs : ∀ i x H H', i < n → Pv i H → Y i H x H' → g x (wipe σ vs) H' fun σ2 H2 => wipe σ2 vs = wipe σ vs ∧
      te σ2 H2 fun y H4 => ∃ acc, H4 D = some (.lst acc) ∧ acc.length < sizeLine ∧ Pv (i + 1) (upd H4 D (.lst (acc ++ [y])))) (hd : ∀ H, Pv n H → Qd H) :
    ∃ W : Nat → Nat → Hp → Prop, (∃ m, W 0 m (upd H1 D (.lst []))) ∧ ∀ i m H, W i m H →
      (J.stop i H ∧ Qd H) ∨ (J.go i H ∧ ∃ Nx : Hp → Prop, (∀ H', Nx H' → ∃ m', m' < m ∧ W (i + 1) m' H') ∧ ∀ x H', J.yld i H x H' → g x (wipe σ vs) H' fun σ2 H2 => wipe σ2 vs = wipe σ vs ∧ tYes σ2 H2 fun b H3 =>
        if b = true then te σ2 H3 fun y H4 => ∃ acc, H4 D = some (.lst acc) ∧ acc.length < sizeLine ∧ Nx (upd H4 D (.lst (acc ++ [y]))) else Nx H3) :=
  lc_it w (tt := tYes) Pv h0 hG hs hd
end BX

set_option Elab.async false
set_option linter.all false
set_option maxRecDepth 100000
set_option maxHeartbeats 4000000
/-! The walk's ground: the text by places, what is asked of the top, what a def promises. -/
namespace B45
open PySem PySem.Spec PyProof.Rows L2 BX
/-! ### the text -/
def topS (i : Nat) : Stmt := PySem.Challenge.pw_burstlimits_k45_whole_gates_one_behind_t.main.body.getD i (.Pass ⟨0, 0, 0, 0⟩)
abbrev sIsInteger : Stmt := topS 14
abbrev sIsBetween : Stmt := topS 15
abbrev sIsPair : Stmt := topS 16
abbrev sIsRow : Stmt := topS 17
abbrev sStretch : Stmt := topS 18
abbrev sArePairs : Stmt := topS 26
abbrev sLimInit : Stmt := inClass (topS 27) 0
abbrev sSingle : Stmt := inClass (topS 27) 2
abbrev sPairs : Stmt := inClass (topS 27) 5
abbrev sLimAdd : Stmt := inClass (topS 27) 11
abbrev sNeedLimits : Stmt := topS 28
abbrev sNeedRow : Stmt := topS 33
abbrev sFirstBroken : Stmt := topS 34
abbrev sVerdict : Stmt := topS 35
abbrev sAllowed : Stmt := topS 37
abbrev sLetThrough : Stmt := topS 38
abbrev sPassed : Stmt := topS 39
abbrev sTicksOf : Stmt := topS 40
abbrev sWaitsOf : Stmt := topS 41
abbrev sWaits : Stmt := topS 42
abbrev sWaiting : Stmt := topS 43
abbrev sCell : Stmt := topS 45
abbrev sPen : Stmt := topS 46
abbrev sDraw : Stmt := topS 47
abbrev sLawPairs : Stmt := topS 48
abbrev sLawLimits : Stmt := topS 49
abbrev sLawRow : Stmt := topS 50
abbrev sBehind : Stmt := topS 51
abbrev sBare : Stmt := topS 52
abbrev sFair : Stmt := topS 53
abbrev sRight : Stmt := topS 54
abbrev sLaw : Stmt := topS 55

/-! ### what the walk asks of the top -/
/-- a def of the module -/
structure GF (K : PySem.W.Frag) (mg : Str → Option Value) (x : Str) (st : Stmt) : Prop where
  ex : ∃ f fd, Fun K x x st f fd ∧ mg x = some (.ref f)
structure Txt (K : PySem.W.Frag) (mg : Str → Option Value) (C : Addr) : Prop where
  cl : Cls K C
  nK : NoAttr K C "kept"
  mgC : mg "Limits" = some (.ref C)
  z_isinstance : mg "isinstance" = none
  z_int : mg "int" = none
  z_bool : mg "bool" = none
  z_tuple : mg "tuple" = none
  z_list : mg "list" = none
  z_len : mg "len" = none
  z_all : mg "all" = none
  z_sum : mg "sum" = none
  z_set : mg "set" = none
  z_range : mg "range" = none
  z_enumerate : mg "enumerate" = none
  z_min : mg "min" = none
  z_max : mg "max" = none
  z_zip : mg "zip" = none
  i_length : ∃ t, mg "MOST_LENGTH" = some (.int 20 t)
  i_number : ∃ t, mg "MOST_NUMBER" = some (.int 20 t)
  i_requests : ∃ t, mg "MOST_REQUESTS" = some (.int 60 t)
  i_limits : ∃ t, mg "MOST_LIMITS" = some (.int 6 t)
  t_kept : ∃ t, mg "KEPT" = some (.str "kept" t)
  t_broken : ∃ t, mg "BROKEN" = some (.str "broken" t)
  g_is_integer : GF K mg "is_integer" sIsInteger
  g_is_between : GF K mg "is_between" sIsBetween
  g_is_pair : GF K mg "is_pair" sIsPair
  g_is_row : GF K mg "is_row" sIsRow
  g_stretch : GF K mg "stretch_sum" sStretch
  g_are_pairs : GF K mg "are_pairs" sArePairs
  g_need_limits : GF K mg "need_limits" sNeedLimits
  g_need_row : GF K mg "need_row" sNeedRow
  g_first_broken : GF K mg "first_broken" sFirstBroken
  g_verdict : GF K mg "verdict" sVerdict
  g_allowed : GF K mg "allowed_now" sAllowed
  g_let_through : GF K mg "let_through" sLetThrough
  g_passed : GF K mg "passed" sPassed
  g_ticks_of : GF K mg "ticks_of" sTicksOf
  g_waits_of : GF K mg "waits_of" sWaitsOf
  g_waits : GF K mg "waits" sWaits
  g_waiting : GF K mg "waiting" sWaiting
  g_cell : GF K mg "_law_cell" sCell
  g_pen : GF K mg "_law_pen" sPen
  g_draw : GF K mg "_law_draw" sDraw
  g_pairs : GF K mg "_law_pairs" sLawPairs
  g_limits : GF K mg "_law_limits" sLawLimits
  g_row : GF K mg "_law_row" sLawRow
  g_behind : GF K mg "_law_behind" sBehind
  g_bare : GF K mg "_law_bare" sBare
  g_fair : GF K mg "_law_fair" sFair
  g_right : GF K mg "_law_right" sRight
  /- the class Limits -/
  isC : PySem.W.kitOne K (.ref C) (.ref C) = some true
  ty : ∀ (H : Hp) (a dx : Addr) (fs : List (Str × V)), H a = some (.ins C dx fs) → TyOf K H (.ref a) (.ref C)
  ini : ∃ f fd, Fun K "__init__" "Limits.__init__" sLimInit f fd ∧ Mk K C f
  sgl : ∃ f fd p mc, Fun K "single" "Limits.single" sSingle f fd ∧ ClX.CRead K C mc ∧ ClX.CMet K C mc "single" p f
  prs : ∃ f fd p, Fun K "pairs" "Limits.pairs" sPairs f fd ∧ PropOf K C "pairs" p f
  add : ∃ f fd, Fun K "__add__" "Limits.__add__" sLimAdd f fd ∧ AddOwn K C f

/-! ### a def's promise, by its name -/
structure D0 (P : Program) (w : World) (K : PySem.W.Frag) (mg : Str → Option Value) (base : Heap) (x : Str) (k : Nat) (sp : Sp) : Prop where
  ex : ∃ f, FnR P w K mg base (L2.CX P w) k f sp ∧ mg x = some (.ref f) ∧ PySem.W.keepIn K (.ref f) = true
section
variable {P : Program} {w : World} {K : PySem.W.Frag} {mg : Str → Option Value} {base : Heap}
/-- the body of a def that lets nothing out -/
theorem okN {x qual : Str} {st : Stmt} {f : Addr} {fd : FuncData} {N ps : List Str} {k : Nat} {sp : Sp} (F : Fun K x qual st f fd) (S : FnScope N ps (defScope st)) (len : ∀ vs H Q E, sp vs H Q E → vs.length = ps.length)
    (hb : ∀ (kV doc pm : Value) (an : Option Addr) (cdv ct : Value) (us : List Value), us.length = ps.length → bindArgs (PySem.W.fnOf x qual (defArgs st) (defBody st) (defScope st) .none kV doc pm an cdv ct) ⟨us, []⟩ = pure (ps.zip us))
    (hbody : ∀ (cdv : Value) (A : Around) (outer : List Env) (s : Shared) (H : Hp) (vs : List V) (Q : VK) (E : XK), Room k (A.deeper (envOfC qual (defScope st) s.heap.objs.size f cdv)) → sp vs H Q E →
      ∃ t, PSs (cxOf (L2.CX P w) P w K mg base N qual (defScope st) f cdv A outer s H E).nox (defBody st) t ∧ t { nx := fun _ H' => Q .non H', rt := Q } (start N vs) H) : FnR P w K mg base (L2.CX P w) (k + 1) f sp := by
  have F2 : FnOk P w K mg base (L2.CX P w) (k + 1) f fd ps sp := F.okX S len fun cdv A outer s H vs Q E hr h => by
    obtain ⟨t, ht, q⟩ := hbody cdv A outer s H vs Q E hr h
    exact ⟨t, ht.nox, q⟩
  have F3 := F2.raw (F.binds hb) .nil
  exact F3.imp fun vs H Q E h => by rw [List.append_nil]; exact h
theorem D0.ofN {x : Str} {st : Stmt} {N ps : List Str} {k : Nat} {sp : Sp} (G : GF K mg x st) (S : FnScope N ps (defScope st)) (len : ∀ vs H Q E, sp vs H Q E → vs.length = ps.length)
    (hb : ∀ (kV doc pm : Value) (an : Option Addr) (cdv ct : Value) (us : List Value), us.length = ps.length → bindArgs (PySem.W.fnOf x x (defArgs st) (defBody st) (defScope st) .none kV doc pm an cdv ct) ⟨us, []⟩ = pure (ps.zip us))
    (hbody : ∀ (f : Addr) (cdv : Value) (A : Around) (outer : List Env) (s : Shared) (H : Hp) (vs : List V) (Q : VK) (E : XK), Room k (A.deeper (envOfC x (defScope st) s.heap.objs.size f cdv)) → sp vs H Q E →
      ∃ t, PSs (cxOf (L2.CX P w) P w K mg base N x (defScope st) f cdv A outer s H E).nox (defBody st) t ∧ t { nx := fun _ H' => Q .non H', rt := Q } (start N vs) H) : D0 P w K mg base x (k + 1) sp := by
  obtain ⟨f, fd, F, hm⟩ := G.ex
  exact ⟨f, okN F S len hb (hbody f), hm, F.kp⟩
theorem D0.mono {x : Str} {j k : Nat} {sp : Sp} (D : D0 P w K mg base x j sp) (h : j ≤ k) : D0 P w K mg base x k sp := by
  obtain ⟨f, F, a, b⟩ := D.ex
  exact ⟨f, F.mono h, a, b⟩
end
/-- a call of such a def -/
def tD (sp : Sp) (t : TA) : TE := fun σ H Q => t σ H fun vs H1 => sp vs H1 Q E0
theorem pe_D {X : Cx} {x : Str} {j k : Nat} {sp : Sp} {e : Expr} {es : List Expr} {t : TA} {p pos : Pos} (D : D0 X.prog X.w X.K X.mg X.base x j sp) (hr : Room k X.A) (hg : Gl X x) (ha : PA X (e :: es) t) (hj : j ≤ k := by decide) (hd : (x == ("__debug__" : Str)) = false := by decide)
    (he : starEach (e :: es) X.env = (false, eval e X.env) :: starEach es X.env := by rfl) (hpl : (backTo pos (starEach es X.env)).any (·.1) = false := by rfl) : PE X (.Call (.Name x p) (e :: es) [] pos) (tD sp t) := by
  refine ⟨fun pins s σ H Q I h => ?_⟩
  obtain ⟨f, F, hm, hk⟩ := D.ex
  refine wpAny_Call_Name_kw (ld_glob I hg hm ?_ hd)
  refine PySem.W.callWith_K (h₀ := X.base) I.ok.mod.kin hk (thn (ha.run pos pins s σ H _ I h) fun us s1 ⟨vs, H1, I1, r, q⟩ => ⟨I1.kIn, ?_⟩) he hpl
  exact wpAny_call (run_fnR F (hr.mono hj) passL I1 r q)

/-- an int, a text of the module -/
theorem pe_gint {X : Cx} {x : Str} {i : Int} {t : Tok} {pos : Pos} (hg : Gl X x) (hm : X.mg x = some (.int i t)) (hd : (x == ("__debug__" : Str)) = false := by decide) : PE X (.Name x pos) (tC (.int i)) := pe_glob hg hm ⟨t, rfl⟩ hd
theorem pe_gstr {X : Cx} {x z : Str} {t : Tok} {pos : Pos} (hg : Gl X x) (hm : X.mg x = some (.str z t)) (hd : (x == ("__debug__" : Str)) = false := by decide) : PE X (.Name x pos) (tC (.str z)) := pe_glob hg hm ⟨t, rfl⟩ hd

theorem units65 {k : Nat} {A : Around} (hr : Room k A) : A.units + 65 < cLine := by have := hr.un; omega

/-! ### what stands in the heap -/
/-- a tuple, a list of ints -/
abbrev TI (K : PySem.W.Frag) (H : Hp) (p : Addr) (xs : List Int) : Prop := SqT K H p (xs.map V.int)
theorem sameT {K : PySem.W.Frag} {H H' : Hp} {p : Addr} {xs : List V} (e : Same H H') (h : SqT K H p xs) : SqT K H' p xs := by
  rcases h with (h | ⟨o, h⟩) | h
  · exact .inl (.inl (e _ _ h))
  · exact .inl (.inr ⟨o, e _ _ h⟩)
  · exact .inr h
theorem sameN {H : Hp} {p : Addr} {o : HO} (h : H p = none) : Same H (upd H p o) := fun b u e => by
  rw [upd_ne (ne_of_none e h)]; exact e
/-- an object that was not there may change -/
theorem sameM {H H' : Hp} {p : Addr} {o : HO} (e : Same H H') (h : H p = none) : Same H (upd H' p o) := fun b u eb => by
  rw [upd_ne (ne_of_none eb h)]; exact e b u eb
/-- the pairs of limits: a tuple of pairs -/
def PairsAt (K : PySem.W.Frag) (H : Hp) (t : Addr) (P : List BM.Pr) : Prop := ∃ as : List Addr, SqT K H t (as.map V.ref) ∧ as.length = P.length ∧ ∀ (i : Nat) (a : Addr) (p : BM.Pr), as[i]? = some a → P[i]? = some p → SqT K H a [V.int p.1, V.int p.2]
theorem PairsAt.same {K : PySem.W.Frag} {H H' : Hp} {t : Addr} {P : List BM.Pr} (e : Same H H') (h : PairsAt K H t P) : PairsAt K H' t P := by
  obtain ⟨as, h1, h2, h3⟩ := h
  exact ⟨as, sameT e h1, h2, fun i a p x y => sameT e (h3 i a p x y)⟩
/-- a Limits -/
def LimAt (K : PySem.W.Frag) (C : Addr) (H : Hp) (x : Addr) (P : List BM.Pr) : Prop := ∃ dx t, H x = some (.ins C dx [("kept", .ref t)]) ∧ PairsAt K H t P
theorem LimAt.same {K : PySem.W.Frag} {C : Addr} {H H' : Hp} {x : Addr} {P : List BM.Pr} (e : Same H H') (h : LimAt K C H x P) : LimAt K C H' x P := by
  obtain ⟨dx, t, h1, h2⟩ := h
  exact ⟨dx, t, e _ _ h1, h2.same e⟩
/-- promises' ends: a value; a tuple of ints -/
abbrev RetV (H : Hp) (Q : VK) (v : V) : Prop := ∀ H', Same H H' → Q v H'
abbrev RetT (K : PySem.W.Frag) (H : Hp) (Q : VK) (xs : List V) : Prop := ∀ p H', Same H H' → SqT K H' p xs → Q (.ref p) H'
abbrev RetL (H : Hp) (Q : VK) (xs : List V) : Prop := ∀ p H', Same H H' → H p = none → H' p = some (.lst xs) → Q (.ref p) H'

/-! ### integers -/
section
variable {P : Program} {w : World} {K : PySem.W.Frag} {mg : Str → Option Value} {base : Heap} {C : Addr}
theorem kit_int_int : PySem.W.kitOne K (.type "int") (.type "int") = some true := kit_ty (by decide +kernel)
theorem kit_int_bool : PySem.W.kitOne K (.type "int") (.type "bool") = some false := kit_ty (by decide +kernel)
theorem kit_tuple : PySem.W.kitOne K (.type "tuple") (.type "tuple") = some true := kit_ty (by decide +kernel)
def sp_is_integer : Sp := fun vs H Q _ => ∃ i : Int, vs = [.int i] ∧ Q (.bl true) H
theorem d_is_integer (T : Txt K mg C) : D0 P w K mg base "is_integer" 1 sp_is_integer := by
  refine D0.ofN (N := ["thing"]) (ps := ["thing"]) T.g_is_integer ⟨rfl, rfl, rfl, by decide +kernel, rfl, by decide +kernel, by decide +kernel⟩ (fun vs H Q E h => ?_) (fun _ _ _ _ _ _ us hl => match us, hl with | [_], _ => rfl) (fun f cdv A outer s H vs Q E hr h => ?_)
  · obtain ⟨i, rfl, _⟩ := h; rfl
  · obtain ⟨i, rfl, q⟩ := h
    refine ⟨_, pss_one (ps_ret (pe_and (pe_callB call_isi (by rfl) T.z_isinstance (by decide +kernel) (pa_cons (pv 0) (pa_cons (pe_bltn (v := .ty "int") (by rfl) T.z_int (by decide +kernel) rfl) pa_nil)))
      (pe_one (pe_not (pe_callB call_isi (by rfl) T.z_isinstance (by decide +kernel) (pa_cons (pv 0) (pa_cons (pe_bltn (v := .ty "bool") (by rfl) T.z_bool (by decide +kernel) rfl) pa_nil))))))), ?_⟩
    refine ⟨_, rfl, .int i, .ty "int", .type "int", .type "int", true, rfl, .ty _, .base (.int i), kit_int_int, true, rfl, ?_⟩
    rw [if_pos rfl]
    exact ⟨_, rfl, .int i, .ty "bool", .type "int", .type "bool", false, rfl, .ty _, .base (.int i), kit_int_bool, false, rfl, q⟩
def sp_is_between : Sp := fun vs H Q _ => ∃ i l m : Int, vs = [.int i, .int l, .int m] ∧ Q (.bl (decide (l ≤ i) && decide (i ≤ m))) H
theorem d_is_between (T : Txt K mg C) : D0 P w K mg base "is_between" 2 sp_is_between := by
  refine D0.ofN (N := ["thing", "least", "most"]) (ps := ["thing", "least", "most"]) T.g_is_between ⟨rfl, rfl, rfl, by decide +kernel, rfl, by decide +kernel, by decide +kernel⟩ (fun vs H Q E h => ?_) (fun _ _ _ _ _ _ us hl => match us, hl with | [_, _, _], _ => rfl) (fun f cdv A outer s H vs Q E hr h => ?_)
  · obtain ⟨i, l, m, rfl, _⟩ := h; rfl
  · obtain ⟨i, l, m, rfl, q⟩ := h
    refine ⟨_, pss_one (ps_ret (pe_and (pe_D (d_is_integer T) hr (by rfl) (pa_cons (pv 0) pa_nil)) (pe_one (pe_chain op_le op_le (pv 1) (pv 0) (pv 2))))), ?_⟩
    refine ⟨_, rfl, i, rfl, true, rfl, ?_⟩
    rw [if_pos rfl]
    refine ⟨_, rfl, _, rfl, l, i, rfl, rfl, _, rfl, ?_⟩
    by_cases hli : l ≤ i
    · rw [decide_eq_true hli] at q ⊢
      rw [if_pos rfl]
      exact ⟨_, rfl, i, m, rfl, rfl, q⟩
    · rw [decide_eq_false hli] at q ⊢
      rw [if_neg Bool.false_ne_true]
      exact q
end
end B45

set_option Elab.async false
set_option linter.all false
set_option maxRecDepth 100000
set_option maxHeartbeats 4000000
/-! values.py, and what refuses. -/
namespace B45
open PySem PySem.Spec PyProof.Rows L2 BX BM
section
variable {P : Program} {w : World} {K : PySem.W.Frag} {mg : Str → Option Value} {base : Heap} {C : Addr}
theorem btw {i l m : Int} (h1 : l ≤ i) (h2 : i ≤ m) : (decide (l ≤ i) && decide (i ≤ m)) = true := by
  rw [decide_eq_true h1, decide_eq_true h2]; rfl
/-- a limit -/
def sp_isPair (K : PySem.W.Frag) : Sp := fun vs H Q _ => ∃ (a : Addr) (p : Pr), vs = [.ref a] ∧ SqT K H a [V.int p.1, V.int p.2] ∧ (1 ≤ p.1 ∧ p.1 ≤ 20 ∧ 1 ≤ p.2 ∧ p.2 ≤ 20) ∧ Q (.bl true) H
theorem d_is_pair (T : Txt K mg C) : D0 P w K mg base "is_pair" 3 (sp_isPair K) := by
  refine D0.ofN (N := ["thing"]) (ps := ["thing"]) T.g_is_pair ⟨rfl, rfl, rfl, by decide +kernel, rfl, by decide +kernel, by decide +kernel⟩ (fun vs H Q E h => ?_) (fun _ _ _ _ _ _ us hl => match us, hl with | [_], _ => rfl) (fun f cdv A outer s H vs Q E hr h => ?_)
  · obtain ⟨a, p, rfl, _⟩ := h; rfl
  · obtain ⟨a, p, rfl, hT, hp, q⟩ := h
    obtain ⟨t1, m1⟩ := T.i_length
    obtain ⟨t2, m2⟩ := T.i_number
    refine ⟨_, pss_cons (ps_if (PW.pt (pw_or (pt_not (pt_val (pe_callB call_isi (by rfl) T.z_isinstance (by decide +kernel) (pa_cons (pv 0) (pa_cons (pe_bltn (v := .ty "tuple") (by rfl) T.z_tuple (by decide +kernel) rfl) pa_nil)))))
        (pw_or1 (pt_cmpR op_ne (pe_callB call_len_seq (by rfl) T.z_len PySem.boot_len (pa_cons (pv 0) pa_nil)) pe_int (nomark _))))) (pss_one (ps_ret pe_bl)) pss_nil)
      (pss_one (ps_ret (pe_and (pe_D (d_is_between T) hr (by rfl) (pa_cons (pe_ix ix_tup (pv 0) pe_int (fun _ _ => rfl)) (pa_cons pe_int (pa_cons (pe_gint (by rfl) m1) pa_nil))))
        (pe_one (pe_D (d_is_between T) hr (by rfl) (pa_cons (pe_ix ix_tup (pv 0) pe_int (fun _ _ => rfl)) (pa_cons pe_int (pa_cons (pe_gint (by rfl) m2) pa_nil)))))))), ?_⟩
    refine ⟨_, rfl, .ref a, .ty "tuple", .type "tuple", .type "tuple", true, rfl, .ty _, tyx_tup hT, kit_tuple, true, rfl, ?_⟩
    refine iteF ?_
    refine ⟨_, rfl, a, _, rfl, .inr hT, rfl, _, rfl, ?_⟩
    refine iteNS rfl ?_
    refine ⟨_, rfl, a, _, 0, _, rfl, rfl, hT, atI_nat (j := 0) rfl, p.1, 1, 20, rfl, ?_⟩
    rw [btw hp.1 hp.2.1]
    refine ⟨true, rfl, iteT ?_⟩
    refine ⟨_, rfl, a, _, 1, _, rfl, rfl, hT, atI_nat (j := 1) rfl, p.2, 1, 20, rfl, ?_⟩
    rw [btw hp.2.2.1 hp.2.2.2]
    exact q
/-- a row -/
def sp_isRow (K : PySem.W.Frag) : Sp := fun vs H Q _ => ∃ (a : Addr) (xs : List Int), vs = [.ref a] ∧ TI K H a xs ∧ RowOk xs ∧ xs.length ≤ 100000 ∧ RetV H Q (.bl true)
theorem d_is_row (T : Txt K mg C) : D0 P w K mg base "is_row" 3 (sp_isRow K) := by
  have nd : (["thing", "one"] : List Str).Nodup := by decide +kernel
  refine D0.ofN (N := ["thing", "one"]) (ps := ["thing"]) T.g_is_row ⟨rfl, rfl, rfl, nd, rfl, by decide +kernel, by decide +kernel⟩ (fun vs H Q E h => ?_) (fun _ _ _ _ _ _ us hl => match us, hl with | [_], _ => rfl) (fun f cdv A outer s H vs Q E hr h => ?_)
  · obtain ⟨a, p, rfl, _⟩ := h; rfl
  · obtain ⟨a, xs, rfl, hT, hx, hz, q⟩ := h
    obtain ⟨t3, m3⟩ := T.i_requests
    refine ⟨_, pss_cons (ps_if (PW.pt (pw_or (pt_not (pt_val (pe_callB call_isi (by rfl) T.z_isinstance (by decide +kernel) (pa_cons (pv 0) (pa_cons (pe_bltn (v := .ty "tuple") (by rfl) T.z_tuple (by decide +kernel) rfl) pa_nil)))))
        (pw_or1 (pt_not (pt_val (pe_callB (cr_all rfl) (by rfl) T.z_all (by decide +kernel) (pa_cons (pe_lc (own := [("one", 1)]) (g := gName 1) (by rfl) nd (pi_tup (pv 0)) (blkOk_by (own := [("one", 1)]) (N := ["thing", "one"]) (sc := defScope sIsRow) (by decide +kernel)) (fun _ _ _ _ _ => pg_name (i := 1) nd rfl (Or.inl rfl)) (fun _ _ _ _ _ => pts_nil)
          (fun _ _ _ _ _ => pe_D (d_is_between T) hr (by rfl) (pa_cons (pv 1) (pa_cons pe_int (pa_cons (pe_gint (by rfl) m3) pa_nil))))) pa_nil))))))) (pss_one (ps_ret pe_bl)) pss_nil)
      (pss_one (ps_ret (pe_cmpR op_le (pe_callB (cr_sumT rfl) (by rfl) T.z_sum (by decide +kernel) (pa_cons (pv 0) pa_nil)) (pe_gint (by rfl) m3) (nomark _)))), ?_⟩
    refine ⟨_, rfl, .ref a, .ty "tuple", .type "tuple", .type "tuple", true, rfl, .ty _, tyx_tup hT, kit_tuple, true, rfl, ?_⟩
    refine iteF ?_
    refine ⟨_, rfl, a, rfl, ⟨_, hT⟩, fun D hD => ?_⟩
    refine lc_pureA walk_tup (fun _ => .bl true) hD (by rw [List.length_map]; exact hz) (fun H' s' => sameT s' hT) (fun i x H' H2 k hi s1 y hk => ?_) (fun H' s' hl => ?_)
    · obtain ⟨rfl, hy⟩ := y
      rw [List.getElem?_map] at hy
      cases e : xs[i]? with
      | none => rw [e] at hy; cases hy
      | some z =>
        rw [e] at hy
        obtain rfl : V.int z = x := Option.some.inj hy
        refine hk _ _ (Same.refl _) rfl fun H3 Q' s3 hq => ?_
        refine ⟨_, rfl, z, 0, 60, rfl, ?_⟩
        have hz0 := hx.1 z (List.mem_of_getElem? e)
        have hz1 := mem_le_sum hx.1 z (List.mem_of_getElem? e)
        rw [btw hz0 (by have := hx.2; omega)]
        exact hq _ s3
    · refine ⟨D, (List.range (xs.map V.int).length).map fun _ => true, rfl, .inl (.inl (by rw [hl, List.map_map]; rfl)), ?_⟩
      have : ((List.range (xs.map V.int).length).map fun _ => true).all id = true := by
        rw [List.all_eq_true]; intro b hb; obtain ⟨_, _, rfl⟩ := List.mem_map.mp hb; rfl
      rw [this]
      refine ⟨true, rfl, iteF ?_⟩
      refine ⟨_, rfl, a, xs, rfl, sameT s' hT, xs.sum, 60, rfl, rfl, ?_⟩
      show Q (.bl (decide (xs.sum ≤ 60))) H'
      rw [decide_eq_true hx.2]
      exact q _ s'
/-- a stretch's sum -/
def sp_stretch (K : PySem.W.Frag) : Sp := fun vs H Q _ => ∃ (a : Addr) (xs : List Int) (s L : Nat), vs = [.ref a, .int s, .int L] ∧ TI K H a xs ∧ xs.length ≤ 100000 ∧ RetV H Q (.int ((xs.drop s).take L).sum)
theorem d_stretch (T : Txt K mg C) : D0 P w K mg base "stretch_sum" 1 (sp_stretch K) := by
  refine D0.ofN (N := ["row", "start", "length"]) (ps := ["row", "start", "length"]) T.g_stretch ⟨rfl, rfl, rfl, by decide +kernel, rfl, by decide +kernel, by decide +kernel⟩ (fun vs H Q E h => ?_) (fun _ _ _ _ _ _ us hl => match us, hl with | [_, _, _], _ => rfl) (fun f cdv A outer s H vs Q E hr h => ?_)
  · obtain ⟨a, xs, s, L, rfl, _⟩ := h; rfl
  · obtain ⟨a, xs, s, L, rfl, hT, hz, q⟩ := h
    refine ⟨_, pss_one (ps_ret (pe_callB (cr_sumT rfl) (by rfl) T.z_sum (by decide +kernel) (pa_cons (pe_slice sl_tupA (pv 0) (po_some (pv 1)) (po_some (pe_op op_add (pv 1) (pv 2)))) pa_nil))), ?_⟩
    refine ⟨.ref a, rfl, .int s, rfl, (s : Int), rfl, .int s, rfl, .int L, rfl, (s : Int), (L : Int), rfl, rfl, (s : Int) + (L : Int), rfl, ?_⟩
    refine slA_to hT fun p H' s' hp => ?_
    rw [show (s : Int) + (L : Int) = ((s + L : Nat) : Int) by omega, cutV_nn, Nat.add_sub_cancel_left, ← List.map_drop, ← List.map_take] at hp
    exact ⟨p, _, rfl, hp, q _ s'⟩
end
end B45

set_option Elab.async false
set_option linter.all false
set_option maxRecDepth 100000
set_option maxHeartbeats 4000000
/-! The class Limits. -/
namespace B45
open PySem PySem.Spec PyProof.Rows L2 BX BM
/-- limits that may be made -/
structure LimOk (P : List Pr) : Prop where
  g : Good P
  nd : P.Nodup
  few : P.length ≤ 6
def bothP (P Q : List Pr) : List Pr := P ++ Q.filter fun q => !decide (q ∈ P)
theorem mem_both {P Q : List Pr} (p : Pr) : p ∈ bothP P Q ↔ p ∈ P ∨ p ∈ Q := by
  unfold bothP
  rw [List.mem_append, List.mem_filter]
  constructor
  · rintro (h | h)
    · exact .inl h
    · exact .inr h.1
  · rintro (h | h)
    · exact .inl h
    · by_cases hp : p ∈ P
      · exact .inl hp
      · exact .inr ⟨h, by rw [decide_eq_false hp]; rfl⟩
theorem both_len (P Q : List Pr) : (bothP P Q).length ≤ P.length + Q.length := by
  unfold bothP
  rw [List.length_append]
  have := List.length_filter_le (fun q => !decide (q ∈ P)) Q
  omega
theorem both_ok {P Q : List Pr} (hP : LimOk P) (hQ : LimOk Q) (h : P.length + Q.length ≤ 6) : LimOk (bothP P Q) := by
  refine ⟨⟨fun p hp => ?_, fun e => hP.g.ne ?_⟩, ?_, Nat.le_trans (both_len P Q) h⟩
  · rcases (mem_both p).mp hp with z | z
    · exact hP.g.g p z
    · exact hQ.g.g p z
  · exact (List.append_eq_nil_iff.mp e).1
  · refine List.nodup_append.mpr ⟨hP.nd, hQ.nd.filter _, fun a ha b hb e => ?_⟩
    subst e
    have := (List.mem_filter.mp hb).2
    rw [decide_eq_true ha] at this
    cases this
theorem range_getD {α : Type} (l : List α) (d : α) : (List.range l.length).map (fun i => l.getD i d) = l := by
  refine List.ext_getElem? fun i => ?_
  rw [List.getElem?_map]
  by_cases h : i < l.length
  · rw [List.getElem?_range h, List.getElem?_eq_getElem h]
    simp [h]
  · rw [List.getElem?_eq_none (by simpa using h), List.getElem?_eq_none (by omega)]
    rfl
theorem filter_range {α : Type} (l : List α) (d : α) (p : α → Bool) : l.filter p = ((List.range l.length).filter fun i => p (l.getD i d)).map fun i => l.getD i d := by
  have h := range_getD l d
  conv => lhs; rw [← h]
  rw [List.filter_map]; rfl
section
variable {P : Program} {w : World} {K : PySem.W.Frag} {mg : Str → Option Value} {base : Heap} {C : Addr}
theorem pairs_of {H : Hp} {t : Addr} {as : List Addr} {PP : List Pr} (h1 : SqT K H t (as.map V.ref)) (h2 : as.length = PP.length) (h3 : ∀ (i : Nat) (a : Addr) (p : Pr), as[i]? = some a → PP[i]? = some p → SqT K H a [V.int p.1, V.int p.2]) : PairsAt K H t PP := ⟨as, h1, h2, h3⟩
/-- are_pairs -/
def sp_are_pairs (K : PySem.W.Frag) : Sp := fun vs H Q _ => ∃ (t : Addr) (PP : List Pr), vs = [.ref t] ∧ PairsAt K H t PP ∧ LimOk PP ∧ RetV H Q (.bl true)
theorem d_are_pairs (T : Txt K mg C) : D0 P w K mg base "are_pairs" 4 (sp_are_pairs K) := by
  have nd : (["things", "thing"] : List Str).Nodup := by decide +kernel
  refine D0.ofN (N := ["things", "thing"]) (ps := ["things"]) T.g_are_pairs ⟨rfl, rfl, rfl, nd, rfl, by decide +kernel, by decide +kernel⟩ (fun vs H Q E h => ?_) (fun _ _ _ _ _ _ us hl => match us, hl with | [_], _ => rfl) (fun f cdv A outer s H vs Q E hr h => ?_)
  · obtain ⟨t, PP, rfl, _⟩ := h; rfl
  · obtain ⟨t, PP, rfl, hP, ok, q⟩ := h
    obtain ⟨as, h1, h2, h3⟩ := id hP
    have hlen : (as.map V.ref).length = PP.length := by rw [List.length_map]; exact h2
    have hpos : 0 < PP.length := List.length_pos_iff.mpr ok.g.ne
    refine ⟨_, pss_one (ps_ret (pe_and (pe_cmpR op_gt (pe_callB call_len_seq (by rfl) T.z_len PySem.boot_len (pa_cons (pv 0) pa_nil)) pe_int (nomark _))
      (pe_and (pe_callB (cr_all rfl) (by rfl) T.z_all (by decide +kernel) (pa_cons (pe_lc (own := [("thing", 1)]) (g := gName 1) (by rfl) nd (pi_tup (pv 0)) (blkOk_by (own := [("thing", 1)]) (N := ["things", "thing"]) (sc := defScope sArePairs) (by decide +kernel)) (fun _ _ _ _ _ => pg_name (i := 1) nd rfl (Or.inl rfl)) (fun _ _ _ _ _ => pts_nil)
          (fun _ _ _ _ _ => pe_D (d_is_pair T) hr (by rfl) (pa_cons (pv 1) pa_nil))) pa_nil))
        (pe_one (pe_cmpR op_eq (pe_lenSetT rfl hr.units (by rfl) T.z_len (by rfl) T.z_set (pv 0)) (pe_callB call_len_seq (by rfl) T.z_len PySem.boot_len (pa_cons (pv 0) pa_nil)) (nomark _)))))), ?_⟩
    refine ⟨.ref t, rfl, t, _, rfl, .inr h1, _, _, rfl, rfl, _, rfl, ?_⟩
    rw [decide_eq_true (show (0 : Int) < ((as.map V.ref).length : Int) by rw [hlen]; omega)]
    refine iteT ?_
    refine ⟨_, rfl, t, rfl, ⟨_, h1⟩, fun D hD => ?_⟩
    refine lc_pureA walk_tup (fun _ => .bl true) hD (by rw [hlen]; have := ok.few; omega) (fun H' s' => sameT s' h1) (fun i x H' H2 k hi s1 y hk => ?_) (fun H' s' hl => ?_)
    · obtain ⟨rfl, hy⟩ := y
      have hi2 : i < PP.length := by rw [← hlen]; exact hi
      rw [List.getElem?_map] at hy
      cases e : as[i]? with
      | none => rw [e] at hy; cases hy
      | some z =>
        rw [e] at hy
        obtain rfl : V.ref z = x := Option.some.inj hy
        refine hk _ _ (Same.refl _) rfl fun H3 Q' s3 hq => ?_
        exact ⟨_, rfl, z, PP[i], rfl, sameT (s1.trans s3) (h3 i z PP[i] e (List.getElem?_eq_getElem hi2)), ok.g.g _ (List.getElem_mem hi2), hq _ s3⟩
    · refine ⟨D, (List.range (as.map V.ref).length).map fun _ => true, rfl, .inl (.inl (by rw [hl, List.map_map]; rfl)), ?_⟩
      have : ((List.range (as.map V.ref).length).map fun _ => true).all id = true := by
        rw [List.all_eq_true]; intro b hb; obtain ⟨_, _, rfl⟩ := List.mem_map.mp hb; rfl
      rw [this]
      refine ⟨true, rfl, iteT ?_⟩
      have hz1 : (as.zip (PP.map fun p => [p.1, p.2])).map (fun p => V.ref p.1) = as.map V.ref := by
        have : (as.zip (PP.map fun p => [p.1, p.2])).map Prod.fst = as := List.map_fst_zip (by rw [List.length_map]; omega)
        conv => rhs; rw [← this]
        rw [List.map_map]; rfl
      have hz2 : (as.zip (PP.map fun p => [p.1, p.2])).map (·.2) = PP.map fun p => [p.1, p.2] := List.map_snd_zip (by rw [List.length_map]; omega)
      have hz3 : (as.zip (PP.map fun p => [p.1, p.2])).length = PP.length := by rw [List.length_zip, List.length_map]; omega
      refine ⟨_, rfl, t, as.zip (PP.map fun p => [p.1, p.2]), rfl, by rw [hz1]; exact sameT s' h1, fun p hp => ?_, by rw [hz3]; have := ok.few; omega, ?_, ?_⟩
      · obtain ⟨i, hi⟩ := List.mem_iff_getElem?.mp hp
        rw [List.getElem?_zip_eq_some, List.getElem?_map] at hi
        obtain ⟨ha, hb⟩ := hi
        cases e : PP[i]? with
        | none => rw [e] at hb; cases hb
        | some pr =>
          rw [e] at hb
          have e2 : [pr.1, pr.2] = p.2 := Option.some.inj hb
          rw [← e2]
          exact sameT s' (h3 i p.1 pr ha e)
      · rw [hz2]
        refine List.pairwise_map.mpr (ok.nd.imp fun {a b} hne e => hne ?_)
        exact Prod.ext (List.cons.inj e).1 (List.cons.inj (List.cons.inj e).2).1
      · refine ⟨_, rfl, t, _, rfl, .inr (sameT s' h1), rfl, ?_⟩
        rw [hz3, hlen, decide_eq_true rfl]
        exact q _ s'
/-- Limits.__init__, the pairs handed in a tuple -/
def sp_init0 (K : PySem.W.Frag) (C : Addr) : Sp := fun vs H Q _ => ∃ (x t dx : Addr) (PP : List Pr), vs = [.ref x, .ref t] ∧ H x = some (.ins C dx []) ∧ PairsAt K H t PP ∧ LimOk PP ∧ ∀ H1, Same H H1 → Q .non (upd H1 x (.ins C dx [("kept", .ref t)]))
/-- .. one by one -/
def sp_init (K : PySem.W.Frag) (C : Addr) : Sp := fun vs H Q _ => ∃ (x dx : Addr) (as : List Addr) (PP : List Pr), vs = .ref x :: as.map V.ref ∧ H x = some (.ins C dx []) ∧ as.length = PP.length ∧ (∀ (i : Nat) (a : Addr) (p : Pr), as[i]? = some a → PP[i]? = some p → SqT K H a [V.int p.1, V.int p.2]) ∧ LimOk PP ∧
  ∀ t H2, (∀ b o, H b = some o → b ≠ x → H2 b = some o) → H2 x = some (.ins C dx [("kept", .ref t)]) → PairsAt K H2 t PP → Q .non H2
theorem f_init (T : Txt K mg C) {f : Addr} {fd : FuncData} (F : Fun K "__init__" "Limits.__init__" sLimInit f fd) : FnR P w K mg base (L2.CX P w) 5 f (sp_init K C) := by
  obtain ⟨oc, od, kV, doc, pm, an, cdv, ct, osl, rfl, lk, hcd⟩ := F.ex
  have nd : (["self", "pairs"] : List Str).Nodup := by decide +kernel
  obtain ⟨t6, m6⟩ := T.i_limits
  have S : FnScope ["self", "pairs"] ((["self"] : List Str) ++ (["pairs"] : List Str)) (defScope sLimInit) := ⟨rfl, rfl, rfl, nd, rfl, by decide +kernel, by decide +kernel⟩
  have z := StX.fn_star (P := P) (w := w) (mg := mg) (base := base) (CX := L2.CX P w) (k := 4) (sp := sp_init0 K C) (pv := "pairs") (ps := ["self"]) lk hcd S StX.cxUp (StX.bind_star1 (B := fun us => bindArgs (PySem.W.fnOf "__init__" "Limits.__init__" (defArgs sLimInit) (defBody sLimInit) (defScope sLimInit) .none kV doc pm an cdv ct) ⟨us, []⟩) (p1 := "self") (pv := "pairs") (fun a => rfl) (fun a r rs => rfl)) (fun A outer s H vs Q E hr h => by
    obtain ⟨x, t, dx, PP, rfl, hx, hP, ok, q⟩ := h
    obtain ⟨as, h1, h2, h3⟩ := id hP
    have hlen : (as.map V.ref).length = PP.length := by rw [List.length_map]; exact h2
    refine ⟨_, PSs.nox (pss_cons (ps_if (pt_not (pt_val (pe_D (d_are_pairs T) hr (by rfl) (pa_cons (pv 1) pa_nil)))) (pss_one ps_never) pss_nil)
      (pss_cons (ps_if (pt_cmpR op_gt (pe_callB call_len_seq (by rfl) T.z_len PySem.boot_len (pa_cons (pv 1) pa_nil)) (pe_gint (by rfl) m6) (nomark _)) (pss_one ps_never) pss_nil)
      (pss_one (ps_fld (pv 0) (pv 1) rfl)))), ?_⟩
    refine ⟨_, rfl, t, PP, rfl, hP, ok, fun H1 s1 => ⟨true, rfl, iteF ?_⟩⟩
    refine ⟨.ref t, rfl, t, _, rfl, .inr (sameT s1 h1), _, _, rfl, rfl, _, rfl, ?_⟩
    rw [decide_eq_false (show ¬ (6 : Int) < ((as.map V.ref).length : Int) by rw [hlen]; have := ok.few; omega)]
    refine iteF ?_
    exact ⟨.ref t, rfl, .ref x, rfl, x, C, dx, [], rfl, s1 _ _ hx, T.cl, T.nK, by decide, q H1 s1⟩)
  refine z.imp fun vs H Q E h => ?_
  obtain ⟨x, dx, as, PP, rfl, hx, h2, h3, ok, q⟩ := h
  refine ⟨[.ref x], as.map V.ref, rfl, rfl, ?_, fun p hp => ?_⟩
  · rw [List.length_map, h2, sizeLine_eq]; have := ok.few; omega
  · have s0 : Same H (upd H p (.tup (as.map V.ref))) := sameW hp
    refine ⟨x, p, dx, PP, rfl, s0 _ _ hx, ⟨as, .inl (.inl upd_same), h2, fun i a pr e1 e2 => sameT s0 (h3 i a pr e1 e2)⟩, ok, fun H1 s1 => ?_⟩
    have npx : p ≠ x := (ne_of_none hx hp).symm
    have s2 : ∀ b o, H b = some o → b ≠ x → (upd H1 x (.ins C dx [("kept", .ref p)])) b = some o := fun b o e hb => by
      rw [upd_ne hb]; exact s1 _ _ (s0 _ _ e)
    have hxi : ∀ xs : List V, H x ≠ some (.tup xs) := fun xs e => by rw [hx] at e; cases e
    have hxf : ∀ o u, H x ≠ some (.frz o u) := fun o u e => by rw [hx] at e; cases e
    refine q p _ s2 upd_same ⟨as, .inl (.inl ?_), h2, fun i a pr e1 e2 => ?_⟩
    · rw [upd_ne npx]; exact s1 _ _ upd_same
    · rcases h3 i a pr e1 e2 with (z | ⟨o, z⟩) | z
      · exact .inl (.inl (s2 _ _ z fun e => by subst e; exact hxi _ z))
      · exact .inl (.inr ⟨o, s2 _ _ z fun e => by subst e; exact hxf _ _ z⟩)
      · exact .inr z
/-- what a new instance's making leaves -/
theorem made_lim {H H2 : Hp} {x dx t : Addr} {PP : List Pr} (nx : H x = none) (ndx : H dx = none) (s2 : ∀ b o, (upd (upd H dx (.own x)) x (.ins C dx [])) b = some o → b ≠ x → H2 b = some o) : Same H H2 := fun b o e =>
  s2 b o (by rw [upd_ne (ne_of_none e nx), upd_ne (ne_of_none e ndx)]; exact e) (ne_of_none e nx)
/-- Limits.single -/
def sp_single (K : PySem.W.Frag) (C : Addr) : Sp := fun vs H Q _ => ∃ (l m : Int), vs = [.ref C, .int l, .int m] ∧ LimOk [(l, m)] ∧ ∀ x H', Same H H' → LimAt K C H' x [(l, m)] → Q (.ref x) H'
theorem f_single (T : Txt K mg C) {f : Addr} {fd : FuncData} (F : Fun K "single" "Limits.single" sSingle f fd) : FnR P w K mg base (L2.CX P w) 7 f (sp_single K C) := by
  obtain ⟨fi, fdi, FI, M⟩ := T.ini
  refine okN (N := ["cls", "length", "most"]) (ps := ["cls", "length", "most"]) F ⟨rfl, rfl, rfl, by decide +kernel, rfl, by decide +kernel, by decide +kernel⟩ (fun vs H Q E h => ?_) (fun _ _ _ _ _ _ us hl => match us, hl with | [_, _, _], _ => rfl) (fun cdv A outer s H vs Q E hr h => ?_)
  · obtain ⟨l, m, rfl, _⟩ := h; rfl
  · obtain ⟨l, m, rfl, ok, q⟩ := h
    refine ⟨_, pss_one (ps_ret (pe_makeL M (f_init T FI) hr (i := 0) rfl (.inl rfl) passL (pa_cons (pe_tup (pa_cons (pv 1) (pa_cons (pv 2) pa_nil))) pa_nil))), ?_⟩
    refine ⟨rfl, .int l, rfl, .int m, rfl, (by show 2 ≤ sizeLine; decide), fun a ha => ?_⟩
    intro x dx nx ndx nex
    have sa : Same H (upd H a (.tup [.int l, .int m])) := sameW ha
    have nax : a ≠ x := fun e => by rw [e, upd_same] at nx; cases nx
    have nad : a ≠ dx := fun e => by rw [e, upd_same] at ndx; cases ndx
    refine ⟨x, dx, [a], [(l, m)], rfl, upd_same, rfl, fun i b p e1 e2 => ?_, ok, fun t H2 s2 hx hp => ⟨rfl, ?_⟩⟩
    · cases i with
      | zero =>
        obtain rfl : a = b := Option.some.inj e1
        obtain rfl : (l, m) = p := Option.some.inj e2
        exact .inl (.inl (by rw [upd_ne nax, upd_ne nad, upd_same]))
      | succ i => cases e1
    · exact q x H2 (sa.trans (made_lim (PP := []) (t := t) nx ndx s2)) ⟨dx, t, hx, hp⟩
/-- need_limits -/
def sp_need_limits (K : PySem.W.Frag) (C : Addr) : Sp := fun vs H Q _ => ∃ (x : Addr) (PP : List Pr), vs = [.ref x] ∧ LimAt K C H x PP ∧ Q .non H
theorem d_need_limits (T : Txt K mg C) : D0 P w K mg base "need_limits" 1 (sp_need_limits K C) := by
  refine D0.ofN (N := ["thing"]) (ps := ["thing"]) T.g_need_limits ⟨rfl, rfl, rfl, by decide +kernel, rfl, by decide +kernel, by decide +kernel⟩ (fun vs H Q E h => ?_) (fun _ _ _ _ _ _ us hl => match us, hl with | [_], _ => rfl) (fun f cdv A outer s H vs Q E hr h => ?_)
  · obtain ⟨i, PP, rfl, _⟩ := h; rfl
  · obtain ⟨x, PP, rfl, hL, q⟩ := h
    obtain ⟨dx, t, hx, hp⟩ := hL
    refine ⟨_, pss_one (ps_if (pt_not (pt_val (pe_callB call_isi (by rfl) T.z_isinstance (by decide +kernel) (pa_cons (pv 0) (pa_cons (pe_glob (v := .ref C) (by rfl) T.mgC rfl) pa_nil))))) (pss_one ps_never) pss_nil), ?_⟩
    exact ⟨_, rfl, .ref x, .ref C, .ref C, .ref C, true, rfl, .own C, .base (T.ty _ _ _ _ hx), T.isC, true, rfl, iteF q⟩
/-- need_row -/
def sp_need_row (K : PySem.W.Frag) : Sp := fun vs H Q _ => ∃ (a : Addr) (xs : List Int), vs = [.ref a] ∧ TI K H a xs ∧ RowOk xs ∧ xs.length ≤ 100000 ∧ RetV H Q .non
theorem d_need_row (T : Txt K mg C) : D0 P w K mg base "need_row" 4 (sp_need_row K) := by
  refine D0.ofN (N := ["thing"]) (ps := ["thing"]) T.g_need_row ⟨rfl, rfl, rfl, by decide +kernel, rfl, by decide +kernel, by decide +kernel⟩ (fun vs H Q E h => ?_) (fun _ _ _ _ _ _ us hl => match us, hl with | [_], _ => rfl) (fun f cdv A outer s H vs Q E hr h => ?_)
  · obtain ⟨i, PP, rfl, _⟩ := h; rfl
  · obtain ⟨a, xs, rfl, hT, hx, hz, q⟩ := h
    refine ⟨_, pss_one (ps_if (pt_not (pt_val (pe_D (d_is_row T) hr (by rfl) (pa_cons (pv 0) pa_nil)))) (pss_one ps_never) pss_nil), ?_⟩
    exact ⟨_, rfl, a, xs, rfl, hT, hx, hz, fun H' s' => ⟨true, rfl, iteF (q _ s')⟩⟩
end
end B45

set_option Elab.async false
set_option linter.all false
set_option maxRecDepth 100000
set_option maxHeartbeats 4000000
/-! one + other. -/
namespace B45
open PySem PySem.Spec PyProof.Rows L2 BX BM
section
variable {P : Program} {w : World} {K : PySem.W.Frag} {mg : Str → Option Value} {base : Heap} {C : Addr}
theorem kept_look (v : V) : ([(("kept" : Str), v)] : List (Str × V)).lookup ("kept" : Str) = some v := by
  simp [List.lookup]
/-- the property pairs -/
theorem f_pairs (T : Txt K mg C) {f : Addr} {fd : FuncData} (F : Fun K "pairs" "Limits.pairs" sPairs f fd) : FnOk P w K mg base (L2.CX P w) 1 f fd ["self"] (getSp C "kept") ∧ Binds K fd ["self"] [] := by
  refine ⟨?_, F.binds (ps := ["self"]) fun _ _ _ _ _ _ us hl => match us, hl with | [_], _ => rfl⟩
  obtain ⟨oc, od, kV, doc, pm, an, cdv, ct, osl, rfl, lk, hcd⟩ := F.ex
  exact fn_getter lk hcd (N := ["self"]) ⟨rfl, rfl, rfl, by decide +kernel, rfl, by decide +kernel, by decide +kernel⟩ rfl rfl T.cl T.nK
/-- a property's name of a Limits -/
theorem pe_pairs {X : Cx} {e : Expr} {ta : TE} {pos : Pos} {k : Nat} {f p : Addr} {fd : FuncData} (T : Txt X.K X.mg C) (F : Fun X.K "pairs" "Limits.pairs" sPairs f fd) (hp : PropOf X.K C "pairs" p f) (hr : Room (k + 2) X.A) (he : PE X e ta) (hab : attributeBase e "pairs" X.env (eval e X.env) = eval e X.env := by rfl) :
    PE X (.Attribute e "pairs" pos) (tProp C (getSp C "kept") [] E0 ta) :=
  pe_prop he T.cl hp (f_pairs T F).1 (hr.mono (by omega)) (f_pairs (P := X.prog) (w := X.w) (base := X.base) T F).2 .nil passL hab
/-- __add__ -/
def sp_add (K : PySem.W.Frag) (C : Addr) : Sp := fun vs H Q _ => ∃ (a b : Addr) (PP QQ : List Pr), vs = [.ref a, .ref b] ∧ LimAt K C H a PP ∧ LimAt K C H b QQ ∧ LimOk PP ∧ LimOk QQ ∧ PP.length + QQ.length ≤ 6 ∧ ∀ x H', Same H H' → LimAt K C H' x (bothP PP QQ) → Q (.ref x) H'
theorem f_add (T : Txt K mg C) {f : Addr} {fd : FuncData} (F : Fun K "__add__" "Limits.__add__" sLimAdd f fd) : FnR P w K mg base (L2.CX P w) 7 f (sp_add K C) := by
  obtain ⟨fi, fdi, FI, M⟩ := T.ini
  obtain ⟨fp, fdp, pp, FP, hpp⟩ := T.prs
  obtain ⟨t6, m6⟩ := T.i_limits
  have nd : (["self", "other", "found", "pair"] : List Str).Nodup := by decide +kernel
  refine okN (N := ["self", "other", "found", "pair"]) (ps := ["self", "other"]) F ⟨rfl, rfl, rfl, nd, rfl, by decide +kernel, by decide +kernel⟩ (fun vs H Q E h => ?_) (fun _ _ _ _ _ _ us hl => match us, hl with | [_, _], _ => rfl) (fun cdv A outer s H vs Q E hr h => ?_)
  · obtain ⟨a, b, PP, QQ, rfl, _⟩ := h; rfl
  · obtain ⟨a, b, PP, QQ, rfl, hLa, hLb, okP, okQ, hlen, q⟩ := h
    obtain ⟨dxa, ta, hxa, as, ha1, ha2, ha3⟩ := id hLa
    obtain ⟨dxb, tb, hxb, bs, hb1, hb2, hb3⟩ := id hLb
    have hlb : (bs.map V.ref).length = QQ.length := by rw [List.length_map]; exact hb2
    refine ⟨_, pss_cons (ps_expr (pe_D (d_need_limits T) hr (by rfl) (pa_cons (pv 1) pa_nil)))
      (pss_cons (ps_set (i := 2) nd rfl (.inl rfl) (pe_lst (StX.pa_star (pe_fld (pv 0) rfl) (StX.pa_star (pe_lc (own := [("pair", 3)]) (g := gName 3) (tt := tTest (tOp (rNotInT K) (tVar 3) (tFld K (tVar 0) "kept"))) (by rfl) nd (pi_tup (pe_pairs (k := 0) T FP hpp (hr.mono (by decide)) (pv 1))) (blkOk_by (own := [("pair", 3)]) (N := ["self", "other", "found", "pair"]) (sc := defScope sLimAdd) (by decide +kernel))
          (fun _ _ _ _ _ => pg_name (i := 3) nd rfl (Or.inl rfl)) (fun _ _ _ _ _ => pts_one (pt_cmpR (op_notInT (units65 hr)) (pv 3) (pe_fld (pv 0) (by rfl)) (by rfl))) (fun _ _ _ _ _ => pv 3)) pa_nil))))
      (pss_cons (ps_if (pt_cmpR op_gt (pe_callB call_len_seq (by rfl) T.z_len PySem.boot_len (pa_cons (pv 2) pa_nil)) (pe_gint (by rfl) m6) (nomark _)) (pss_one ps_never) pss_nil)
      (pss_one (ps_ret (pe_makeS1 M (f_init T FI) hr (by rfl) T.mgC passL (pv 2)))))), ?_⟩
    refine ⟨_, rfl, b, QQ, rfl, hLb, ?_⟩
    refine ⟨.ref a, rfl, a, C, dxa, _, .ref ta, rfl, hxa, T.cl, T.nK, kept_look _, ta, _, rfl, .inl ha1, ?_⟩
    refine ⟨.ref b, rfl, b, dxb, _, rfl, hxb, b, dxb, _, .ref tb, rfl, hxb, kept_look _, tb, rfl, ⟨_, hb1⟩, fun D hD => ?_⟩
    refine lc_pure walk_tup (fun i => !decide (QQ.getD i (0, 0) ∈ PP)) (fun i => .ref (bs.getD i 0)) hD (by rw [hlb]; have := okQ.few; omega) (fun H' s' => sameT s' hb1) (fun i x H' H2 k hi s1 y hk => ?_) (fun H' s' hl => ?_)
    · obtain ⟨rfl, hy⟩ := y
      have hiQ : i < QQ.length := by rw [← hlb]; exact hi
      have hib : i < bs.length := by rw [hb2]; exact hiQ
      rw [List.getElem?_map, List.getElem?_eq_getElem hib] at hy
      obtain rfl : V.ref bs[i] = x := Option.some.inj hy
      have eb : bs.getD i 0 = bs[i] := by simp [hib]
      have eq : QQ.getD i (0, 0) = QQ[i] := by simp [hiQ]
      refine hk _ _ (Same.refl _) rfl (fun Qb hq => ?_) (fun hf H3 Q' s3 hq => ?_)
      · refine ⟨_, rfl, .ref a, rfl, a, C, dxa, _, .ref ta, rfl, s1 _ _ hxa, T.cl, T.nK, kept_look _, dPr QQ[i], PP.map dPr, ?_, .tup (sameT s1 ha1) (dp_prs as PP ha2 fun j c p e1 e2 => sameT s1 (ha3 j c p e1 e2)), dPr_shaped _, tPrs_shaped _, _, rfl, ?_⟩
        · exact dp_row (xs := [QQ[i].1, QQ[i].2]) (sameT s1 (hb3 i _ _ (List.getElem?_eq_getElem hib) (List.getElem?_eq_getElem hiQ)))
        · rw [prs_any, ← eq]
          exact hq _ (Same.refl _)
      · refine ⟨_, rfl, ?_⟩
        show Q' (.ref bs[i]) H3
        rw [← eb]
        exact hq _ s3
    · refine ⟨D, _, rfl, .inr (.inl (.inl hl)), ?_⟩
      have ecs : as.map V.ref ++ (given (bs.map V.ref).length (fun i => !decide (QQ.getD i (0, 0) ∈ PP)) (fun i => .ref (bs.getD i 0)) ++ []) = (as ++ ((List.range QQ.length).filter fun i => !decide (QQ.getD i (0, 0) ∈ PP)).map fun i => bs.getD i 0).map V.ref := by
        rw [List.append_nil, List.map_append, List.map_map, hlb]; rfl
      have eQ : QQ.filter (fun q => !decide (q ∈ PP)) = ((List.range QQ.length).filter fun i => !decide (QQ.getD i (0, 0) ∈ PP)).map fun i => QQ.getD i (0, 0) := filter_range QQ (0, 0) fun q => !decide (q ∈ PP)
      generalize hcs : as ++ ((List.range QQ.length).filter fun i => !decide (QQ.getD i (0, 0) ∈ PP)).map (fun i => bs.getD i 0) = cs at ecs
      have hl : cs.length = (bothP PP QQ).length := by
        rw [← hcs]; unfold bothP
        rw [eQ, List.length_append, List.length_append, List.length_map, List.length_map, ha2]
      have ok := both_ok okP okQ hlen
      have h3 : ∀ (i : Nat) (c : Addr) (p : Pr), cs[i]? = some c → (bothP PP QQ)[i]? = some p → SqT K H' c [V.int p.1, V.int p.2] := fun i c p e1 e2 => by
        rw [← hcs] at e1
        unfold bothP at e2
        rw [eQ] at e2
        by_cases hi : i < as.length
        · rw [List.getElem?_append_left hi] at e1
          rw [List.getElem?_append_left (by omega)] at e2
          exact sameT s' (ha3 i c p e1 e2)
        · rw [List.getElem?_append_right (by omega), List.getElem?_map] at e1
          rw [List.getElem?_append_right (by omega), List.getElem?_map, ← ha2] at e2
          cases e : ((List.range QQ.length).filter fun i => !decide (QQ.getD i (0, 0) ∈ PP))[i - as.length]? with
          | none => rw [e] at e1; cases e1
          | some j =>
            rw [e] at e1 e2
            have e3 : bs.getD j 0 = c := Option.some.inj e1
            have e4 : QQ.getD j (0, 0) = p := Option.some.inj e2
            have hj : j < QQ.length := List.mem_range.mp (List.mem_filter.mp (List.mem_of_getElem? e)).1
            have hjb : j < bs.length := by rw [hb2]; exact hj
            refine sameT s' (hb3 j c p ?_ ?_)
            · rw [← e3, List.getElem?_eq_getElem hjb]; simp [hjb]
            · rw [← e4, List.getElem?_eq_getElem hj]; simp [hj]
      show (as.map V.ref ++ (given _ _ _ ++ [])).length ≤ sizeLine ∧ _
      rw [ecs]
      have hfew := ok.few
      refine ⟨by rw [List.length_map, hl, sizeLine_eq]; omega, fun p hp => ?_⟩
      have s2 : Same H' (upd H' p (.lst (cs.map V.ref))) := sameW hp
      refine ⟨.ref p, rfl, p, cs.map V.ref, rfl, .inl (.inl (.inl upd_same)), _, _, rfl, rfl, _, rfl, ?_⟩
      rw [decide_eq_false (show ¬ (6 : Int) < ((cs.map V.ref).length : Int) by rw [List.length_map, hl]; omega)]
      refine iteF ?_
      refine ⟨.ref p, rfl, p, cs.map V.ref, rfl, .inr (.inl (.inl upd_same)), fun x dx nx ndx nex => ?_⟩
      have s3 : Same H (upd H' p (.lst (cs.map V.ref))) := s'.trans s2
      refine ⟨x, dx, cs, bothP PP QQ, rfl, upd_same, hl, fun i c pr e1 e2 => ?_, ok, fun t H2 s4 hx hp2 => ⟨rfl, ?_⟩⟩
      · refine sameT ?_ (h3 i c pr e1 e2)
        intro b o e
        rw [upd_ne (ne_of_none (s2 b o e) nx), upd_ne (ne_of_none (s2 b o e) ndx)]
        exact s2 b o e
      · exact q x H2 (s3.trans (made_lim (PP := []) (t := t) nx ndx s4)) ⟨dx, t, hx, hp2⟩
end
end B45

set_option Elab.async false
set_option linter.all false
set_option maxRecDepth 100000
set_option maxHeartbeats 4000000
/-! verdict. -/
namespace B45
open PySem PySem.Spec PyProof.Rows L2 BX BM
section
variable {P : Program} {w : World} {K : PySem.W.Frag} {mg : Str → Option Value} {base : Heap} {C : Addr}
theorem ltLine {n : Nat} (h : n ≤ 100000) : -(2 ^ 62) ≤ (n : Int) ∧ (n : Int) < 2 ^ 62 := by omega
/-- every stretch from s on is within all limits -/
def OkAt (PP : List Pr) (xs : List Int) (s : Nat) : Prop := ∀ p ∈ PP, ((xs.drop s).take p.1.toNat).sum ≤ p.2
theorem kept_of_all {PP : List Pr} {xs : List Int} (h : ∀ s, s < xs.length → OkAt PP xs s) : keptB PP xs = true := by
  unfold keptB
  rw [List.all_eq_true]
  intro s hs
  rw [List.all_eq_true]
  intro p hp
  exact decide_eq_true (h s (List.mem_range.mp hs) p hp)
theorem not_kept {PP : List Pr} {xs : List Int} {s : Nat} {p : Pr} (hs : s < xs.length) (hp : p ∈ PP) (h : p.2 < ((xs.drop s).take p.1.toNat).sum) : keptB PP xs = false := by
  cases e : keptB PP xs with
  | false => rfl
  | true =>
    unfold keptB at e
    rw [List.all_eq_true] at e
    have e1 := e s (List.mem_range.mpr hs)
    rw [List.all_eq_true] at e1
    have := of_decide_eq_true (e1 p hp)
    omega
def sp_first_broken (K : PySem.W.Frag) : Sp := fun vs H Q _ => ∃ (t r : Addr) (PP : List Pr) (xs : List Int), vs = [.ref t, .ref r] ∧ PairsAt K H t PP ∧ GoodP PP ∧ TI K H r xs ∧ xs.length ≤ 100000 ∧ (keptB PP xs = true → RetV H Q .non) ∧
  (keptB PP xs = false → ∀ (p : Addr) (H' : Hp) (i j k : Int), Same H H' → SqT K H' p [.int i, .int j, .int k] → Q (.ref p) H')
theorem d_first_broken (T : Txt K mg C) : D0 P w K mg base "first_broken" 2 (sp_first_broken K) := by
  have nd : (["pairs", "row", "start", "number", "length", "most", "amount"] : List Str).Nodup := by decide +kernel
  refine D0.ofN (N := ["pairs", "row", "start", "number", "length", "most", "amount"]) (ps := ["pairs", "row"]) T.g_first_broken ⟨rfl, rfl, rfl, nd, rfl, by decide +kernel, by decide +kernel⟩ (fun vs H Q E h => ?_) (fun _ _ _ _ _ _ us hl => match us, hl with | [_, _], _ => rfl) (fun f cdv A outer s H vs Q E hr h => ?_)
  · obtain ⟨t, r, PP, xs, rfl, _⟩ := h; rfl
  · obtain ⟨t, r, PP, xs, rfl, hP, hg, hT, hz, q1, q2⟩ := h
    obtain ⟨as, h1, h2, h3⟩ := id hP
    have hlr : (xs.map V.int).length = xs.length := List.length_map ..
    refine ⟨_, pss_cons (ps_for PassesOwn.never rfl (pi_range1 (by rfl) T.z_range (pa_cons (pe_callB call_len_seq (by rfl) T.z_len PySem.boot_len (pa_cons (pv 1) pa_nil)) pa_nil)) (pg_name (i := 2) nd rfl (.inl rfl))
        (pss_one (ps_for PassesOwn.never rfl (pi_enumT (by rfl) T.z_enumerate (pa_cons (pv 0) pa_nil)) (pg_tup rfl (pgs_cons (pg_name (i := 3) nd rfl (.inl rfl)) (pgs_cons (pg_tup rfl (pgs_cons (pg_name (i := 4) nd rfl (.inl rfl)) (pgs_cons (pg_name (i := 5) nd rfl (.inl rfl)) pgs_nil))) pgs_nil)))
          (pss_cons (ps_set (i := 6) nd rfl (.inl rfl) (pe_D (d_stretch T) hr (by rfl) (pa_cons (pv 1) (pa_cons (pv 2) (pa_cons (pv 4) pa_nil)))))
          (pss_one (ps_if (pt_cmpR op_gt (pv 6) (pv 5) (nomark _)) (pss_one (ps_ret (pe_tup (pa_cons (pv 2) (pa_cons (pv 3) (pa_cons (pv 6) pa_nil)))))) pss_nil))))))
      (pss_one (ps_ret pe_non)), ?_⟩
    refine ⟨.ref r, rfl, r, _, rfl, .inr hT, ((xs.map V.int).length : Int), rfl, (ltLine (by rw [hlr]; exact hz)).1, (ltLine (by rw [hlr]; exact hz)).2, ?_⟩
    rw [Int.toNat_natCast, hlr]
    refine for_it walk_range (fun i σ H2 => (∃ y2 y3 y4 y5 y6, σ = [some (.ref t), some (.ref r), y2, y3, y4, y5, y6]) ∧ Same H H2 ∧ ∀ s', s' < i → OkAt PP xs s') ⟨⟨_, _, _, _, _, rfl⟩, Same.refl H, fun s' hs => absurd hs (Nat.not_lt_zero _)⟩ (fun _ _ _ _ _ => trivial) (fun i x σ H2 H2' hi pvi y => ?_) (fun σ H2 pvn => ?_)
    · obtain ⟨⟨y2, y3, y4, y5, y6, rfl⟩, s2, hok⟩ := pvi
      obtain ⟨rfl, rfl⟩ := y
      -- for number, (length, most) in enumerate(pairs)
      refine ⟨.ref t, rfl, t, _, rfl, sameT s2 h1, ?_⟩
      refine for_it (walk_enumT (xs := as.map V.ref)) (fun j σ H3 => (∃ y3 y4 y5 y6, σ = [some (.ref t), some (.ref r), some (.int ((0 : Int) + i)), y3, y4, y5, y6]) ∧ Same H H3 ∧ ∀ p ∈ PP.take j, ((xs.drop i).take p.1.toNat).sum ≤ p.2) ⟨⟨_, _, _, _, rfl⟩, s2, fun p hp => by simp at hp⟩ (fun j σ H3 _ pvj => sameT pvj.2.1 h1) (fun j x σ H3 H3' hj pvj y => ?_) (fun σ H3 pvn => ?_)
      · obtain ⟨⟨y3, y4, y5, y6, rfl⟩, s3, hok2⟩ := pvj
        obtain ⟨TT, x1, x2, rfl, nT, rfl, e1, e2⟩ := y
        have hj2 : j < PP.length := by rw [← h2]; simpa using hj
        have hja : j < as.length := by rw [h2]; exact hj2
        have e2' : (as.map V.ref)[j]? = some x2 := e2
        rw [List.getElem?_map, List.getElem?_eq_getElem hja] at e2'
        obtain rfl : V.ref as[j] = x2 := Option.some.inj e2'
        have e1' : (some (V.int ((j : Nat) : Int)) : Option V) = some x1 := e1
        obtain rfl : V.int ((j : Nat) : Int) = x1 := Option.some.inj e1'
        have s4 : Same H (upd H3 TT (.tup [.int (j : Nat), .ref as[j]])) := s3.trans (sameW nT)
        have hpr := sameT s4 (h3 j as[j] PP[j] (List.getElem?_eq_getElem hja) (List.getElem?_eq_getElem hj2))
        have hp1 := (hg PP[j] (List.getElem_mem hj2)).1
        refine ⟨TT, _, rfl, .inl (.inl upd_same), rfl, _, _, rfl, _, _, rfl, ⟨as[j], _, rfl, hpr, rfl, _, _, rfl, _, _, rfl, rfl, rfl, ?_⟩⟩
        -- amount = stretch_sum(row, start, length)
        refine ⟨.ref r, rfl, .int ((0 : Int) + i), rfl, .int PP[j].1, rfl, r, xs, i, PP[j].1.toNat, by rw [Int.zero_add, Int.toNat_of_nonneg (by omega)], sameT s4 hT, hz, fun H5 s5 => ?_⟩
        refine ⟨_, rfl, _, rfl, ((xs.drop i).take PP[j].1.toNat).sum, PP[j].2, rfl, rfl, _, rfl, ?_⟩
        by_cases hb : PP[j].2 < ((xs.drop i).take PP[j].1.toNat).sum
        · rw [decide_eq_true hb]
          refine iteT ?_
          refine ⟨.int ((0 : Int) + i), rfl, .int (j : Nat), rfl, _, rfl, (by show 3 ≤ sizeLine; decide), fun p hp => ?_⟩
          exact q2 (not_kept hi (List.getElem_mem hj2) hb) p _ _ _ _ ((s4.trans s5).trans (sameW hp)) (.inl (.inl upd_same))
        · rw [decide_eq_false hb]
          refine iteF ?_
          refine ⟨⟨_, _, _, _, rfl⟩, s4.trans s5, fun p hp => ?_⟩
          rw [List.take_add_one, List.getElem?_eq_getElem hj2] at hp
          rcases List.mem_append.mp hp with z | z
          · exact hok2 p z
          · have : p = PP[j] := by simpa using z
            subst this
            omega
      · obtain ⟨⟨y3, y4, y5, y6, rfl⟩, s3, hok2⟩ := pvn
        refine ⟨⟨_, _, _, _, _, rfl⟩, s3, fun s' hs => ?_⟩
        by_cases e : s' = i
        · subst e
          intro p hp
          refine hok2 p ?_
          rw [List.take_of_length_le (by rw [List.length_map, h2]; exact Nat.le_refl _)]
          exact hp
        · exact hok s' (by omega)
    · obtain ⟨⟨y2, y3, y4, y5, y6, rfl⟩, s2, hok⟩ := pvn
      exact q1 (kept_of_all hok) _ s2
/-- verdict -/
def sp_verdict (K : PySem.W.Frag) (C : Addr) : Sp := fun vs H Q _ => ∃ (x r : Addr) (PP : List Pr) (xs : List Int), vs = [.ref x, .ref r] ∧ LimAt K C H x PP ∧ LimOk PP ∧ TI K H r xs ∧ RowOk xs ∧ xs.length ≤ 100000 ∧
  ∀ (p : Addr) (H' : Hp), Same H H' → (∃ vs, SqT K H' p vs ∧ ∃ ds, (∀ Hx : Hp, DpAll K Hx vs ds) ∧ SeqAt.shaped (.tuple ds) = true ∧ PyData.eqv (.tuple ds) (.tuple [.str "kept"]) = keptB PP xs) → Q (.ref p) H'
theorem d_verdict (T : Txt K mg C) : D0 P w K mg base "verdict" 5 (sp_verdict K C) := by
  obtain ⟨fp, fdp, pp, FP, hpp⟩ := T.prs
  obtain ⟨tk, mk⟩ := T.t_kept
  obtain ⟨tb, mb⟩ := T.t_broken
  have nd : (["limits", "row", "found"] : List Str).Nodup := by decide +kernel
  refine D0.ofN (N := ["limits", "row", "found"]) (ps := ["limits", "row"]) T.g_verdict ⟨rfl, rfl, rfl, nd, rfl, by decide +kernel, by decide +kernel⟩ (fun vs H Q E h => ?_) (fun _ _ _ _ _ _ us hl => match us, hl with | [_, _], _ => rfl) (fun f cdv A outer s H vs Q E hr h => ?_)
  · obtain ⟨x, r, PP, xs, rfl, _⟩ := h; rfl
  · obtain ⟨x, r, PP, xs, rfl, hL, ok, hT, hx, hz, q⟩ := h
    obtain ⟨dx, t, hxo, hP⟩ := id hL
    refine ⟨_, pss_cons (ps_expr (pe_D (d_need_limits T) hr (by rfl) (pa_cons (pv 0) pa_nil)))
      (pss_cons (ps_expr (pe_D (d_need_row T) hr (by rfl) (pa_cons (pv 1) pa_nil)))
      (pss_cons (ps_set (i := 2) nd rfl (.inl rfl) (pe_D (d_first_broken T) hr (by rfl) (pa_cons (pe_pairs (k := 2) T FP hpp (hr.mono (by decide)) (pv 0)) (pa_cons (pv 1) pa_nil))))
      (pss_one (ps_ret (pe_ifExp (pt_cmpR op_isN (pv 2) pe_non (nomark _)) (pe_tup (pa_cons (pe_gstr (by rfl) mk) pa_nil)) (pe_tup (pa_cons (pe_gstr (by rfl) mb) (StX.pa_star (pv 2) pa_nil)))))))), ?_⟩
    refine ⟨_, rfl, x, PP, rfl, hL, ?_⟩
    refine ⟨_, rfl, r, xs, rfl, hT, hx, hz, fun H1 s1 => ?_⟩
    refine ⟨_, rfl, x, dx, _, rfl, s1 _ _ hxo, x, dx, _, .ref t, rfl, s1 _ _ hxo, kept_look _, .ref r, rfl, ?_⟩
    refine ⟨t, r, PP, xs, rfl, hP.same s1, ok.g.g, sameT s1 hT, hz, fun hk H2 s2 => ?_, fun hk p H2 i j k s2 hp => ?_⟩
    · refine ⟨_, rfl, rfl, _, rfl, ?_⟩
      rw [decide_eq_true rfl]
      refine iteT ?_
      refine ⟨(by show 1 ≤ sizeLine; decide), fun p hp => q p _ ((s1.trans s2).trans (sameW hp)) ⟨_, .inl (.inl upd_same), [.str "kept"], fun _ => .cons (.str _) .nil, by decide +kernel, ?_⟩⟩
      rw [hk]
      decide +kernel
    · refine ⟨_, rfl, rfl, _, rfl, ?_⟩
      rw [decide_eq_false (fun e => by cases e)]
      refine iteF ?_
      refine ⟨_, rfl, p, _, rfl, .inl hp, (by show 4 ≤ sizeLine; decide), fun p2 hp2 => q p2 _ ((s1.trans s2).trans (sameW hp2)) ⟨_, .inl (.inl upd_same), [.str "broken", .int i, .int j, .int k], fun _ => .cons (.str _) (.cons (.int _) (.cons (.int _) (.cons (.int _) .nil))), ?_, ?_⟩⟩
      · show (PyData.canLay0 _ && decide (PyData.depth _ ≤ 64)) = true
        have e0 : PyData.strOk (Str.ofString "broken") = true := by decide +kernel
        simp [PyData.canLay0, PyData.canLayAll0, PyData.depth, PyData.depthAll, e0]
      · rw [hk]
        simp [PyData.eqv, PyData.eqvAll]
end
end B45

set_option Elab.async false
set_option linter.all false
set_option maxRecDepth 100000
set_option maxHeartbeats 4000000
/-! What is let through. -/
namespace B45
open PySem PySem.Spec PyProof.Rows L2 BX BM
theorem range_map {α : Type} (l : List Pr) (f : Pr → α) : (List.range l.length).map (fun i => f (l.getD i (0, 0))) = l.map f := by
  conv => rhs; rw [← range_getD l (0, 0)]
  rw [List.map_map]; rfl
/-- len -/
abbrev rLen (K : PySem.W.Frag) : List V → Hp → VK → Prop := fun xs H Q => ∃ p ys, xs = [.ref p] ∧ (SqL K H p ys ∨ SqT K H p ys) ∧ Q (.int ys.length) H
section
variable {P : Program} {w : World} {K : PySem.W.Frag} {mg : Str → Option Value} {base : Heap} {C : Addr}
/-- allowed_now -/
def sp_allowed (K : PySem.W.Frag) : Sp := fun vs H Q _ => ∃ (t th : Addr) (PP : List Pr) (xs : List Int), vs = [.ref t, .ref th] ∧ PairsAt K H t PP ∧ LimOk PP ∧ SqL K H th (xs.map V.int) ∧ xs.length ≤ 100000 ∧ RetV H Q (.int (allowed PP xs))
theorem d_allowed (T : Txt K mg C) : D0 P w K mg base "allowed_now" 1 (sp_allowed K) := by
  have nd : (["pairs", "through", "length", "most"] : List Str).Nodup := by decide +kernel
  refine D0.ofN (N := ["pairs", "through", "length", "most"]) (ps := ["pairs", "through"]) T.g_allowed ⟨rfl, rfl, rfl, nd, rfl, by decide +kernel, by decide +kernel⟩ (fun vs H Q E h => ?_) (fun _ _ _ _ _ _ us hl => match us, hl with | [_, _], _ => rfl) (fun f cdv A outer s H vs Q E hr h => ?_)
  · obtain ⟨t, r, PP, xs, rfl, _⟩ := h; rfl
  · obtain ⟨t, th, PP, xs, rfl, hP, ok, hT, hz, q⟩ := h
    obtain ⟨as, h1, h2, h3⟩ := id hP
    have hlr : (xs.map V.int).length = xs.length := List.length_map ..
    have hlp : (as.map V.ref).length = PP.length := by rw [List.length_map]; exact h2
    refine ⟨_, pss_one (ps_ret (pe_callB (cr_min rfl) (by rfl) T.z_min (by decide +kernel) (pa_cons (pe_lc (own := [("length", 2), ("most", 3)]) (g := gTup K 2 (gCons (gName 2) (gCons (gName 3) gNil)))
        (by rfl) nd (pi_tup (pv 0)) (blkOk_by (own := [("length", 2), ("most", 3)]) (N := ["pairs", "through", "length", "most"]) (sc := defScope sAllowed) (by decide +kernel))
        (fun _ _ _ _ _ => pg_tup rfl (pgs_cons (pg_name (i := 2) nd rfl (Or.inl rfl)) (pgs_cons (pg_name (i := 3) nd rfl (Or.inl rfl)) pgs_nil))) (fun _ _ _ _ _ => pts_nil)
        (fun _ _ _ _ _ => pe_op op_sub (pv 3) (pe_callB (r := rSum K) (cr_sum rfl) (by rfl) T.z_sum (by decide +kernel) (pa_cons (pe_slice (r := rSlL K) sl_list (pv 1) (po_some (pe_callB (call_max2 rfl) (by rfl) T.z_max (by decide +kernel) (pa_cons pe_int (pa_cons (pe_op op_add (pe_op op_sub (pe_callB (r := rLen K) call_len_seq (by rfl) T.z_len PySem.boot_len (pa_cons (pv 1) pa_nil)) (pv 2)) pe_int) pa_nil)))) po_none) pa_nil)))) pa_nil))), ?_⟩
    refine ⟨.ref t, rfl, t, rfl, ⟨_, h1⟩, fun D hD => ?_⟩
    refine lc_pureA walk_tup (fun i => .int ((PP.getD i (0, 0)).2 - (xs.drop (xs.length + 1 - (PP.getD i (0, 0)).1.toNat)).sum)) hD (by rw [hlp]; have := ok.few; omega) (fun H' s' => sameT s' h1) (fun i x H' H2 k hi s1 y hk => ?_) (fun H' s' hl => ?_)
    · obtain ⟨rfl, hy⟩ := y
      have hiP : i < PP.length := by rw [← hlp]; exact hi
      have hia : i < as.length := by rw [h2]; exact hiP
      rw [List.getElem?_map, List.getElem?_eq_getElem hia] at hy
      obtain rfl : V.ref as[i] = x := Option.some.inj hy
      have hpr := sameT s1 (h3 i as[i] PP[i] (List.getElem?_eq_getElem hia) (List.getElem?_eq_getElem hiP))
      have eq : PP.getD i (0, 0) = PP[i] := by simp [hiP]
      have hp1 := (ok.g.g PP[i] (List.getElem_mem hiP)).1
      refine ⟨as[i], _, rfl, hpr, rfl, _, _, rfl, _, _, rfl, rfl, ?_⟩
      refine hk _ _ (Same.refl _) rfl fun H3 Q' s3 hq => ?_
      have hT3 : SqL K H3 th (xs.map V.int) := Same.seq (s1.trans s3) hT
      refine ⟨_, rfl, .ref th, rfl, ?_⟩
      refine ⟨.ref th, rfl, th, _, rfl, .inl hT3, .int PP[i].1, rfl, _, _, rfl, rfl, _, _, rfl, rfl, ?_⟩
      have est : (if ((xs.map V.int).length : Int) - PP[i].1 + 1 > 0 then ((xs.map V.int).length : Int) - PP[i].1 + 1 else 0) = ((xs.length + 1 - PP[i].1.toNat : Nat) : Int) := by
        rw [hlr]; split <;> omega
      refine ⟨0, _, rfl, _, rfl, th, _, rfl, hT3, fun p hp => ?_⟩
      refine ⟨p, xs.drop (xs.length + 1 - PP[i].1.toNat), rfl, .inl (.inl ?_), ⟨_, _, rfl, rfl, ?_⟩⟩
      · rw [upd_same]
        show some (HO.lst (cutV (xs.map V.int) (some (if ((xs.map V.int).length : Int) - PP[i].1 + 1 > 0 then ((xs.map V.int).length : Int) - PP[i].1 + 1 else 0)) none)) = _
        rw [est, cutV_n0, List.map_drop]
      · rw [← eq]
        exact hq _ (s3.trans (sameW hp))
    · refine ⟨D, alw PP xs, rfl, .inl (.inl ?_), ?_, fun m hm hle => ?_⟩
      · rw [hl, hlp]
        unfold alw
        rw [← range_map PP fun p => p.2 - (xs.drop (xs.length + 1 - p.1.toNat)).sum, List.map_map]
        rfl
      · unfold alw
        rw [List.length_map]
        exact List.length_pos_iff.mpr ok.g.ne
      · show Q (.int m) H'
        rw [minI_eq hm hle]
        exact q _ s'
/-- let_through -/
def sp_let (K : PySem.W.Frag) : Sp := fun vs H Q _ => ∃ (t r : Addr) (PP : List Pr) (xs : List Int), vs = [.ref t, .ref r] ∧ PairsAt K H t PP ∧ LimOk PP ∧ TI K H r xs ∧ RowOk xs ∧ xs.length ≤ 50000 ∧ RetT K H Q ((passedL PP xs).map V.int)
theorem d_let (T : Txt K mg C) : D0 P w K mg base "let_through" 2 (sp_let K) := by
  have nd : (["pairs", "row", "through", "waiting_now", "tick", "amount"] : List Str).Nodup := by decide +kernel
  refine D0.ofN (N := ["pairs", "row", "through", "waiting_now", "tick", "amount"]) (ps := ["pairs", "row"]) T.g_let_through ⟨rfl, rfl, rfl, nd, rfl, by decide +kernel, by decide +kernel⟩ (fun vs H Q E h => ?_) (fun _ _ _ _ _ _ us hl => match us, hl with | [_, _], _ => rfl) (fun f cdv A outer s H vs Q E hr h => ?_)
  · obtain ⟨t, r, PP, xs, rfl, _⟩ := h; rfl
  · obtain ⟨t, r, PP, xs, rfl, hP, ok, hT, hx, hz, q⟩ := h
    have hlr : (xs.map V.int).length = xs.length := List.length_map ..
    obtain ⟨hs1, hs2, hs3, hs4⟩ := stop_spec ok.g hx
    refine ⟨_, pss_cons (ps_par (i := 2) (j := 3) rfl nd rfl rfl (by decide) rfl rfl (pa_cons (pe_lst pa_nil) (pa_cons pe_int pa_nil)) (by rfl))
      (pss_cons (ps_while PassesOwn.never (PW.pt (pw_or (pt_cmpR op_lt (pe_callB call_len_seq (by rfl) T.z_len PySem.boot_len (pa_cons (pv 2) pa_nil)) (pe_callB call_len_seq (by rfl) T.z_len PySem.boot_len (pa_cons (pv 1) pa_nil)) (nomark _)) (pw_or1 (pt_cmpR op_gt (pv 3) pe_int (nomark _)))))
        (pss_cons (ps_set (i := 4) nd rfl (.inl rfl) (pe_callB call_len_seq (by rfl) T.z_len PySem.boot_len (pa_cons (pv 2) pa_nil)))
        (pss_cons (ps_set (i := 3) nd rfl (.inl rfl) (pe_op op_add (pv 3) (pe_ifExp (pt_cmpR op_lt (pv 4) (pe_callB call_len_seq (by rfl) T.z_len PySem.boot_len (pa_cons (pv 1) pa_nil)) (nomark _)) (pe_ix ix_tup (pv 1) (pv 4) (fun _ _ => rfl)) pe_int)))
        (pss_cons (ps_set (i := 5) nd rfl (.inl rfl) (pe_callB (call_min2 rfl) (by rfl) T.z_min (by decide +kernel) (pa_cons (pv 3) (pa_cons (pe_D (d_allowed T) hr (by rfl) (pa_cons (pv 0) (pa_cons (pv 2) pa_nil))) pa_nil))))
        (pss_cons (ps_expr (pe_bm PySem.F.plainAttrs_list PySem.F.slot_list_append PySem.F.type_list_append mt_append (pv 2) (pa_cons (pv 5) pa_nil)))
        (pss_one (ps_set (i := 3) nd rfl (.inl rfl) (pe_op op_sub (pv 3) (pv 5)))))))))
      (pss_one (ps_ret (pe_callTy call_tuple_of (by rfl) T.z_tuple (by decide +kernel) (pa_cons (pv 2) pa_nil))))), ?_⟩
    refine ⟨(by show 0 ≤ sizeLine; decide), fun L hL => ⟨_, _, rfl, ?_⟩⟩
    refine ⟨fun m σ H2 => ∃ k, m + k = stop PP xs ∧ (∃ y4 y5, σ = [some (.ref t), some (.ref r), some (.ref L), some (.int (cum xs k - R PP xs k)), y4, y5]) ∧ Same H H2 ∧ H2 L = some (.lst ((thr PP xs k).map V.int)), ⟨_, 0, rfl, ⟨none, none, ?_⟩, sameW hL, ?_⟩, ?_⟩
    · rw [cum_zero, R_zero]; rfl
    · rw [upd_same]; rfl
    · rintro m σ H2 ⟨k, hk, ⟨y4, y5, rfl⟩, s2, hl⟩
      have hlt : ((thr PP xs k).map V.int).length = k := by rw [List.length_map, thr_len]
      have hT2 := sameT s2 hT
      have hP2 := hP.same s2
      have hks : k ≤ stop PP xs := by omega
      have hL2 : SqL K H2 L ((thr PP xs k).map V.int) := .inl (.inl hl)
      -- the test
      refine ⟨.ref L, rfl, L, _, rfl, .inl hL2, .ref r, rfl, r, _, rfl, .inr hT2, _, _, rfl, rfl, _, rfl, ?_⟩
      rw [hlt, hlr]
      have yes : k < stop PP xs → ∃ N : L2.St → Hp → Prop, (∀ σ' H', N σ' H' → ∃ m', m' < m ∧ ∃ k, m' + k = stop PP xs ∧ (∃ y4 y5, σ' = [some (.ref t), some (.ref r), some (.ref L), some (.int (cum xs k - R PP xs k)), y4, y5]) ∧ Same H H' ∧ H' L = some (.lst ((thr PP xs k).map V.int))) ∧
          ∀ σ' H', (∃ y4 y5, σ' = [some (.ref t), some (.ref r), some (.ref L), some (.int (cum xs (k + 1) - R PP xs (k + 1))), y4, y5]) → Same H H' → H' L = some (.lst ((thr PP xs (k + 1)).map V.int)) → N σ' H' := fun hlk =>
        ⟨fun σ' H' => (∃ y4 y5, σ' = [some (.ref t), some (.ref r), some (.ref L), some (.int (cum xs (k + 1) - R PP xs (k + 1))), y4, y5]) ∧ Same H H' ∧ H' L = some (.lst ((thr PP xs (k + 1)).map V.int)), fun σ' H' h => ⟨m - 1, by omega, k + 1, by omega, h.1, h.2.1, h.2.2⟩, fun σ' H' a b c => ⟨a, b, c⟩⟩
      have hlk : (decide ((k : Int) < (xs.length : Int)) = true ∨ decide (0 < cum xs k - R PP xs k) = true) → k < stop PP xs := fun h => by
        refine Nat.lt_of_le_of_ne hks fun e => ?_
        rw [← e] at hs1 hs2
        rcases h with h | h
        · have := of_decide_eq_true h; omega
        · have := of_decide_eq_true h
          rw [cum_full hs1, hs2] at this; omega
      have hend : decide ((k : Int) < (xs.length : Int)) = false → decide (0 < cum xs k - R PP xs k) = false → k = stop PP xs := fun h1 h2 => by
        have h1 := of_decide_eq_false h1
        have h2 := of_decide_eq_false h2
        have h3 := R_le ok.g xs k
        have h4 : cum xs k = xs.sum := cum_full (by omega)
        rcases Nat.lt_or_ge k (stop PP xs) with z | z
        · have := hs4 k z
          rw [isEnd_iff.mpr ⟨by omega, by omega⟩] at this
          cases this
        · omega
      have hz2 : k ≤ 100000 := by omega
      by_cases hk2 : k < stop PP xs
      · obtain ⟨N, hN1, hN2⟩ := yes hk2
        have hmin : (if allowed PP (thr PP xs k) < cum xs k - R PP xs k + xs.getD k 0 then allowed PP (thr PP xs k) else cum xs k - R PP xs k + xs.getD k 0) = amt PP xs (thr PP xs k) := by
          unfold amt
          rw [thr_len, cum_succ]
          show _ = min (_ - R PP xs k) _
          split <;> omega
        have hR := R_succ PP xs k
        have hC := cum_succ xs k
        cases c1 : decide ((k : Int) < (xs.length : Int))
        case' true => refine iteT (iteT ⟨N, hN1, ?_⟩)
        case' false =>
          refine iteF ⟨_, rfl, _, _, rfl, rfl, _, rfl, ?_⟩
          have c2 : decide (0 < cum xs k - R PP xs k) = true := by
            cases e : decide (0 < cum xs k - R PP xs k) with
            | true => rfl
            | false => have := hend c1 e; omega
          rw [c2]
          refine iteT ⟨N, hN1, ?_⟩
        all_goals
          refine ⟨.ref L, rfl, L, _, rfl, .inl hL2, ?_⟩
          rw [hlt]
          refine ⟨_, rfl, _, rfl, .ref r, rfl, r, _, rfl, .inr hT2, _, _, rfl, rfl, _, rfl, ?_⟩
          rw [hlr, c1]
        case' true =>
          have hkl : k < xs.length := by have := of_decide_eq_true c1; omega
          refine iteT ⟨.ref r, rfl, .int k, rfl, r, _, k, .int (xs.getD k 0), rfl, rfl, hT2, atI_nat (j := k) (by rw [List.getElem?_map, List.getElem?_eq_getElem hkl]; simp [hkl]), ?_⟩
        case' false =>
          have hkl : xs.getD k 0 = 0 := by
            have := of_decide_eq_false c1
            rw [List.getD_eq_getElem?_getD, List.getElem?_eq_none (by omega)]; rfl
          refine iteF ?_
        case' true => refine ⟨_, xs.getD k 0, rfl, rfl, ?_⟩
        case' false => refine ⟨_, xs.getD k 0, rfl, by rw [hkl], ?_⟩
        all_goals
          refine ⟨.int (cum xs k - R PP xs k + xs.getD k 0), rfl, .ref t, rfl, .ref L, rfl, t, L, PP, thr PP xs k, rfl, hP2, ok, hL2, by rw [thr_len]; exact hz2, fun H5 s5 => ?_⟩
          have hl5 := s5 _ _ hl
          refine ⟨_, _, rfl, ?_⟩
          rw [hmin]
          refine ⟨.ref L, rfl, .inl ⟨rfl, _, .inl (.inl hl5)⟩, .int (amt PP xs (thr PP xs k)), rfl, L, _, _, rfl, rfl, hl5, by rw [hlt]; exact smallK hz2, ?_⟩
          refine ⟨.int (cum xs k - R PP xs k + xs.getD k 0), rfl, .int (amt PP xs (thr PP xs k)), rfl, _, _, rfl, rfl, ?_⟩
          refine hN2 _ _ ⟨some (.int k), some (.int (amt PP xs (thr PP xs k))), ?_⟩ (sameM (s2.trans s5) hL) ?_
          · show [some (V.ref t), some (V.ref r), some (V.ref L), some (V.int (cum xs k - R PP xs k + xs.getD k 0 - amt PP xs (thr PP xs k))), some (V.int k), some (V.int (amt PP xs (thr PP xs k)))] = _
            rw [hR, hC]
            congr 6
            omega
          · rw [upd_same]
            show some (HO.lst ((thr PP xs k).map V.int ++ [V.int (amt PP xs (thr PP xs k))])) = some (HO.lst ((thr PP xs k ++ [amt PP xs (thr PP xs k)]).map V.int))
            rw [List.map_append]; rfl
      · have ek : k = stop PP xs := by omega
        have c1 : decide ((k : Int) < (xs.length : Int)) = false := by
          cases e : decide ((k : Int) < (xs.length : Int)) with
          | false => rfl
          | true => exact absurd (hlk (.inl e)) hk2
        have c2 : decide (0 < cum xs k - R PP xs k) = false := by
          cases e : decide (0 < cum xs k - R PP xs k) with
          | false => rfl
          | true => exact absurd (hlk (.inr e)) hk2
        rw [c1]
        refine iteF ⟨_, rfl, _, _, rfl, rfl, _, rfl, ?_⟩
        rw [c2]
        refine iteF ?_
        refine ⟨.ref L, rfl, L, _, rfl, .inl ⟨hL2, fun p hp => ?_⟩⟩
        rw [ek]
        exact q p _ (s2.trans (sameW hp)) (.inl (.inl upd_same))
/-- passed -/
def sp_passed (K : PySem.W.Frag) (C : Addr) : Sp := fun vs H Q _ => ∃ (x r : Addr) (PP : List Pr) (xs : List Int), vs = [.ref x, .ref r] ∧ LimAt K C H x PP ∧ LimOk PP ∧ TI K H r xs ∧ RowOk xs ∧ xs.length ≤ 50000 ∧ RetT K H Q ((passedL PP xs).map V.int)
theorem d_passed (T : Txt K mg C) : D0 P w K mg base "passed" 5 (sp_passed K C) := by
  obtain ⟨fp, fdp, pp, FP, hpp⟩ := T.prs
  refine D0.ofN (N := ["limits", "row"]) (ps := ["limits", "row"]) T.g_passed ⟨rfl, rfl, rfl, by decide +kernel, rfl, by decide +kernel, by decide +kernel⟩ (fun vs H Q E h => ?_) (fun _ _ _ _ _ _ us hl => match us, hl with | [_, _], _ => rfl) (fun f cdv A outer s H vs Q E hr h => ?_)
  · obtain ⟨x, r, PP, xs, rfl, _⟩ := h; rfl
  · obtain ⟨x, r, PP, xs, rfl, hL, ok, hT, hx, hz, q⟩ := h
    obtain ⟨dx, t, hxo, hP⟩ := id hL
    refine ⟨_, pss_cons (ps_expr (pe_D (d_need_limits T) hr (by rfl) (pa_cons (pv 0) pa_nil)))
      (pss_cons (ps_expr (pe_D (d_need_row T) hr (by rfl) (pa_cons (pv 1) pa_nil)))
      (pss_one (ps_ret (pe_D (d_let T) hr (by rfl) (pa_cons (pe_pairs (k := 2) T FP hpp (hr.mono (by decide)) (pv 0)) (pa_cons (pv 1) pa_nil)))))), ?_⟩
    refine ⟨_, rfl, x, PP, rfl, hL, ?_⟩
    refine ⟨_, rfl, r, xs, rfl, hT, hx, by omega, fun H1 s1 => ?_⟩
    refine ⟨_, rfl, x, dx, _, rfl, s1 _ _ hxo, x, dx, _, .ref t, rfl, s1 _ _ hxo, kept_look _, .ref r, rfl, ?_⟩
    exact ⟨t, r, PP, xs, rfl, hP.same s1, ok, sameT s1 hT, hx, hz, fun p H2 s2 hp => q p H2 (s1.trans s2) hp⟩
end
end B45

set_option Elab.async false
set_option linter.all false
set_option maxRecDepth 100000
set_option maxHeartbeats 4000000
/-! How long they wait. -/
namespace B45
open PySem PySem.Spec PyProof.Rows L2 BX BM GenW
theorem ticks_len_le {xs : List Int} (hx : RowOk xs) : (ticksL xs).length ≤ 60 := by
  have := ticks_len hx.1 0
  have := hx.2
  unfold ticksL; omega
theorem rowTake {xs : List Int} (hx : RowOk xs) (i : Nat) : RowOk (xs.take i) := ⟨fun a ha => hx.1 a (List.mem_of_mem_take ha), by have h1 := cum_le_sum hx.1 i; have h2 := hx.2; unfold cum at h1; omega⟩
section
variable {P : Program} {w : World} {K : PySem.W.Frag} {mg : Str → Option Value} {base : Heap} {C : Addr}
/-- ticks_of -/
def sp_ticks (K : PySem.W.Frag) : Sp := fun vs H Q _ => ∃ (r : Addr) (xs : List Int), vs = [.ref r] ∧ TI K H r xs ∧ RowOk xs ∧ xs.length ≤ 100000 ∧ RetL H Q ((ticksL xs).map V.int)
theorem d_ticks (T : Txt K mg C) : D0 P w K mg base "ticks_of" 1 (sp_ticks K) := by
  have nd : (["row", "tick", "amount", "one"] : List Str).Nodup := by decide +kernel
  refine D0.ofN (N := ["row", "tick", "amount", "one"]) (ps := ["row"]) T.g_ticks_of ⟨rfl, rfl, rfl, nd, rfl, by decide +kernel, by decide +kernel⟩ (fun vs H Q E h => ?_) (fun _ _ _ _ _ _ us hl => match us, hl with | [_], _ => rfl) (fun f cdv A outer s H vs Q E hr h => ?_)
  · obtain ⟨r, xs, rfl, _⟩ := h; rfl
  · obtain ⟨r, xs, rfl, hT, hx, hz, q⟩ := h
    have hlr : (xs.map V.int).length = xs.length := List.length_map ..
    refine ⟨_, pss_one (ps_ret (pe_lc2 (own := [("tick", 1), ("amount", 2), ("one", 3)]) (vs1 := [3]) (g := gTup K 2 (gCons (gName 1) (gCons (gName 2) gNil))) (g1 := gName 3)
        (by rfl) nd (pi_enumT (by rfl) T.z_enumerate (pa_cons (pv 0) pa_nil)) (blkOk_by (own := [("tick", 1), ("amount", 2), ("one", 3)]) (N := ["row", "tick", "amount", "one"]) (sc := defScope sTicksOf) (by decide +kernel)) (by decide)
        (fun _ _ _ _ _ => pg_tup rfl (pgs_cons (pg_name (i := 1) nd rfl (Or.inl rfl)) (pgs_cons (pg_name (i := 2) nd rfl (Or.inl rfl)) pgs_nil))) (fun _ _ _ _ _ => pts_nil)
        (fun _ _ _ _ _ => pi_range1 (by rfl) T.z_range (pa_cons (pv 2) pa_nil))
        (fun _ _ _ _ _ => pg_name (i := 3) nd rfl (Or.inl rfl)) (fun _ _ _ _ _ => pts_nil) (fun _ _ _ _ _ => pv 1))), ?_⟩
    refine ⟨.ref r, rfl, r, _, rfl, hT, fun D hD => ?_⟩
    refine lc2_itA (walk_enumT (xs := xs.map V.int)) (fun i H2 => Same H H2 ∧ H2 D = some (.lst ((ticksL (xs.take i)).map V.int))) ⟨sameW hD, upd_same⟩ (fun i H2 _ pv => sameT pv.1 hT) (fun i x H2 H2' hi pvi y => ?_) (fun H2 pvn => ?_)
    · obtain ⟨s2, hd⟩ := pvi
      obtain ⟨TT, x1, x2, rfl, nT, rfl, e1, e2⟩ := y
      have hix : i < xs.length := by rw [← hlr]; exact hi
      have e2' : (xs.map V.int)[i]? = some x2 := e2
      rw [List.getElem?_map, List.getElem?_eq_getElem hix] at e2'
      obtain rfl : V.int xs[i] = x2 := Option.some.inj e2'
      have e1' : (some (V.int ((i : Nat) : Int)) : Option V) = some x1 := e1
      obtain rfl : V.int ((i : Nat) : Int) = x1 := Option.some.inj e1'
      have s4 := sameW (o := .tup [.int (i : Nat), .int xs[i]]) nT
      have h0 := hx.1 xs[i] (List.getElem_mem hix)
      have h6 := mem_le_sum hx.1 xs[i] (List.getElem_mem hix)
      have h7 := hx.2
      refine ⟨TT, _, rfl, .inl (.inl upd_same), rfl, _, _, rfl, _, _, rfl, rfl, rfl, ?_⟩
      refine ⟨_, rfl, xs[i], rfl, by omega, by omega, ?_⟩
      refine lc1_itA walk_range (fun j H3 => Same H H3 ∧ H3 D = some (.lst ((ticksL (xs.take i) ++ List.replicate j (i : Int)).map V.int))) ⟨s2.trans s4, ?_⟩ (fun _ _ _ _ => trivial) (fun j x H3 H3' hj pvj y => ?_) (fun H3 pvj => ?_)
      · rw [s4 _ _ hd, List.replicate_zero, List.append_nil]
      · obtain ⟨s5, hd5⟩ := pvj
        obtain ⟨rfl, rfl⟩ := y
        refine ⟨rfl, .int i, rfl, _, hd5, ?_, sameM s5 hD, ?_⟩
        · rw [List.length_map, List.length_append, List.length_replicate]
          have := ticks_len_le (rowTake hx i)
          exact smallK (by omega)
        · rw [upd_same]
          rw [List.replicate_succ', ← List.append_assoc, List.map_append (l₁ := ticksL (xs.take i) ++ List.replicate j (i : Int))]
          rfl
      · refine ⟨pvj.1, ?_⟩
        rw [pvj.2, List.take_add_one, List.getElem?_eq_getElem hix]
        show _ = some (HO.lst ((ticksL (xs.take i ++ [xs[i]])).map V.int))
        rw [ticks_snoc, List.length_take, show min i xs.length = i by omega]
    · refine q D H2 pvn.1 hD ?_
      rw [pvn.2, hlr, List.take_length]
/-- waits_of -/
def sp_waits_of (K : PySem.W.Frag) : Sp := fun vs H Q _ => ∃ (t r : Addr) (PP : List Pr) (xs : List Int), vs = [.ref t, .ref r] ∧ PairsAt K H t PP ∧ LimOk PP ∧ TI K H r xs ∧ RowOk xs ∧ xs.length ≤ 50000 ∧ RetT K H Q ((waitsL PP xs).map V.int)
theorem d_waits_of (T : Txt K mg C) : D0 P w K mg base "waits_of" 3 (sp_waits_of K) := by
  have nd : (["pairs", "row", "came", "went", "before", "after"] : List Str).Nodup := by decide +kernel
  refine D0.ofN (N := ["pairs", "row", "came", "went", "before", "after"]) (ps := ["pairs", "row"]) T.g_waits_of ⟨rfl, rfl, rfl, nd, rfl, by decide +kernel, by decide +kernel⟩ (fun vs H Q E h => ?_) (fun _ _ _ _ _ _ us hl => match us, hl with | [_, _], _ => rfl) (fun f cdv A outer s H vs Q E hr h => ?_)
  · obtain ⟨t, r, PP, xs, rfl, _⟩ := h; rfl
  · obtain ⟨t, r, PP, xs, rfl, hP, ok, hT, hx, hz, q⟩ := h
    have hp := passed_ok ok.g hx
    have hpl := passed_len_le ok.g hx
    refine ⟨_, pss_cons (ps_par (i := 2) (j := 3) rfl nd rfl rfl (by decide) rfl rfl (pa_cons (pe_D (d_ticks T) hr (by rfl) (pa_cons (pv 1) pa_nil)) (pa_cons (pe_D (d_ticks T) hr (by rfl) (pa_cons (pe_D (d_let T) hr (by rfl) (pa_cons (pv 0) (pa_cons (pv 1) pa_nil))) pa_nil)) pa_nil)) (by rfl))
      (pss_one (ps_ret (pe_callTy call_tuple_of (by rfl) T.z_tuple (by decide +kernel) (pa_cons (pe_lc (own := [("before", 4), ("after", 5)]) (g := gTup K 2 (gCons (gName 4) (gCons (gName 5) gNil))) (by rfl) nd (pi_zip (by rfl) T.z_zip (pa_cons (pv 2) (pa_cons (pv 3) pa_nil))) (blkOk_by (own := [("before", 4), ("after", 5)]) (N := ["pairs", "row", "came", "went", "before", "after"]) (sc := defScope sWaitsOf) (by decide +kernel))
        (fun _ _ _ _ _ => pg_tup rfl (pgs_cons (pg_name (i := 4) nd rfl (Or.inl rfl)) (pgs_cons (pg_name (i := 5) nd rfl (Or.inl rfl)) pgs_nil))) (fun _ _ _ _ _ => pts_nil) (fun _ _ _ _ _ => pe_op op_sub (pv 5) (pv 4))) pa_nil)))), ?_⟩
    refine ⟨.ref r, rfl, r, xs, rfl, hT, hx, by omega, fun L1 H1 s1 n1 e1 => ?_⟩
    refine ⟨.ref t, rfl, .ref r, rfl, t, r, PP, xs, rfl, hP.same s1, ok, sameT s1 hT, hx, hz, fun p H2 s2 hp2 => ?_⟩
    refine ⟨p, passedL PP xs, rfl, hp2, hp, by omega, fun L2 H3 s3 n3 e3 => ⟨_, _, rfl, ?_⟩⟩
    have s03 := (s1.trans s2).trans s3
    have e1' := s3 _ _ (s2 _ _ e1)
    have hl12 := ticks_same ok.g hx
    refine ⟨.ref L1, rfl, .ref L2, rfl, L1, L2, _, _, rfl, .inl (.inl e1'), .inl (.inl e3), fun D hD => ?_⟩
    have hwl : (waitsL PP xs).length = (ticksL xs).length := by unfold waitsL; rw [List.length_zipWith]; omega
    refine lc_pureA (n := (ticksL xs).length) (walk_zip (by rw [List.length_map, List.length_map]; omega)) (fun i => .int ((waitsL PP xs).getD i 0)) hD (by have := ticks_len_le hx; omega) (fun H' s' => ⟨.inl (.inl (s' _ _ e1')), .inl (.inl (s' _ _ e3))⟩) (fun i x H' H2 k hi s1 y hk => ?_) (fun H' s' hl => ?_)
    · obtain ⟨TT, x1, x2, rfl, nT, rfl, f1, f2⟩ := y
      have hi2 : i < (ticksL (passedL PP xs)).length := by omega
      have f1' : ((ticksL xs).map V.int)[i]? = some x1 := f1
      have f2' : ((ticksL (passedL PP xs)).map V.int)[i]? = some x2 := f2
      rw [List.getElem?_map, List.getElem?_eq_getElem hi] at f1'
      rw [List.getElem?_map, List.getElem?_eq_getElem hi2] at f2'
      obtain rfl : V.int (ticksL xs)[i] = x1 := Option.some.inj f1'
      obtain rfl : V.int (ticksL (passedL PP xs))[i] = x2 := Option.some.inj f2'
      refine ⟨TT, _, rfl, .inl (.inl upd_same), rfl, _, _, rfl, _, _, rfl, rfl, ?_⟩
      refine hk _ _ (sameW nT) rfl fun H3 Q' s3 hq => ?_
      refine ⟨_, rfl, _, rfl, _, _, rfl, rfl, ?_⟩
      have ew : (waitsL PP xs).getD i 0 = (ticksL (passedL PP xs))[i] - (ticksL xs)[i] := by
        show (List.zipWith (fun a b => b - a) (ticksL xs) (ticksL (passedL PP xs))).getD i 0 = _
        rw [List.getD_eq_getElem?_getD, List.getElem?_zipWith, List.getElem?_eq_getElem hi, List.getElem?_eq_getElem hi2]; rfl
      have hq2 := hq H3 s3
      rw [ew] at hq2
      exact hq2
    · refine ⟨D, _, rfl, .inl ⟨.inl (.inl hl), fun p hp => ?_⟩⟩
      refine q p _ ((s03.trans s').trans (sameW hp)) (.inl (.inl ?_))
      rw [upd_same]
      conv => rhs; rw [← range_getD (waitsL PP xs) 0, List.map_map]
      rw [hwl]; rfl
/-- waits -/
def sp_waits (K : PySem.W.Frag) (C : Addr) : Sp := fun vs H Q _ => ∃ (x r : Addr) (PP : List Pr) (xs : List Int), vs = [.ref x, .ref r] ∧ LimAt K C H x PP ∧ LimOk PP ∧ TI K H r xs ∧ RowOk xs ∧ xs.length ≤ 50000 ∧ RetT K H Q ((waitsL PP xs).map V.int)
theorem d_waits (T : Txt K mg C) : D0 P w K mg base "waits" 5 (sp_waits K C) := by
  obtain ⟨fp, fdp, pp, FP, hpp⟩ := T.prs
  refine D0.ofN (N := ["limits", "row"]) (ps := ["limits", "row"]) T.g_waits ⟨rfl, rfl, rfl, by decide +kernel, rfl, by decide +kernel, by decide +kernel⟩ (fun vs H Q E h => ?_) (fun _ _ _ _ _ _ us hl => match us, hl with | [_, _], _ => rfl) (fun f cdv A outer s H vs Q E hr h => ?_)
  · obtain ⟨x, r, PP, xs, rfl, _⟩ := h; rfl
  · obtain ⟨x, r, PP, xs, rfl, hL, ok, hT, hx, hz, q⟩ := h
    obtain ⟨dx, t, hxo, hP⟩ := id hL
    refine ⟨_, pss_cons (ps_expr (pe_D (d_need_limits T) hr (by rfl) (pa_cons (pv 0) pa_nil)))
      (pss_cons (ps_expr (pe_D (d_need_row T) hr (by rfl) (pa_cons (pv 1) pa_nil)))
      (pss_one (ps_ret (pe_D (d_waits_of T) hr (by rfl) (pa_cons (pe_pairs (k := 2) T FP hpp (hr.mono (by decide)) (pv 0)) (pa_cons (pv 1) pa_nil)))))), ?_⟩
    refine ⟨_, rfl, x, PP, rfl, hL, ?_⟩
    refine ⟨_, rfl, r, xs, rfl, hT, hx, by omega, fun H1 s1 => ?_⟩
    refine ⟨_, rfl, x, dx, _, rfl, s1 _ _ hxo, x, dx, _, .ref t, rfl, s1 _ _ hxo, kept_look _, .ref r, rfl, ?_⟩
    exact ⟨t, r, PP, xs, rfl, hP.same s1, ok, sameT s1 hT, hx, hz, fun p H2 s2 hp => q p H2 (s1.trans s2) hp⟩
end
end B45

set_option Elab.async false
set_option linter.all false
set_option maxRecDepth 100000
set_option maxHeartbeats 4000000
/-! The generator waiting. -/
namespace B45
open PySem PySem.Spec PyProof.Rows L2 BX BM GenW
section
variable {P : Program} {w : World} {K : PySem.W.Frag} {mg : Str → Option Value} {base : Heap} {C : Addr}
/-- a generator def's promise by its name -/
structure G0 (P : Program) (w : World) (K : PySem.W.Frag) (mg : Str → Option Value) (base : Heap) (x : Str) (k : Nat) (ps : List Str) (sp : SpG) : Prop where
  ex : ∃ f fd, GFn P w K mg base k f fd ps sp ∧ Binds K fd ps [] ∧ mg x = some (.ref f) ∧ PySem.W.keepIn K (.ref f) = true
theorem noStop0 {K : PySem.W.Frag} : NoStop K E0 := fun _ _ _ h => h.elim
def sp_waiting (K : PySem.W.Frag) (C : Addr) : SpG := fun vs H cont _ => ∃ (x r : Addr) (PP : List Pr) (xs : List Int), vs = [.ref x, .ref r] ∧ LimAt K C H x PP ∧ LimOk PP ∧ TI K H r xs ∧ RowOk xs ∧ xs.length ≤ 50000 ∧ ∀ H', Same H H' → cont ((waitingL PP xs).map V.int) H'
theorem d_waiting (T : Txt K mg C) : G0 P w K mg base "waiting" 6 ["limits", "row"] (sp_waiting K C) := by
  obtain ⟨fp, fdp, pp, FP, hpp⟩ := T.prs
  obtain ⟨f, fd, F, hm⟩ := T.g_waiting
  have nd : (["limits", "row", "count", "tick", "amount"] : List Str).Nodup := by decide +kernel
  obtain ⟨oc, od, kV, doc, pm, an, cdv, ct, osl, rfl, lk, hcd⟩ := F.ex
  refine ⟨f, _, ?_, F.binds (ps := ["limits", "row"]) (fun _ _ _ _ _ _ us hl => match us, hl with | [_, _], _ => rfl), hm, F.kp⟩
  refine gfn_of (N := ["limits", "row", "count", "tick", "amount"]) lk hcd ⟨rfl, rfl, rfl, nd, rfl, by decide +kernel, by decide +kernel⟩ (fun vs H Q E h => ?_) (fun A outer s H vs Q E pn hr h => ?_)
  · obtain ⟨x, r, PP, xs, rfl, _⟩ := h; rfl
  · obtain ⟨x, r, PP, xs, rfl, hL, ok, hT, hx, hz, q⟩ := h
    obtain ⟨dx, t, hxo, hP⟩ := id hL
    refine ⟨_, gss_cons (gs_ps (ps_expr (pe_D (d_need_limits T) hr (by rfl) (pa_cons (pv 0) pa_nil))))
      (gss_cons (gs_ps (ps_expr (pe_D (d_need_row T) hr (by rfl) (pa_cons (pv 1) pa_nil))))
      (gss_cons (gs_ps (ps_set (i := 2) nd rfl (.inl rfl) pe_int))
      (gss_cons (gs_for owns_gcx rfl (pi_enumT (by rfl) T.z_enumerate (pa_cons (pe_D (d_let T) hr (by rfl) (pa_cons (pe_pairs (k := 2) T FP hpp (hr.mono (by decide)) (pv 0)) (pa_cons (pv 1) pa_nil))) pa_nil)) (pg_tup rfl (pgs_cons (pg_name (i := 3) nd rfl (.inl rfl)) (pgs_cons (pg_name (i := 4) nd rfl (.inl rfl)) pgs_nil)))
        (gss_cons (gs_ps (ps_set (i := 2) nd rfl (.inl rfl) (pe_op op_sub (pe_op op_add (pv 2) (pe_ifExp (pt_cmpR op_lt (pv 3) (pe_callB call_len_seq (by rfl) T.z_len PySem.boot_len (pa_cons (pv 1) pa_nil)) (nomark _)) (pe_ix ix_tup (pv 1) (pv 3) (fun _ _ => rfl)) pe_int)) (pv 4))))
        (gss_cons (gs_yield (pv 2)) gss_nil))) gss_nil))), ?_⟩
    refine ⟨_, rfl, x, PP, rfl, hL, ?_⟩
    refine ⟨_, rfl, r, xs, rfl, hT, hx, by omega, fun H1 s1 => ?_⟩
    refine ⟨_, rfl, x, dx, _, rfl, s1 _ _ hxo, x, dx, _, .ref t, rfl, s1 _ _ hxo, kept_look _, .ref r, rfl, ?_⟩
    refine ⟨t, r, PP, xs, rfl, hP.same s1, ok, sameT s1 hT, hx, hz, fun p H2 s2 hp => ⟨p, _, rfl, hp, ?_⟩⟩
    have s12 := s1.trans s2
    have hlp : ((passedL PP xs).map V.int).length = (passedL PP xs).length := List.length_map ..
    have hlr : (xs.map V.int).length = xs.length := List.length_map ..
    have hpl := passed_len_le ok.g hx
    have wk := walk_enumT (K := K) (a := p) (xs := (passedL PP xs).map V.int)
    refine ⟨fun i m ys σ H' => m + i = (passedL PP xs).length ∧ (∃ y3 y4, σ = [some (.ref x), some (.ref r), some (.int (cum xs i - cum (passedL PP xs) i)), y3, y4]) ∧ Same H2 H' ∧ ys = ((List.range i).map fun k => cum xs (k + 1) - cum (passedL PP xs) (k + 1)).map V.int, ⟨(passedL PP xs).length, rfl, ⟨none, none, by rw [cum_zero, cum_zero]; rfl⟩, Same.refl _, rfl⟩, ?_⟩
    rintro i m ys σ H3 ⟨hm3, ⟨y3, y4, rfl⟩, s3, rfl⟩
    have hp3 := sameT s3 hp
    by_cases hi : i < (passedL PP xs).length
    · refine .inr ⟨wk.goes i H3 (by rw [hlp]; exact hi) hp3, fun ys σ H' => (∃ y3 y4, σ = [some (.ref x), some (.ref r), some (.int (cum xs (i + 1) - cum (passedL PP xs) (i + 1))), y3, y4]) ∧ Same H2 H' ∧ ys = ((List.range (i + 1)).map fun k => cum xs (k + 1) - cum (passedL PP xs) (k + 1)).map V.int, fun ys' σ' H' h => ⟨m - 1, by omega, by omega, h⟩, fun v H4 y => ?_⟩
      obtain ⟨TT, x1, x2, rfl, nT, rfl, e1, e2⟩ := wk.yields i H3 v H4 (by rw [hlp]; exact hi) hp3 y
      have e2' : ((passedL PP xs).map V.int)[i]? = some x2 := e2
      rw [List.getElem?_map, List.getElem?_eq_getElem hi] at e2'
      obtain rfl : V.int (passedL PP xs)[i] = x2 := Option.some.inj e2'
      have e1' : (some (V.int ((i : Nat) : Int)) : Option V) = some x1 := e1
      obtain rfl : V.int ((i : Nat) : Int) = x1 := Option.some.inj e1'
      have s4 := s3.trans (sameW (o := .tup [.int (i : Nat), .int (passedL PP xs)[i]]) nT)
      have hT4 := sameT (s12.trans s4) hT
      have ec1 := cum_succ xs i
      have ec2 := cum_succ (passedL PP xs) i
      have eg : (passedL PP xs).getD i 0 = (passedL PP xs)[i] := by rw [List.getD_eq_getElem?_getD, List.getElem?_eq_getElem hi]; rfl
      refine ⟨TT, _, rfl, .inl (.inl upd_same), rfl, _, _, rfl, _, _, rfl, rfl, ?_⟩
      refine ⟨.int (cum xs i - cum (passedL PP xs) i), rfl, .int i, rfl, .ref r, rfl, r, _, rfl, .inr hT4, _, _, rfl, rfl, _, rfl, ?_⟩
      rw [hlr]
      cases c1 : decide ((i : Int) < (xs.length : Int))
      case' true =>
        have hkl : i < xs.length := by have := of_decide_eq_true c1; omega
        refine iteT ⟨.ref r, rfl, .int i, rfl, r, _, i, .int (xs.getD i 0), rfl, rfl, hT4, atI_nat (j := i) (by rw [List.getElem?_map, List.getElem?_eq_getElem hkl]; simp [hkl]), ?_⟩
        refine ⟨_, xs.getD i 0, rfl, rfl, ?_⟩
      case' false =>
        have hkl : xs.getD i 0 = 0 := by
          have := of_decide_eq_false c1
          rw [List.getD_eq_getElem?_getD, List.getElem?_eq_none (by omega)]; rfl
        refine iteF ?_
        refine ⟨_, xs.getD i 0, rfl, by rw [hkl], ?_⟩
      all_goals
        refine ⟨.int (passedL PP xs)[i], rfl, _, _, rfl, rfl, ?_⟩
        refine ⟨?_, .int (cum xs i - cum (passedL PP xs) i + xs.getD i 0 - (passedL PP xs)[i]), rfl, ⟨some (.int i), some (.int (passedL PP xs)[i]), ?_⟩, s4, ?_⟩
        · rw [List.length_map, List.length_map, List.length_range]
          exact smallK (by omega)
        · rw [ec1, ec2, eg]
          show [some (V.ref x), some (V.ref r), some (V.int (cum xs i - cum (passedL PP xs) i + xs.getD i 0 - (passedL PP xs)[i])), some (V.int i), some (V.int (passedL PP xs)[i])] = _
          congr 5
          omega
        · rw [List.range_succ, List.map_append, List.map_append]
          show _ ++ [V.int (cum xs i - cum (passedL PP xs) i + xs.getD i 0 - (passedL PP xs)[i])] = _ ++ [V.int (cum xs (i + 1) - cum (passedL PP xs) (i + 1))]
          rw [ec1, ec2, eg]
          congr 3
          omega
    · have ei : i = (passedL PP xs).length := by omega
      subst ei
      exact .inl ⟨hlp ▸ wk.stops H3 hp3, q H3 (s12.trans s3)⟩
end
end B45

set_option Elab.async false
set_option linter.all false
set_option maxRecDepth 100000
set_option maxHeartbeats 4000000
/-! What the law draws. -/
namespace B45
open PySem PySem.Spec PyProof.Rows L2 BX BM
/-- everything but the pen -/
def SameX (p : Addr) (H H' : Hp) : Prop := ∀ b o, H b = some o → b ≠ p → H' b = some o
def PenAt (H : Hp) (p : Addr) : Prop := ∃ a b c : Int, H p = some (.lst [.int a, .int b, .int c])
section
variable {K : PySem.W.Frag} {C : Addr} {p : Addr} {H H' H2 : Hp}
theorem SameX.refl (p : Addr) (H : Hp) : SameX p H H := fun _ _ e _ => e
theorem Same.x (s : Same H H') : SameX p H H' := fun b o e _ => s b o e
theorem SameX.trans (s : SameX p H H') (s2 : SameX p H' H2) : SameX p H H2 := fun b o e n => s2 b o (s b o e n) n
theorem PenAt.same (s : Same H H') (h : PenAt H p) : PenAt H' p := by
  obtain ⟨a, b, c, e⟩ := h
  exact ⟨a, b, c, s _ _ e⟩
theorem PenAt.ne (h : PenAt H p) {b : Addr} {o : HO} (e : H b = some o) (n : ∀ xs, o ≠ .lst xs) : b ≠ p := fun q => by
  obtain ⟨x, y, z, e2⟩ := h
  rw [q, e2] at e
  exact n _ (Option.some.inj e).symm
theorem SameX.tup (s : SameX p H H') (h : PenAt H p) {a : Addr} {xs : List V} (hT : SqT K H a xs) : SqT K H' a xs := by
  rcases hT with (z | ⟨o, z⟩) | z
  · exact .inl (.inl (s _ _ z (h.ne z fun _ q => by cases q)))
  · exact .inl (.inr ⟨o, s _ _ z (h.ne z fun _ q => by cases q)⟩)
  · exact .inr z
theorem SameX.pairs (s : SameX p H H') (h : PenAt H p) {t : Addr} {PP : List Pr} (hP : PairsAt K H t PP) : PairsAt K H' t PP := by
  obtain ⟨as, h1, h2, h3⟩ := hP
  exact ⟨as, s.tup h h1, h2, fun i a q x y => s.tup h (h3 i a q x y)⟩
theorem SameX.lim (s : SameX p H H') (h : PenAt H p) {x : Addr} {PP : List Pr} (hL : LimAt K C H x PP) : LimAt K C H' x PP := by
  obtain ⟨dx, t, h1, h2⟩ := hL
  exact ⟨dx, t, s _ _ h1 (h.ne h1 fun _ q => by cases q), s.pairs h h2⟩
theorem SameX.new (s : SameX p H H') (h : PenAt H p) {d : Addr} {o : HO} (hd : H d = none) : SameX p H (upd H' d o) := fun b u e n => by
  rw [upd_ne (ne_of_none e hd)]; exact s b u e n
theorem SameX.put (s : SameX p H H') (o : HO) : SameX p H (upd H' p o) := fun b u e n => by
  rw [upd_ne n]; exact s b u e n
end
section
variable {P : Program} {w : World} {K : PySem.W.Frag} {mg : Str → Option Value} {base : Heap} {C : Addr}
/-- _law_cell -/
def sp_cell (K : PySem.W.Frag) : Sp := fun vs H Q _ => ∃ (l : Addr) (ns : List Int) (j : Nat), vs = [.ref l, .int (j : Nat)] ∧ SqL K H l (ns.map V.int) ∧ ∀ v : Int, Q (.int v) H
theorem d_cell (T : Txt K mg C) : D0 P w K mg base "_law_cell" 1 (sp_cell K) := by
  refine D0.ofN (N := ["_law_script", "_law_k"]) (ps := ["_law_script", "_law_k"]) T.g_cell ⟨rfl, rfl, rfl, by decide +kernel, rfl, by decide +kernel, by decide +kernel⟩ (fun vs H Q E h => ?_) (fun _ _ _ _ _ _ us hl => match us, hl with | [_, _], _ => rfl) (fun f cdv A outer s H vs Q E hr h => ?_)
  · obtain ⟨l, ns, j, rfl, _⟩ := h; rfl
  · obtain ⟨l, ns, j, rfl, hS, q⟩ := h
    have hln : (ns.map V.int).length = ns.length := List.length_map ..
    refine ⟨_, pss_one (ps_ret (pe_ifExp (pt_cmpR op_lt (pv 1) (pe_callB call_len_seq (by rfl) T.z_len PySem.boot_len (pa_cons (pv 0) pa_nil)) (nomark _)) (pe_ix ix_list (pv 0) (pv 1) (fun _ _ => rfl)) pe_int)), ?_⟩
    refine ⟨.int j, rfl, .ref l, rfl, l, _, rfl, .inl hS, _, _, rfl, rfl, _, rfl, ?_⟩
    rw [hln]
    cases c1 : decide ((j : Int) < (ns.length : Int)) with
    | true =>
      have hj : j < ns.length := by have := of_decide_eq_true c1; omega
      exact iteT ⟨.ref l, rfl, .int j, rfl, l, _, j, .int ns[j], rfl, rfl, hS, atI_nat (j := j) (by rw [List.getElem?_map, List.getElem?_eq_getElem hj]; rfl), q _⟩
    | false => exact iteF (q 0)
/-- _law_pen -/
def sp_pen : Sp := fun vs H Q _ => ∃ c : Int, vs = [.int c] ∧ ∀ p H', Same H H' → H p = none → PenAt H' p → Q (.ref p) H'
theorem d_pen (T : Txt K mg C) : D0 P w K mg base "_law_pen" 1 sp_pen := by
  refine D0.ofN (N := ["_law_cell_here"]) (ps := ["_law_cell_here"]) T.g_pen ⟨rfl, rfl, rfl, by decide +kernel, rfl, by decide +kernel, by decide +kernel⟩ (fun vs H Q E h => ?_) (fun _ _ _ _ _ _ us hl => match us, hl with | [_], _ => rfl) (fun f cdv A outer s H vs Q E hr h => ?_)
  · obtain ⟨c, rfl, _⟩ := h; rfl
  · obtain ⟨c, rfl, q⟩ := h
    refine ⟨_, pss_one (ps_ret (pe_lst (pa_cons (pe_callB (call_max2 rfl) (by rfl) T.z_max (by decide +kernel) (pa_cons pe_int (pa_cons (pe_op op_sub (pv 0) (pe_op op_pow pe_int pe_int)) pa_nil)))
      (pa_cons (pe_op op_add (pe_op op_mod (pv 0) pe_int) pe_int) (pa_cons pe_int pa_nil))))), ?_⟩
    refine ⟨.int c, rfl, _, _, rfl, rfl, ⟨by decide, by decide, by decide⟩, _, _, rfl, rfl, ?_⟩
    refine ⟨_, _, rfl, .int c, rfl, _, _, rfl, rfl, (show (0 : Int) < 2147483629 by decide), _, _, rfl, rfl, (by show 3 ≤ sizeLine; decide), fun p hp => ?_⟩
    exact q p _ (sameW hp) hp ⟨_, _, _, upd_same⟩
/-- _law_draw -/
def sp_draw : Sp := fun vs H Q _ => ∃ (p : Addr) (c : Int), vs = [.ref p, .int c] ∧ PenAt H p ∧ 0 < c ∧ c < 1073741824 ∧ ∀ n H', 0 ≤ n → n < c → SameX p H H' → PenAt H' p → Q (.int n) H'
theorem d_draw (T : Txt K mg C) : D0 P w K mg base "_law_draw" 1 sp_draw := by
  have nd : (["_law_pen_here", "_law_count", "_law_found", "_law_stirred"] : List Str).Nodup := by decide +kernel
  refine D0.ofN (N := ["_law_pen_here", "_law_count", "_law_found", "_law_stirred"]) (ps := ["_law_pen_here", "_law_count"]) T.g_draw ⟨rfl, rfl, rfl, nd, rfl, by decide +kernel, by decide +kernel⟩ (fun vs H Q E h => ?_) (fun _ _ _ _ _ _ us hl => match us, hl with | [_, _], _ => rfl) (fun f cdv A outer s H vs Q E hr h => ?_)
  · obtain ⟨p, c, rfl, _⟩ := h; rfl
  · obtain ⟨p, c, rfl, ⟨a, b, d, hp⟩, hc, hc2, q⟩ := h
    refine ⟨_, pss_cons (ps_if (pt_cmpR op_gt (pe_ix ix_list (pv 0) pe_int (fun _ _ => rfl)) pe_int (nomark _))
        (pss_cons (ps_set (i := 2) nd rfl (.inl rfl) (pe_op op_mod (pe_ix ix_list (pv 0) pe_int (fun _ _ => rfl)) (pv 1)))
        (pss_cons (ps_asg (pe_op op_fdiv (pe_ix ix_list (pv 0) pe_int (fun _ _ => rfl)) (pv 1)) (pg_sub (pv 0) pe_int set_list))
        (pss_one (ps_ret (pv 2))))) pss_nil)
      (pss_cons (ps_asg (pe_op op_add (pe_ix ix_list (pv 0) pe_int (fun _ _ => rfl)) pe_int) (pg_sub (pv 0) pe_int set_list))
      (pss_cons (ps_asg (pe_op op_mod (pe_op op_add (pe_op op_add (pe_op op_mul (pe_ix ix_list (pv 0) pe_int (fun _ _ => rfl)) pe_int) (pe_op op_mul pe_int (pe_ix ix_list (pv 0) pe_int (fun _ _ => rfl)))) pe_int) pe_int) (pg_sub (pv 0) pe_int set_list))
      (pss_cons (ps_set (i := 3) nd rfl (.inl rfl) (pe_op op_mod (pe_op op_add (pe_op op_add (pe_op op_mul (pe_ix ix_list (pv 0) pe_int (fun _ _ => rfl)) (pe_ix ix_list (pv 0) pe_int (fun _ _ => rfl))) (pe_op op_mul pe_int (pe_ix ix_list (pv 0) pe_int (fun _ _ => rfl)))) pe_int) pe_int))
      (pss_cons (ps_set (i := 3) nd rfl (.inl rfl) (pe_op op_mod (pe_op op_add (pe_op op_mul (pv 3) (pv 3)) (pe_op op_mul pe_int (pv 3))) pe_int))
      (pss_one (ps_ret (pe_op op_mod (pe_op op_fdiv (pv 3) pe_int) (pv 1)))))))), ?_⟩
    refine ⟨.ref p, rfl, p, _, 0, _, rfl, rfl, .inl (.inl hp), atI_nat (j := 0) rfl, _, _, rfl, rfl, _, rfl, ?_⟩
    cases c1 : decide ((0 : Int) < a) with
    | true =>
      refine iteT ⟨.ref p, rfl, p, _, 0, _, rfl, rfl, .inl (.inl hp), atI_nat (j := 0) rfl, .int c, rfl, _, _, rfl, rfl, hc, ?_⟩
      refine ⟨.ref p, rfl, p, _, 0, _, rfl, rfl, .inl (.inl hp), atI_nat (j := 0) rfl, .int c, rfl, _, _, rfl, rfl, ⟨hc, hc2⟩, ?_⟩
      refine ⟨.ref p, rfl, p, _, 0, 0, rfl, rfl, hp, rfl, .int (a % c), rfl, ?_⟩
      exact q _ _ (Int.emod_nonneg _ (by omega)) (Int.emod_lt_of_pos _ hc) ((SameX.refl p H).put _) ⟨_, _, _, upd_same⟩
    | false =>
      refine iteF ?_
      refine ⟨.ref p, rfl, p, _, 2, _, rfl, rfl, .inl (.inl hp), atI_nat (j := 2) rfl, _, _, rfl, rfl, ?_⟩
      refine ⟨.ref p, rfl, p, _, 2, 2, rfl, rfl, hp, rfl, ?_⟩
      have hp1 : (upd H p (.lst [.int a, .int b, .int (d + 1)])) p = some (.lst [.int a, .int b, .int (d + 1)]) := upd_same
      refine ⟨.ref p, rfl, p, _, 1, _, rfl, rfl, .inl (.inl hp1), atI_nat (j := 1) rfl, _, _, rfl, rfl, .inr ⟨by decide, by decide⟩, ?_⟩
      refine ⟨.ref p, rfl, p, _, 2, _, rfl, rfl, .inl (.inl hp1), atI_nat (j := 2) rfl, _, _, rfl, rfl, .inl ⟨by decide, by decide⟩, ?_⟩
      refine ⟨_, _, rfl, rfl, _, _, rfl, rfl, _, _, rfl, rfl, (show (0 : Int) < 2147483647 by decide), ?_⟩
      refine ⟨.ref p, rfl, p, _, 1, 1, rfl, rfl, hp1, rfl, ?_⟩
      obtain ⟨e, he⟩ : ∃ e, (b * 48271 + 1009 * (d + 1) + 7) % 2147483647 = e := ⟨_, rfl⟩
      have he1 : 0 ≤ e := by omega
      have he2 : e < 2147483647 := by omega
      have hp2 : (upd (upd H p (.lst [.int a, .int b, .int (d + 1)])) p (.lst [.int a, .int ((b * 48271 + 1009 * (d + 1) + 7) % 2147483647), .int (d + 1)])) p = some (.lst [.int a, .int e, .int (d + 1)]) := by rw [upd_same, he]
      have c64 : -(2 ^ 64) < e ∧ e < 2 ^ 64 := by constructor <;> omega
      refine ⟨.ref p, rfl, p, _, 1, _, rfl, rfl, .inl (.inl hp2), atI_nat (j := 1) rfl, .ref p, rfl, p, _, 1, _, rfl, rfl, .inl (.inl hp2), atI_nat (j := 1) rfl, _, _, rfl, rfl, .inl c64, ?_⟩
      refine ⟨.ref p, rfl, p, _, 1, _, rfl, rfl, .inl (.inl hp2), atI_nat (j := 1) rfl, _, _, rfl, rfl, .inr c64, _, _, rfl, rfl, _, _, rfl, rfl, _, _, rfl, rfl, (show (0 : Int) < 2147483629 by decide), ?_⟩
      have g64 : -(2 ^ 64) < (e * e + 69621 * e + 11) % 2147483629 ∧ (e * e + 69621 * e + 11) % 2147483629 < 2 ^ 64 := by
        generalize hg : (e * e + 69621 * e + 11) % 2147483629 = g
        have hg1 : 0 ≤ g := by rw [← hg]; exact Int.emod_nonneg _ (by decide)
        have hg2 : g < 2147483629 := by rw [← hg]; exact Int.emod_lt_of_pos _ (by decide)
        constructor <;> omega
      refine ⟨_, rfl, _, rfl, _, _, rfl, rfl, .inl g64, _, rfl, _, _, rfl, rfl, .inr g64, _, _, rfl, rfl, _, _, rfl, rfl, (show (0 : Int) < 2147483587 by decide), ?_⟩
      refine ⟨_, rfl, _, _, rfl, rfl, (show (0 : Int) < 16 ∧ (16 : Int) < 1073741824 by decide), .int c, rfl, _, _, rfl, rfl, hc, ?_⟩
      exact q _ _ (Int.emod_nonneg _ (by omega)) (Int.emod_lt_of_pos _ hc) (((SameX.refl p H).put _).put _) ⟨_, _, _, hp2⟩
end
end B45

set_option Elab.async false
set_option linter.all false
set_option maxRecDepth 100000
set_option maxHeartbeats 4000000
/-! The law's limits and rows. -/
namespace B45
open PySem PySem.Spec PyProof.Rows L2 BX BM
theorem pick {l : List Int} {n : Int} (h0 : 0 ≤ n) (h1 : n < l.length) : ∃ v ∈ l, atI (l.map V.int) n = some (.int v) := by
  obtain ⟨j, rfl⟩ : ∃ j : Nat, n = j := ⟨n.toNat, by omega⟩
  have hj : j < l.length := by omega
  exact ⟨l[j], List.getElem_mem hj, atI_nat (by rw [List.getElem?_map, List.getElem?_eq_getElem hj]; rfl)⟩
theorem keepT {K : PySem.W.Frag} {H : Hp} {a D : Addr} {xs ys : List V} {o : HO} (hD : H D = some (.lst ys)) (h : SqT K H a xs) : SqT K (upd H D o) a xs := by
  have ne : ∀ {u : HO}, H a = some u → (∀ zs, u ≠ .lst zs) → (upd H D o) a = some u := fun {u} e n => by
    rw [upd_ne (fun q => by rw [q, hD] at e; exact n _ (Option.some.inj e).symm)]; exact e
  rcases h with (z | ⟨u, z⟩) | z
  · exact .inl (.inl (ne z fun _ q => by cases q))
  · exact .inl (.inr ⟨u, ne z fun _ q => by cases q⟩)
  · exact .inr z
def PairsL (K : PySem.W.Frag) (H : Hp) (D : Addr) (PP : List Pr) : Prop := ∃ as : List Addr, H D = some (.lst (as.map V.ref)) ∧ as.length = PP.length ∧ ∀ (i : Nat) (a : Addr) (q : Pr), as[i]? = some a → PP[i]? = some q → SqT K H a [V.int q.1, V.int q.2]
theorem SameX.pairsL {K : PySem.W.Frag} {p D : Addr} {H H' : Hp} (s : SameX p H H') (h : PenAt H p) (n : D ≠ p) {PP : List Pr} (hP : PairsL K H D PP) : PairsL K H' D PP := by
  obtain ⟨as, h1, h2, h3⟩ := hP
  exact ⟨as, s _ _ h1 n, h2, fun i a q x y => s.tup h (h3 i a q x y)⟩
theorem pen_ne {H : Hp} {p D : Addr} (h : PenAt H p) (hD : H D = none) : D ≠ p := fun e => by
  obtain ⟨a, b, c, q⟩ := h
  rw [e, q] at hD; cases hD
section
variable {P : Program} {w : World} {K : PySem.W.Frag} {mg : Str → Option Value} {base : Heap} {C : Addr}
/-- _law_pairs -/
def sp_lpairs (K : PySem.W.Frag) : Sp := fun vs H Q _ => ∃ (p : Addr) (m : Int), vs = [.ref p, .int m] ∧ PenAt H p ∧ 0 < m ∧ m ≤ 6 ∧
  ∀ D H' PP, SameX p H H' → PenAt H' p → H D = none → PairsL K H' D PP → Good PP → PP.Nodup → (PP.length : Int) ≤ m → Q (.ref D) H'
theorem d_lpairs (T : Txt K mg C) : D0 P w K mg base "_law_pairs" 2 (sp_lpairs K) := by
  have nd : (["_law_pen_here", "_law_most", "_law_found", "_law_lap", "_law_length", "_law_number", "_law_pair"] : List Str).Nodup := by decide +kernel
  refine D0.ofN (N := ["_law_pen_here", "_law_most", "_law_found", "_law_lap", "_law_length", "_law_number", "_law_pair"]) (ps := ["_law_pen_here", "_law_most"]) T.g_pairs ⟨rfl, rfl, rfl, nd, rfl, by decide +kernel, by decide +kernel⟩ (fun vs H Q E h => ?_) (fun _ _ _ _ _ _ us hl => match us, hl with | [_, _], _ => rfl) (fun f cdv A outer s H vs Q E hr h => ?_)
  · obtain ⟨p, c, rfl, _⟩ := h; rfl
  · obtain ⟨p, m, rfl, hp, hm1, hm2, q⟩ := h
    refine ⟨_, pss_cons (ps_set (i := 2) nd rfl (.inl rfl) (pe_lst pa_nil))
      (pss_cons (ps_for PassesOwn.never rfl (pi_range1 (by rfl) T.z_range (pa_cons (pe_op op_add pe_int (pe_D (d_draw T) hr (by rfl) (pa_cons (pv 0) (pa_cons (pv 1) pa_nil)))) pa_nil)) (pg_name (i := 3) nd rfl (.inl rfl))
        (pss_cons (ps_set (i := 4) nd rfl (.inl rfl) (pe_ix ix_list (pe_lst (pa_cons pe_int (pa_cons pe_int (pa_cons pe_int (pa_cons pe_int (pa_cons pe_int (pa_cons pe_int (pa_cons pe_int (pa_cons (pe_op op_add pe_int (pe_D (d_draw T) hr (by rfl) (pa_cons (pv 0) (pa_cons pe_int pa_nil)))) pa_nil))))))))) (pe_D (d_draw T) hr (by rfl) (pa_cons (pv 0) (pa_cons pe_int pa_nil))) (fun _ _ => rfl)))
        (pss_cons (ps_set (i := 5) nd rfl (.inl rfl) (pe_ix ix_list (pe_lst (pa_cons pe_int (pa_cons pe_int (pa_cons pe_int (pa_cons pe_int (pa_cons pe_int (pa_cons pe_int (pa_cons (pe_op op_add pe_int (pe_D (d_draw T) hr (by rfl) (pa_cons (pv 0) (pa_cons pe_int pa_nil)))) pa_nil)))))))) (pe_D (d_draw T) hr (by rfl) (pa_cons (pv 0) (pa_cons pe_int pa_nil))) (fun _ _ => rfl)))
        (pss_cons (ps_set (i := 6) nd rfl (.inl rfl) (pe_tup (pa_cons (pv 4) (pa_cons (pe_callB (call_max2 rfl) (by rfl) T.z_max (by decide +kernel) (pa_cons (pv 5) (pa_cons (pe_op op_fdiv (pe_op op_add (pv 4) pe_int) pe_int) pa_nil))) pa_nil))))
        (pss_one (ps_if (pt_cmpR (op_notInD (units65 hr)) (pv 6) (pv 2) (by rfl)) (pss_one (ps_expr (pe_bm PySem.F.plainAttrs_list PySem.F.slot_list_append PySem.F.type_list_append mt_append (pv 2) (pa_cons (pv 6) pa_nil)))) pss_nil))))))
      (pss_one (ps_ret (pv 2)))), ?_⟩
    refine ⟨(by show 0 ≤ sizeLine; decide), fun D hD => ?_⟩
    have nDp := pen_ne hp hD
    refine ⟨.ref p, rfl, .int m, rfl, p, m, rfl, hp.same (sameW hD), hm1, by omega, fun n H1 hn0 hn1 s1 hp1 => ?_⟩
    have s01 : SameX p H H1 := (Same.x (sameW hD)).trans s1
    have hD1 : H1 D = some (.lst []) := s1 _ _ upd_same nDp
    refine ⟨_, _, rfl, rfl, 1 + n, rfl, by omega, by omega, ?_⟩
    refine for_it walk_range (fun i σ H2 => (∃ y3 y4 y5 y6, σ = [some (.ref p), some (.int m), some (.ref D), y3, y4, y5, y6]) ∧ SameX p H H2 ∧ PenAt H2 p ∧ ∃ PP, PairsL K H2 D PP ∧ GoodP PP ∧ PP.Nodup ∧ PP.length ≤ i ∧ (0 < i → PP ≠ [])) ⟨⟨_, _, _, _, rfl⟩, s01, hp1, [], ⟨[], hD1, rfl, fun i a q x y => by cases x⟩, fun _ h => (by cases h), List.nodup_nil, Nat.zero_le _, fun h => absurd h (Nat.lt_irrefl _)⟩ (fun _ _ _ _ _ => trivial) (fun i x σ H2o H2 hi pvi y => ?_) (fun σ H2 pvn => ?_)
    · obtain ⟨⟨y3, y4, y5, y6, rfl⟩, s2, hp2, PP, hP2, hg, hnd, hlen, hne⟩ := pvi
      obtain ⟨rfl, rfl⟩ := y
      -- the length
      refine ⟨.ref p, rfl, p, 20, rfl, hp2, by decide, by decide, fun d3 H3 hd30 hd31 s3 hp3 => ?_⟩
      refine ⟨_, _, rfl, rfl, (by show 8 ≤ sizeLine; decide), fun L3 hL3 => ?_⟩
      have nL3 := pen_ne hp3 hL3
      refine ⟨.ref p, rfl, p, 8, rfl, hp3.same (sameW hL3), by decide, by decide, fun d4 H4 hd40 hd41 s4 hp4 => ?_⟩
      have s24 := ((s3.trans (Same.x (sameW hL3))).trans s4 : SameX p H2 H4)
      have e3 : H4 L3 = some (.lst (([1, 2, 3, 4, 6, 9, 20, 1 + d3] : List Int).map V.int)) := s4 _ _ upd_same nL3
      obtain ⟨l, hl, al⟩ := pick (l := [1, 2, 3, 4, 6, 9, 20, 1 + d3]) hd40 hd41
      have hl1 : 1 ≤ l ∧ l ≤ 20 := by
        simp only [List.mem_cons, List.not_mem_nil, or_false] at hl
        omega
      refine ⟨L3, _, d4, .int l, rfl, rfl, .inl (.inl e3), al, ?_⟩
      -- the number
      refine ⟨.ref p, rfl, p, 20, rfl, hp4, by decide, by decide, fun d5 H5 hd50 hd51 s5 hp5 => ?_⟩
      refine ⟨_, _, rfl, rfl, (by show 7 ≤ sizeLine; decide), fun L5 hL5 => ?_⟩
      have nL5 := pen_ne hp5 hL5
      refine ⟨.ref p, rfl, p, 7, rfl, hp5.same (sameW hL5), by decide, by decide, fun d6 H6 hd60 hd61 s6 hp6 => ?_⟩
      have s26 := s24.trans ((s5.trans (Same.x (sameW hL5))).trans s6)
      have e5 : H6 L5 = some (.lst (([1, 2, 3, 5, 8, 20, 1 + d5] : List Int).map V.int)) := s6 _ _ upd_same nL5
      obtain ⟨k, hk, ak⟩ := pick (l := [1, 2, 3, 5, 8, 20, 1 + d5]) hd60 hd61
      have hk1 : 1 ≤ k ∧ k ≤ 20 := by
        simp only [List.mem_cons, List.not_mem_nil, or_false] at hk
        omega
      refine ⟨L5, _, d6, .int k, rfl, rfl, .inl (.inl e5), ak, ?_⟩
      -- the pair
      refine ⟨.int l, rfl, .int k, rfl, .int l, rfl, _, _, rfl, rfl, _, _, rfl, rfl, (show (0 : Int) < 3 ∧ (3 : Int) < 1073741824 by decide), k, (l + 2) / 3, rfl, (by show 2 ≤ sizeLine; decide), fun TT hTT => ?_⟩
      obtain ⟨mx, hmx⟩ : ∃ mx, (if (l + 2) / 3 > k then (l + 2) / 3 else k) = mx := ⟨_, rfl⟩
      have hmx1 : 1 ≤ mx ∧ mx ≤ 20 := by
        rw [← hmx]; split <;> omega
      have eT : (upd H6 TT (.tup [.int l, .int (if (l + 2) / 3 > k then (l + 2) / 3 else k)])) TT = some (.tup [.int l, .int mx]) := by rw [upd_same, hmx]
      have s67 : Same H6 (upd H6 TT (.tup [.int l, .int (if (l + 2) / 3 > k then (l + 2) / 3 else k)])) := sameW hTT
      have hp7 := hp6.same s67
      have s27 := s26.trans (Same.x s67)
      have hP7 := s27.pairsL hp2 nDp hP2
      have hH := s2.trans s27
      obtain ⟨as, a1, a2, a3⟩ := id hP7
      have hTq : SqT K (upd H6 TT (.tup [.int l, .int (if (l + 2) / 3 > k then (l + 2) / 3 else k)])) TT [V.int ((l, mx) : Pr).1, V.int ((l, mx) : Pr).2] := .inl (.inl eT)
      refine ⟨.ref TT, rfl, .ref D, rfl, dPr (l, mx), PP.map dPr, dp_row (xs := [l, mx]) hTq, .lst (.inl (.inl a1)) (dp_prs as PP a2 a3), dPr_shaped _, lPrs_shaped _, _, rfl, ?_⟩
      rw [prs_any]
      cases c1 : decide ((l, mx) ∈ PP) with
      | true =>
        refine iteF ?_
        have hin := of_decide_eq_true c1
        exact ⟨⟨_, _, _, _, rfl⟩, hH, hp7, PP, hP7, hg, hnd, by omega, fun _ e => by rw [e] at hin; cases hin⟩
      | false =>
        have hin : (l, mx) ∉ PP := of_decide_eq_false c1
        have hsz : (as.map V.ref).length < sizeLine := by rw [List.length_map, a2]; exact smallK (by omega)
        refine iteT ⟨.ref D, rfl, .inl ⟨rfl, _, .inl (.inl a1)⟩, .ref TT, rfl, D, _, _, rfl, rfl, a1, hsz, ?_⟩
        refine ⟨⟨_, _, _, _, rfl⟩, hH.new hp hD, ?_, PP ++ [(l, mx)], ⟨as ++ [TT], ?_, ?_, fun j a z e1 e2 => ?_⟩, ?_, ?_, ?_, fun _ e => by simp at e⟩
        · obtain ⟨z1, z2, z3, z4⟩ := hp7
          exact ⟨z1, z2, z3, by rw [upd_ne (Ne.symm nDp)]; exact z4⟩
        · rw [upd_same, List.map_append]; rfl
        · rw [List.length_append, List.length_append, a2]; rfl
        · refine keepT a1 ?_
          by_cases hj : j < as.length
          · rw [List.getElem?_append_left hj] at e1
            rw [List.getElem?_append_left (by omega)] at e2
            exact a3 j a z e1 e2
          · rw [List.getElem?_append_right (by omega)] at e1
            rw [List.getElem?_append_right (by omega), ← a2] at e2
            have : j - as.length = 0 := by
              cases q : j - as.length with
              | zero => rfl
              | succ n => rw [q] at e1; cases e1
            rw [this] at e1 e2
            obtain rfl : TT = a := Option.some.inj e1
            obtain rfl : (l, mx) = z := Option.some.inj e2
            exact hTq
        · intro z hz
          rcases List.mem_append.mp hz with h | h
          · exact hg z h
          · obtain rfl : z = (l, mx) := by simpa using h
            exact ⟨hl1.1, hl1.2, hmx1.1, hmx1.2⟩
        · refine List.nodup_append.mpr ⟨hnd, by simp, fun a ha b hb e => hin ?_⟩
          obtain rfl : b = (l, mx) := by simpa using hb
          rw [← e]; exact ha
        · rw [List.length_append]
          show PP.length + 1 ≤ i + 1
          omega
    · obtain ⟨⟨y3, y4, y5, y6, rfl⟩, s2, hp2, PP, hP2, hg, hnd, hlen, hne⟩ := pvn
      exact ⟨.ref D, rfl, q D H2 PP s2 hp2 hD hP2 ⟨hg, hne (by omega)⟩ hnd (by omega)⟩
end
end B45

set_option Elab.async false
set_option linter.all false
set_option maxRecDepth 100000
set_option maxHeartbeats 4000000
/-! The law's limits and rows, 2. -/
namespace B45
open PySem PySem.Spec PyProof.Rows L2 BX BM
section
variable {P : Program} {w : World} {K : PySem.W.Frag} {mg : Str → Option Value} {base : Heap} {C : Addr}
theorem one_ok {q : Pr} (h : 1 ≤ q.1 ∧ q.1 ≤ 20 ∧ 1 ≤ q.2 ∧ q.2 ≤ 20) : LimOk [(q.1, q.2)] := by
  refine ⟨⟨fun p hp => ?_, by simp⟩, by simp, by simp⟩
  have e : p = (q.1, q.2) := by simpa using hp
  rw [e]; exact h
/-- _law_limits -/
def sp_llim (K : PySem.W.Frag) (C : Addr) : Sp := fun vs H Q _ => ∃ (D : Addr) (PP : List Pr), vs = [.ref D] ∧ PairsL K H D PP ∧ Good PP ∧ PP.length ≤ 6 ∧
  ∀ x H' PP', Same H H' → LimAt K C H' x PP' → LimOk PP' → PP'.length ≤ PP.length → Q (.ref x) H'
theorem d_llim (T : Txt K mg C) : D0 P w K mg base "_law_limits" 8 (sp_llim K C) := by
  have nd : (["_law_pairs_here", "_law_made", "_law_length", "_law_number"] : List Str).Nodup := by decide +kernel
  obtain ⟨fs, fds, ps, mcs, FS, cr, cm⟩ := T.sgl
  obtain ⟨fa, fda, FA, AO⟩ := T.add
  refine D0.ofN (N := ["_law_pairs_here", "_law_made", "_law_length", "_law_number"]) (ps := ["_law_pairs_here"]) T.g_limits ⟨rfl, rfl, rfl, nd, rfl, by decide +kernel, by decide +kernel⟩ (fun vs H Q E h => ?_) (fun _ _ _ _ _ _ us hl => match us, hl with | [_], _ => rfl) (fun f cdv A outer s H vs Q E hr h => ?_)
  · obtain ⟨D, PP, rfl, _⟩ := h; rfl
  · obtain ⟨D, PP, rfl, hP, hg, hlen, q⟩ := h
    obtain ⟨as, a1, a2, a3⟩ := id hP
    have hpos : 0 < PP.length := List.length_pos_iff.mpr hg.ne
    have hal : (as.map V.ref).length = PP.length := by rw [List.length_map, a2]
    have ha0 : 0 < as.length := by omega
    refine ⟨_, pss_cons (ps_set (i := 1) nd rfl (.inl rfl) (ClX.pe_cmeth (pe_glob (v := .ref C) (by rfl) T.mgC rfl) cr cm (f_single T FS) hr passL (pa_cons (pe_ix ix_tup (pe_ix ix_list (pv 0) pe_int (fun _ _ => rfl)) pe_int (fun _ _ => rfl)) (pa_cons (pe_ix ix_tup (pe_ix ix_list (pv 0) pe_int (fun _ _ => rfl)) pe_int (fun _ _ => rfl)) pa_nil))))
      (pss_cons (ps_for PassesOwn.never rfl (pi_list (pe_slice sl_list (pv 0) (po_some pe_int) po_none)) (pg_tup rfl (pgs_cons (pg_name (i := 2) nd rfl (.inl rfl)) (pgs_cons (pg_name (i := 3) nd rfl (.inl rfl)) pgs_nil)))
        (pss_one (ps_set (i := 1) nd rfl (.inl rfl) (pe_op (op_addOwn AO (f_add T FA) hr passL) (pv 1) (ClX.pe_cmeth (pe_glob (v := .ref C) (by rfl) T.mgC rfl) cr cm (f_single T FS) hr passL (pa_cons (pv 2) (pa_cons (pv 3) pa_nil)))))))
      (pss_one (ps_ret (pv 1)))), ?_⟩
    have h0 : (as.map V.ref)[0]? = some (V.ref as[0]) := by rw [List.getElem?_map, List.getElem?_eq_getElem ha0]; rfl
    have hq0 := a3 0 as[0] PP[0] (List.getElem?_eq_getElem ha0) (List.getElem?_eq_getElem hpos)
    refine ⟨rfl, .ref D, rfl, D, _, 0, _, rfl, rfl, .inl (.inl a1), atI_nat (j := 0) h0, as[0], _, 0, _, rfl, rfl, hq0, atI_nat (j := 0) rfl, ?_⟩
    refine ⟨.ref D, rfl, D, _, 0, _, rfl, rfl, .inl (.inl a1), atI_nat (j := 0) h0, as[0], _, 1, _, rfl, rfl, hq0, atI_nat (j := 1) rfl, ?_⟩
    refine ⟨PP[0].1, PP[0].2, rfl, one_ok (hg.g _ (List.getElem_mem hpos)), fun x H1 s1 hx => ?_⟩
    have a1' := s1 _ _ a1
    refine ⟨.ref D, rfl, 1, rfl, D, _, rfl, .inl (.inl a1'), fun L hL => ?_⟩
    have s2 : Same H (upd H1 L (.lst (cutV (as.map V.ref) (some 1) none))) := s1.trans (sameW hL)
    have eL : cutV (as.map V.ref) (some 1) none = (as.map V.ref).drop 1 := cutV_n0 _ 1
    have hL2 : (upd H1 L (.lst (cutV (as.map V.ref) (some 1) none))) L = some (.lst ((as.map V.ref).drop 1)) := by rw [upd_same, eL]
    refine ⟨L, rfl, ⟨_, .inl (.inl hL2)⟩, ?_⟩
    refine for_it (walk_list (xs := (as.map V.ref).drop 1)) (fun i σ H2 => Same (upd H1 L (.lst (cutV (as.map V.ref) (some 1) none))) H2 ∧ ∃ x y2 y3 PP', σ = [some (.ref D), some (.ref x), y2, y3] ∧ LimAt K C H2 x PP' ∧ LimOk PP' ∧ PP'.length ≤ i + 1) ⟨Same.refl _, x, _, _, _, rfl, hx.same (sameW hL), one_ok (hg.g _ (List.getElem_mem hpos)), Nat.le_refl _⟩ (fun i σ H2 _ pv => .inl (.inl (pv.1 _ _ hL2))) (fun i v σ H2o H2 hi pvi y => ?_) (fun σ H2 pvn => ?_)
    · obtain ⟨s3, x, y2, y3, PP', rfl, hx2, ok2, hl2⟩ := pvi
      obtain ⟨rfl, hy⟩ := y
      have hi2 : i + 1 < PP.length := by rw [List.length_drop, hal] at hi; omega
      have hia : i + 1 < as.length := by omega
      rw [List.getElem?_drop, Nat.add_comm 1 i, List.getElem?_map, List.getElem?_eq_getElem hia] at hy
      obtain rfl : V.ref as[i + 1] = v := Option.some.inj hy
      have hq := sameT (s2.trans s3) (a3 (i + 1) as[i + 1] PP[i + 1] (List.getElem?_eq_getElem hia) (List.getElem?_eq_getElem hi2))
      refine ⟨as[i + 1], _, rfl, hq, rfl, _, _, rfl, _, _, rfl, rfl, ?_⟩
      refine ⟨.ref x, rfl, rfl, _, rfl, _, rfl, PP[i + 1].1, PP[i + 1].2, rfl, one_ok (hg.g _ (List.getElem_mem hi2)), fun z H4 s4 hz => ?_⟩
      have hx4 := hx2.same s4
      obtain ⟨dx, t, e1, e2⟩ := id hx4
      obtain ⟨dz, tz, e3, e4⟩ := id hz
      refine ⟨x, z, dx, _, dz, _, rfl, rfl, e1, e3, x, z, PP', _, rfl, hx4, hz, ok2, one_ok (hg.g _ (List.getElem_mem hi2)), by show PP'.length + 1 ≤ 6; omega, fun x5 H5 s5 hx5 => ?_⟩
      exact ⟨(s3.trans s4).trans s5, x5, _, _, _, rfl, hx5, both_ok ok2 (one_ok (hg.g _ (List.getElem_mem hi2))) (by show PP'.length + 1 ≤ 6; omega), by have := both_len PP' [(PP[i + 1].1, PP[i + 1].2)]; simp only [List.length_cons, List.length_nil] at this; omega⟩
    · obtain ⟨s3, x, y2, y3, PP', rfl, hx2, ok2, hl2⟩ := pvn
      rw [List.length_drop, hal] at hl2
      exact ⟨.ref x, rfl, q x H2 PP' (s2.trans s3) hx2 ok2 (by omega)⟩
/-- _law_row -/
def sp_lrow (K : PySem.W.Frag) : Sp := fun vs H Q _ => ∃ (p : Addr) (z : Int), vs = [.ref p, .int z] ∧ PenAt H p ∧ 0 ≤ z ∧ z ≤ 1000 ∧
  ∀ a H' xs, SameX p H H' → PenAt H' p → TI K H' a xs → RowOk xs → (xs.length : Int) ≤ z → Q (.ref a) H'
theorem d_lrow (T : Txt K mg C) : D0 P w K mg base "_law_row" 2 (sp_lrow K) := by
  have nd : (["_law_pen_here", "_law_size", "_law_found", "_law_ticks", "_law_lap", "_law_amount"] : List Str).Nodup := by decide +kernel
  refine D0.ofN (N := ["_law_pen_here", "_law_size", "_law_found", "_law_ticks", "_law_lap", "_law_amount"]) (ps := ["_law_pen_here", "_law_size"]) T.g_row ⟨rfl, rfl, rfl, nd, rfl, by decide +kernel, by decide +kernel⟩ (fun vs H Q E h => ?_) (fun _ _ _ _ _ _ us hl => match us, hl with | [_, _], _ => rfl) (fun f cdv A outer s H vs Q E hr h => ?_)
  · obtain ⟨p, c, rfl, _⟩ := h; rfl
  · obtain ⟨p, z, rfl, hp, hz0, hz1, q⟩ := h
    refine ⟨_, pss_cons (ps_par (i := 2) (j := 3) rfl nd rfl rfl (by decide) rfl rfl (pa_cons (pe_lst pa_nil) (pa_cons (pe_D (d_draw T) hr (by rfl) (pa_cons (pv 0) (pa_cons (pe_op op_add (pv 1) pe_int) pa_nil))) pa_nil)) (by rfl))
      (pss_cons (ps_for PassesOwn.never rfl (pi_range1 (by rfl) T.z_range (pa_cons (pv 3) pa_nil)) (pg_name (i := 4) nd rfl (.inl rfl))
        (pss_cons (ps_set (i := 5) nd rfl (.inl rfl) (pe_ix ix_list (pe_lst (pa_cons pe_int (pa_cons pe_int (pa_cons pe_int (pa_cons pe_int (pa_cons pe_int (pa_cons (pe_D (d_draw T) hr (by rfl) (pa_cons (pv 0) (pa_cons pe_int pa_nil))) (pa_cons (pe_D (d_draw T) hr (by rfl) (pa_cons (pv 0) (pa_cons pe_int pa_nil))) pa_nil)))))))) (pe_D (d_draw T) hr (by rfl) (pa_cons (pv 0) (pa_cons pe_int pa_nil))) (fun _ _ => rfl)))
        (pss_one (ps_expr (pe_bm PySem.F.plainAttrs_list PySem.F.slot_list_append PySem.F.type_list_append mt_append (pv 2) (pa_cons (pe_ifExp (pt_cmpR op_le (pe_op op_add (pe_callB (cr_sum rfl) (by rfl) T.z_sum (by decide +kernel) (pa_cons (pv 2) pa_nil)) (pv 5)) pe_int (nomark _)) (pv 5) pe_int) pa_nil))))))
      (pss_one (ps_ret (pe_callTy call_tuple_of (by rfl) T.z_tuple (by decide +kernel) (pa_cons (pv 2) pa_nil))))), ?_⟩
    refine ⟨(by show 0 ≤ sizeLine; decide), fun D hD => ?_⟩
    have nDp := pen_ne hp hD
    refine ⟨.ref p, rfl, .int z, rfl, _, _, rfl, rfl, p, z + 1, rfl, hp.same (sameW hD), by omega, by omega, fun n H1 hn0 hn1 s1 hp1 => ⟨_, _, rfl, ?_⟩⟩
    have s01 : SameX p H H1 := (Same.x (sameW hD)).trans s1
    have hD1 : H1 D = some (.lst []) := s1 _ _ upd_same nDp
    refine ⟨_, rfl, n, rfl, by omega, by omega, ?_⟩
    refine for_it walk_range (fun i σ H2 => (∃ y4 y5, σ = [some (.ref p), some (.int z), some (.ref D), some (.int n), y4, y5]) ∧ SameX p H H2 ∧ PenAt H2 p ∧ ∃ xs : List Int, H2 D = some (.lst (xs.map V.int)) ∧ RowOk xs ∧ xs.length = i) ⟨⟨_, _, rfl⟩, s01, hp1, [], hD1, ⟨fun _ h => (by cases h), by decide⟩, rfl⟩ (fun _ _ _ _ _ => trivial) (fun i x σ H2o H2 hi pvi y => ?_) (fun σ H2 pvn => ?_)
    · obtain ⟨⟨y4, y5, rfl⟩, s2, hp2, xs, hx2, okx, hlen⟩ := pvi
      obtain ⟨rfl, rfl⟩ := y
      refine ⟨.ref p, rfl, p, 13, rfl, hp2, by decide, by decide, fun d3 H3 hd30 hd31 s3 hp3 => ?_⟩
      refine ⟨.ref p, rfl, p, 61, rfl, hp3, by decide, by decide, fun d4 H4 hd40 hd41 s4 hp4 => ?_⟩
      refine ⟨(by show 7 ≤ sizeLine; decide), fun L4 hL4 => ?_⟩
      have nL4 := pen_ne hp4 hL4
      refine ⟨.ref p, rfl, p, 7, rfl, hp4.same (sameW hL4), by decide, by decide, fun d5 H5 hd50 hd51 s5 hp5 => ?_⟩
      have s25 : SameX p H2 H5 := ((s3.trans s4).trans (Same.x (sameW hL4))).trans s5
      have e5 : H5 L4 = some (.lst (([0, 0, 1, 2, 5, d3, d4] : List Int).map V.int)) := s5 _ _ upd_same nL4
      obtain ⟨l, hl, al⟩ := pick (l := [0, 0, 1, 2, 5, d3, d4]) hd50 hd51
      have hl0 : 0 ≤ l := by
        simp only [List.mem_cons, List.not_mem_nil, or_false] at hl
        omega
      refine ⟨L4, _, d5, .int l, rfl, rfl, .inl (.inl e5), al, ?_⟩
      have hx5 := s25 _ _ hx2 nDp
      have hs25 := s2.trans s25
      have hsz : (xs.map V.int).length < sizeLine := by rw [List.length_map, hlen]; exact smallK (by omega)
      refine ⟨.ref D, rfl, .inl ⟨rfl, _, .inl (.inl hx5)⟩, ?_⟩
      refine ⟨.ref D, rfl, D, xs, rfl, .inl (.inl hx5), .int l, rfl, _, _, rfl, rfl, _, _, rfl, rfl, _, rfl, ?_⟩
      have fin : ∀ v : Int, 0 ≤ v → xs.sum + v ≤ 60 → SameX p H (upd H5 D (.lst (xs.map V.int ++ [V.int v]))) ∧ PenAt (upd H5 D (.lst (xs.map V.int ++ [V.int v]))) p ∧ ∃ xs' : List Int, (upd H5 D (.lst (xs.map V.int ++ [V.int v]))) D = some (.lst (xs'.map V.int)) ∧ RowOk xs' ∧ xs'.length = i + 1 := fun v h0 h1 => by
        refine ⟨hs25.new hp hD, ?_, xs ++ [v], by rw [upd_same, List.map_append]; rfl, ⟨fun a ha => ?_, ?_⟩, by rw [List.length_append, hlen]; rfl⟩
        · obtain ⟨z1, z2, z3, z4⟩ := hp5
          exact ⟨z1, z2, z3, by rw [upd_ne (Ne.symm nDp)]; exact z4⟩
        · rcases List.mem_append.mp ha with h | h
          · exact okx.1 a h
          · obtain rfl : a = v := by simpa using h
            exact h0
        · rw [BM.sum_append]
          simpa using h1
      cases c1 : decide (xs.sum + l ≤ 60) with
      | true =>
        have := of_decide_eq_true c1
        exact iteT ⟨.int l, rfl, D, _, _, rfl, rfl, hx5, hsz, ⟨_, _, rfl⟩, fin l hl0 this⟩
      | false =>
        have := okx.2
        exact iteF ⟨D, _, _, rfl, rfl, hx5, hsz, ⟨_, _, rfl⟩, fin 0 (by omega) (by omega)⟩
    · obtain ⟨⟨y4, y5, rfl⟩, s2, hp2, xs, hx2, okx, hlen⟩ := pvn
      refine ⟨.ref D, rfl, D, _, rfl, .inl ⟨.inl (.inl hx2), fun a ha => ?_⟩⟩
      exact q a _ xs (s2.trans (Same.x (sameW ha))) (hp2.same (sameW ha)) (.inl (.inl upd_same)) okx (by omega)
end
end B45

set_option Elab.async false
set_option linter.all false
set_option maxRecDepth 100000
set_option maxHeartbeats 4000000
/-! Comparing rows. -/
namespace B45
open PySem PySem.Spec PyProof.Rows L2 BX BM
theorem units64 {k : Nat} {A : Around} (hr : Room k A) : A.units + 64 < cLine := by have := units65 hr; omega
theorem none_of (n : Nat) (f : Nat → Bool) : decide (((List.range n).filter f).map (fun _ => (1 : Int)) = []) = (List.range n).all fun k => !f k := by
  cases e : (List.range n).all fun k => !f k with
  | true =>
    refine decide_eq_true ?_
    rw [List.map_eq_nil_iff, List.filter_eq_nil_iff]
    intro a ha
    rw [List.all_eq_true] at e
    have := e a ha
    simpa using this
  | false =>
    refine decide_eq_false fun q => ?_
    rw [List.map_eq_nil_iff, List.filter_eq_nil_iff] at q
    have : ((List.range n).all fun k => !f k) = true := by
      rw [List.all_eq_true]
      intro a ha
      have := q a ha
      simpa using this
    rw [this] at e; cases e
section
variable {P : Program} {w : World} {K : PySem.W.Frag} {mg : Str → Option Value} {base : Heap} {C : Addr}
/-- _law_behind -/
def sp_behind (K : PySem.W.Frag) : Sp := fun vs H Q _ => ∃ (a b : Addr) (xs ys : List Int), vs = [.ref a, .ref b] ∧ TI K H a xs ∧ TI K H b ys ∧ xs.length ≤ 100000 ∧ ys.length ≤ 100000 ∧ RetV H Q (.bl (behindB xs ys))
theorem d_behind (T : Txt K mg C) : D0 P w K mg base "_law_behind" 1 (sp_behind K) := by
  have nd : (["_law_one", "_law_other", "_law_size", "_law_at"] : List Str).Nodup := by decide +kernel
  refine D0.ofN (N := ["_law_one", "_law_other", "_law_size", "_law_at"]) (ps := ["_law_one", "_law_other"]) T.g_behind ⟨rfl, rfl, rfl, nd, rfl, by decide +kernel, by decide +kernel⟩ (fun vs H Q E h => ?_) (fun _ _ _ _ _ _ us hl => match us, hl with | [_, _], _ => rfl) (fun f cdv A outer s H vs Q E hr h => ?_)
  · obtain ⟨a, b, xs, ys, rfl, _⟩ := h; rfl
  · obtain ⟨a, b, xs, ys, rfl, ha, hb, hxl, hyl, q⟩ := h
    have hlx : (xs.map V.int).length = xs.length := List.length_map ..
    have hly : (ys.map V.int).length = ys.length := List.length_map ..
    refine ⟨_, pss_cons (ps_set (i := 2) nd rfl (.inl rfl) (pe_callB (call_max2 rfl) (by rfl) T.z_max (by decide +kernel) (pa_cons (pe_callB call_len_seq (by rfl) T.z_len PySem.boot_len (pa_cons (pv 0) pa_nil)) (pa_cons (pe_callB call_len_seq (by rfl) T.z_len PySem.boot_len (pa_cons (pv 1) pa_nil)) pa_nil))))
      (pss_one (ps_ret (pe_cmpR (op_eqD (units64 hr)) (pe_lc (own := [("_law_at", 3)]) (g := gName 3) (tt := tTest (tOp (rI0 fun i j => .bl (decide (j < i))) (tCB (rSumT K) (tCons (tSl (rSlA K) (tVar 0) tNoPart (tPart (tOp (rI0 fun i j => .int (i + j)) (tVar 3) (tC (.int 1))))) tNil)) (tCB (rSumT K) (tCons (tSl (rSlA K) (tVar 1) tNoPart (tPart (tOp (rI0 fun i j => .int (i + j)) (tVar 3) (tC (.int 1))))) tNil))))
        (by rfl) nd (pi_range1 (by rfl) T.z_range (pa_cons (pv 2) pa_nil)) (blkOk_by (own := [("_law_at", 3)]) (N := ["_law_one", "_law_other", "_law_size", "_law_at"]) (sc := defScope sBehind) (by decide +kernel))
        (fun _ _ _ _ _ => pg_name (i := 3) nd rfl (Or.inl rfl))
        (fun _ _ _ _ _ => pts_one (pt_cmpR op_gt (pe_callB (r := rSumT K) (cr_sumT rfl) (by rfl) T.z_sum (by decide +kernel) (pa_cons (pe_slice (r := rSlA K) sl_tupA (pv 0) po_none (po_some (pe_op op_add (pv 3) pe_int))) pa_nil)) (pe_callB (r := rSumT K) (cr_sumT rfl) (by rfl) T.z_sum (by decide +kernel) (pa_cons (pe_slice (r := rSlA K) sl_tupA (pv 1) po_none (po_some (pe_op op_add (pv 3) pe_int))) pa_nil)) (nomark _)))
        (fun _ _ _ _ _ => pe_int)) (pe_lst pa_nil) (by rfl)))), ?_⟩
    refine ⟨.ref a, rfl, a, _, rfl, .inr ha, .ref b, rfl, b, _, rfl, .inr hb, _, _, rfl, ?_⟩
    have em : (if (((ys.map V.int).length : Nat) : Int) > (((xs.map V.int).length : Nat) : Int) then (((ys.map V.int).length : Nat) : Int) else (((xs.map V.int).length : Nat) : Int)) = ((max xs.length ys.length : Nat) : Int) := by
      rw [hlx, hly]; split <;> omega
    rw [em]
    refine ⟨_, rfl, ((max xs.length ys.length : Nat) : Int), rfl, by omega, by omega, fun D hD => ?_⟩
    rw [Int.toNat_natCast]
    refine lc_pure walk_range (fun k => decide ((ys.take (k + 1)).sum < (xs.take (k + 1)).sum)) (fun _ => .int 1) hD (by omega) (fun _ _ => trivial) (fun i x H' H2 k hi s1 y hk => ?_) (fun H' s' hl => ?_)
    · obtain ⟨rfl, rfl⟩ := y
      refine hk _ _ (Same.refl _) rfl (fun Qb hq => ?_) (fun hf H3 Q' s3 hq => hq H3 s3)
      refine ⟨.ref a, rfl, _, rfl, _, _, rfl, rfl, _, rfl, ?_⟩
      refine slA_to (sameT s1 ha) fun p1 H4 s4 hp1 => ?_
      refine ⟨p1, xs.take (i + 1), rfl, ?_, ?_⟩
      · rw [Int.zero_add, show ((i : Int) + 1) = ((i + 1 : Nat) : Int) by omega, cutV_0n, ← List.map_take] at hp1
        exact hp1
      refine ⟨.ref b, rfl, _, rfl, _, _, rfl, rfl, _, rfl, ?_⟩
      refine slA_to (sameT (s1.trans s4) hb) fun p2 H5 s5 hp2 => ?_
      refine ⟨p2, ys.take (i + 1), rfl, ?_, ?_⟩
      · rw [Int.zero_add, show ((i : Int) + 1) = ((i + 1 : Nat) : Int) by omega, cutV_0n, ← List.map_take] at hp2
        exact hp2
      exact ⟨_, _, rfl, rfl, _, rfl, hq _ (s4.trans s5)⟩
    · refine ⟨(by show 0 ≤ sizeLine; decide), fun L hL => ?_⟩
      have e1 : given (max xs.length ys.length) (fun k => decide ((ys.take (k + 1)).sum < (xs.take (k + 1)).sum)) (fun _ => .int 1) = (((List.range (max xs.length ys.length)).filter fun k => decide ((ys.take (k + 1)).sum < (xs.take (k + 1)).sum)).map fun _ => (1 : Int)).map V.int := by
        rw [List.map_map]; rfl
      have s2 : Same H' (upd H' L (.lst [])) := sameW hL
      rw [e1] at hl
      refine ⟨_, _, dp_lst (.inl (.inl (s2 _ _ hl))), dp_lst (xs := []) (.inl (.inl upd_same)), lRow_shaped _, lRow_shaped [], ?_⟩
      rw [lRow_eqv, none_of]
      exact q _ (s'.trans s2)
/-- _law_bare -/
def sp_bare (K : PySem.W.Frag) : Sp := fun vs H Q _ => ∃ (r : Addr) (xs : List Int), vs = [.ref r] ∧ TI K H r xs ∧ xs.length ≤ 100000 ∧ RetL H Q ((bareL xs).map V.int)
theorem d_bare (T : Txt K mg C) : D0 P w K mg base "_law_bare" 1 (sp_bare K) := by
  have nd : (["_law_row_here", "_law_found"] : List Str).Nodup := by decide +kernel
  refine D0.ofN (N := ["_law_row_here", "_law_found"]) (ps := ["_law_row_here"]) T.g_bare ⟨rfl, rfl, rfl, nd, rfl, by decide +kernel, by decide +kernel⟩ (fun vs H Q E h => ?_) (fun _ _ _ _ _ _ us hl => match us, hl with | [_], _ => rfl) (fun f cdv A outer s H vs Q E hr h => ?_)
  · obtain ⟨r, xs, rfl, _⟩ := h; rfl
  · obtain ⟨r, xs, rfl, hT, hz, q⟩ := h
    refine ⟨_, pss_cons (ps_set (i := 1) nd rfl (.inl rfl) (pe_callTy call_list_of (by rfl) T.z_list (by decide +kernel) (pa_cons (pv 0) pa_nil)))
      (pss_cons (ps_while PassesOwn.never (PW.pt (pw_and (pt_cmpR (op_neD (units64 hr)) (pv 1) (pe_lst pa_nil) (by rfl)) (pw_and1 (pt_cmpR op_eq (pe_ix ix_list (pv 1) (pe_un un_neg pe_int) (fun _ _ => rfl)) pe_int (nomark _)))))
        (pss_one (ps_expr (pe_bm0 PySem.F.plainAttrs_list PySem.F.slot_list_pop PySem.F.type_list_pop mt_pop (pv 1)))))
      (pss_one (ps_ret (pv 1)))), ?_⟩
    refine ⟨.ref r, rfl, r, _, rfl, .inr hT, fun L hL => ?_⟩
    refine ⟨fun m σ H2 => ∃ ys : List Int, ys.length = m ∧ σ = [some (.ref r), some (.ref L)] ∧ Same H H2 ∧ H2 L = some (.lst (ys.map V.int)) ∧ bareL ys = bareL xs ∧ ys.length ≤ 100000, ⟨_, xs, rfl, rfl, sameW hL, upd_same, rfl, hz⟩, ?_⟩
    rintro m σ H2 ⟨ys, rfl, rfl, s2, hl, hb, hzy⟩
    refine ⟨.ref L, rfl, (by show 0 ≤ sizeLine; decide), fun N hN => ?_⟩
    have s3 : Same H2 (upd H2 N (.lst [])) := sameW hN
    have hl3 := s3 _ _ hl
    refine ⟨_, _, dp_lst (.inl (.inl hl3)), dp_lst (xs := []) (.inl (.inl upd_same)), lRow_shaped _, lRow_shaped [], _, rfl, ?_⟩
    rw [lRow_eqv]
    rcases List.eq_nil_or_concat ys with rfl | ⟨zs, a, rfl⟩
    · rw [decide_eq_true rfl]
      refine iteF (iteF ?_)
      exact ⟨.ref L, rfl, q L _ (s2.trans s3) hL (by rw [← hb]; exact hl3)⟩
    · rw [List.concat_eq_append] at *
      rw [decide_eq_false (by simp)]
      have el : (zs ++ [a]).map V.int = zs.map V.int ++ [V.int a] := by rw [List.map_append]; rfl
      refine iteT ⟨.ref L, rfl, 1, rfl, L, _, -1, .int a, rfl, rfl, .inl (.inl hl3), (by rw [el]; exact atI_last _ _), rfl, _, rfl, ?_⟩
      by_cases ha : a = 0
      · subst ha
        rw [decide_eq_true rfl]
        refine iteT ?_
        refine ⟨fun σ' H' => σ' = [some (.ref r), some (.ref L)] ∧ Same H H' ∧ H' L = some (.lst (zs.map V.int)), fun σ' H' h => ⟨zs.length, by simp, zs, rfl, h.1, h.2.1, h.2.2, by rw [← hb, bare_zero], by simp at hzy; omega⟩, ?_⟩
        refine ⟨.ref L, rfl, .inl ⟨rfl, _, .inl (.inl hl3)⟩, L, _, .int 0, rfl, rfl, hl3, ?_, rfl, sameM (s2.trans s3) hL, ?_⟩
        · rw [el]; simp
        · rw [upd_same, el, List.dropLast_concat]
      · rw [decide_eq_false (fun e => ha (V.int.inj e))]
        refine iteF ?_
        exact ⟨.ref L, rfl, q L _ (s2.trans s3) hL (by rw [← hb, bare_other _ ha]; exact hl3)⟩
/-- _law_fair -/
def sp_fair (K : PySem.W.Frag) (C : Addr) : Sp := fun vs H Q _ => ∃ (x r : Addr) (PP : List Pr) (xs : List Int), vs = [.ref x, .ref r] ∧ LimAt K C H x PP ∧ LimOk PP ∧ TI K H r xs ∧ RowOk xs ∧ xs.length ≤ 20000 ∧ RetV H Q (.bl true)
theorem shK : SeqAt.shaped (.tuple [.str "kept"]) = true := by decide +kernel
theorem d_fair (T : Txt K mg C) : D0 P w K mg base "_law_fair" 10 (sp_fair K C) := by
  have nd : (["_law_limits_here", "_law_row_here", "_law_told"] : List Str).Nodup := by decide +kernel
  obtain ⟨fw, fdw, GW, bW, mW, kW⟩ := (d_waiting (P := P) (w := w) (base := base) T).ex
  refine D0.ofN (N := ["_law_limits_here", "_law_row_here", "_law_told"]) (ps := ["_law_limits_here", "_law_row_here"]) T.g_fair ⟨rfl, rfl, rfl, nd, rfl, by decide +kernel, by decide +kernel⟩ (fun vs H Q E h => ?_) (fun _ _ _ _ _ _ us hl => match us, hl with | [_, _], _ => rfl) (fun f cdv A outer s H vs Q E hr h => ?_)
  · obtain ⟨x, r, PP, xs, rfl, _⟩ := h; rfl
  · obtain ⟨x, r, PP, xs, rfl, hL, ok, hT, hx, hz, q⟩ := h
    refine ⟨_, pss_cons (ps_set (i := 2) nd rfl (.inl rfl) (pe_D (d_passed T) hr (by rfl) (pa_cons (pv 0) (pa_cons (pv 1) pa_nil))))
      (pss_cons (ps_if (PW.pt (pw_or (pt_cmpR (op_neD (units64 hr)) (pe_D (d_verdict T) hr (by rfl) (pa_cons (pv 0) (pa_cons (pv 2) pa_nil))) (pe_tup (pa_cons pe_str pa_nil)) (nomark _))
          (pw_or (pt_cmpR op_ne (pe_callB (cr_sumT rfl) (by rfl) T.z_sum (by decide +kernel) (pa_cons (pv 2) pa_nil)) (pe_callB (cr_sumT rfl) (by rfl) T.z_sum (by decide +kernel) (pa_cons (pv 1) pa_nil)) (nomark _))
          (pw_or1 (pt_not (pt_val (pe_D (d_behind T) hr (by rfl) (pa_cons (pv 2) (pa_cons (pv 1) pa_nil))))))))) (pss_one (ps_ret pe_bl)) pss_nil)
      (pss_cons (ps_if (PW.pt (pw_or (pt_cmpR (op_neD (units64 hr)) (pe_D (d_passed T) hr (by rfl) (pa_cons (pv 0) (pa_cons (pv 2) pa_nil))) (pv 2) (nomark _))
          (pw_or1 (pt_cmpR op_ne (pe_cmpR (op_eqD (units64 hr)) (pe_D (d_verdict T) hr (by rfl) (pa_cons (pv 0) (pa_cons (pv 1) pa_nil))) (pe_tup (pa_cons pe_str pa_nil)) (nomark _)) (pe_cmpR (op_eqD (units64 hr)) (pv 2) (pv 1) (nomark _)) (nomark _))))) (pss_one (ps_ret pe_bl)) pss_nil)
      (pss_one (ps_ret (pe_and (pe_cmpR op_eq (pe_callB (cr_sum rfl) (by rfl) T.z_sum (by decide +kernel) (pa_cons (pe_listG (nm := "list") (pgen_call GW (hr.mono (by decide)) (by rfl) mW kW bW .nil (pa_cons (pv 0) (pa_cons (pv 1) pa_nil))) passL noStop0 hr (by rfl) T.z_list (by decide +kernel)) pa_nil)) (pe_callB (cr_sumT rfl) (by rfl) T.z_sum (by decide +kernel) (pa_cons (pe_D (d_waits T) hr (by rfl) (pa_cons (pv 0) (pa_cons (pv 1) pa_nil))) pa_nil)) (nomark _))
        (pe_one (pe_cmpR op_eq (pe_callB call_len_seq (by rfl) T.z_len PySem.boot_len (pa_cons (pe_D (d_waits T) hr (by rfl) (pa_cons (pv 0) (pa_cons (pv 1) pa_nil))) pa_nil)) (pe_callB (cr_sumT rfl) (by rfl) T.z_sum (by decide +kernel) (pa_cons (pv 1) pa_nil)) (nomark _)))))))), ?_⟩
    have hxp := passed_ok ok.g hx
    have hpl := passed_len_le ok.g hx
    have hkp := passed_keeps ok.g hx
    have hpp := passed_again ok.g hx
    have hsum := passed_sum ok.g hx
    refine ⟨.ref x, rfl, .ref r, rfl, x, r, PP, xs, rfl, hL, ok, hT, hx, by omega, fun t H1 s1 ht => ?_⟩
    -- verdict(limits, told) != ("kept",)
    refine ⟨.ref x, rfl, .ref t, rfl, x, t, PP, passedL PP xs, rfl, hL.same s1, ok, ht, hxp, by omega, fun v1 H2 s2 ⟨vs1, hv1, ds1, hd1, hs1, he1⟩ => ?_⟩
    refine ⟨(by show 1 ≤ sizeLine; decide), fun k1 hk1 => ?_⟩
    have s3 : Same H2 (upd H2 k1 (.tup [.str "kept"])) := sameW hk1
    refine ⟨.tuple ds1, .tuple [.str "kept"], .tup (sameT s3 hv1) (hd1 _), .tup (.inl (.inl upd_same)) (.cons (.str _) .nil), hs1, shK, _, rfl, ?_⟩
    rw [he1, hkp]
    refine iteF ?_
    have s13 := (s1.trans s2).trans s3
    have ht3 := sameT (s2.trans s3) ht
    have hT3 := sameT s13 hT
    refine ⟨.ref t, rfl, t, _, rfl, ht3, .ref r, rfl, r, _, rfl, hT3, rfl, _, rfl, ?_⟩
    rw [hsum, decide_eq_true rfl]
    refine iteF ?_
    refine ⟨.ref t, rfl, .ref r, rfl, t, r, passedL PP xs, xs, rfl, ht3, hT3, by omega, by omega, fun H4 s4 => ?_⟩
    rw [behind_self ok.g hx]
    refine ⟨true, rfl, iteF ?_⟩
    have s14 := s13.trans s4
    have ht4 := sameT s4 ht3
    -- passed(limits, told) != told
    refine ⟨.ref x, rfl, .ref t, rfl, x, t, PP, passedL PP xs, rfl, hL.same s14, ok, ht4, hxp, by omega, fun t2 H5 s5 ht5 => ?_⟩
    rw [hpp] at ht5
    refine ⟨.ref t, rfl, _, _, dp_row ht5, dp_row (sameT s5 ht4), dRow_shaped _, dRow_shaped _, _, rfl, ?_⟩
    rw [dRow_eqv, decide_eq_true rfl]
    refine iteF ?_
    have s15 := s14.trans s5
    -- (verdict(limits, row) == ("kept",)) != (told == row)
    refine ⟨.ref x, rfl, .ref r, rfl, x, r, PP, xs, rfl, hL.same s15, ok, sameT s15 hT, hx, by omega, fun v2 H6 s6 ⟨vs2, hv2, ds2, hd2, hs2, he2⟩ => ?_⟩
    refine ⟨(by show 1 ≤ sizeLine; decide), fun k2 hk2 => ?_⟩
    have s7 : Same H6 (upd H6 k2 (.tup [.str "kept"])) := sameW hk2
    refine ⟨.tuple ds2, .tuple [.str "kept"], .tup (sameT s7 hv2) (hd2 _), .tup (.inl (.inl upd_same)) (.cons (.str _) .nil), hs2, shK, ?_⟩
    have s17 := (s15.trans s6).trans s7
    have s57 := s6.trans s7
    rw [he2, kept_iff_passed ok.g hx]
    refine ⟨.ref t, rfl, .ref r, rfl, _, _, dp_row (sameT (s5.trans s57) ht4), dp_row (sameT s17 hT), dRow_shaped _, dRow_shaped _, ?_⟩
    rw [dRow_eqv]
    refine ⟨rfl, _, rfl, ?_⟩
    rw [decide_eq_true rfl]
    refine iteF ?_
    -- the sums
    refine ⟨.ref x, rfl, .ref r, rfl, x, r, PP, xs, rfl, hL.same s17, ok, sameT s17 hT, hx, by omega, fun H8 s8 L8 hL8 => ?_⟩
    have s9 : Same H8 (upd H8 L8 (.lst ((waitingL PP xs).map V.int))) := sameW hL8
    refine ⟨L8, waitingL PP xs, rfl, .inl (.inl upd_same), ?_⟩
    have s19 := (s17.trans s8).trans s9
    refine ⟨.ref x, rfl, .ref r, rfl, x, r, PP, xs, rfl, hL.same s19, ok, sameT s19 hT, hx, by omega, fun wa H10 s10 hwa => ?_⟩
    refine ⟨wa, waitsL PP xs, rfl, hwa, rfl, ?_⟩
    rw [waiting_sum ok.g hx, decide_eq_true rfl]
    refine ⟨true, rfl, iteT ?_⟩
    have s20 := s19.trans s10
    refine ⟨.ref x, rfl, .ref r, rfl, x, r, PP, xs, rfl, hL.same s20, ok, sameT s20 hT, hx, by omega, fun wb H11 s11 hwb => ?_⟩
    refine ⟨wb, _, rfl, .inr hwb, .ref r, rfl, r, xs, rfl, sameT (s20.trans s11) hT, rfl, ?_⟩
    have hwl := waits_len ok.g hx
    rw [List.length_map, hwl, decide_eq_true rfl]
    exact q _ (s20.trans s11)
end
end B45

set_option Elab.async false
set_option linter.all false
set_option maxRecDepth 100000
set_option maxHeartbeats 8000000
/-! The law. -/
namespace B45
open PySem PySem.Spec PyProof.Rows L2 BX BM
section
variable {P : Program} {w : World} {K : PySem.W.Frag} {mg : Str → Option Value} {base : Heap} {C : Addr}
def sp_right : Sp := fun vs H Q _ => ∃ p : Addr, vs = [.ref p] ∧ PenAt H p ∧ ∀ H', SameX p H H' → PenAt H' p → Q (.bl true) H'
theorem catTo {H : Hp} {a b : Addr} {xs ys : List Int} {Q : VK} (ha : TI K H a xs) (hb : TI K H b ys) (hz : xs.length ≤ 100000) (hz2 : ys.length ≤ 100000) (q : ∀ p H', Same H H' → TI K H' p (xs ++ ys) → Q (.ref p) H') : rCatA K (.ref a) (.ref b) H Q := by
  refine ⟨a, b, _, _, rfl, rfl, ha, hb, by rw [List.length_map, List.length_map, sizeLine_eq]; omega, fun e => ?_, fun _ e => ?_, fun _ _ p hp => ?_⟩
  · have : xs = [] := List.map_eq_nil_iff.mp e
    subst this
    exact q b H (Same.refl _) hb
  · have : ys = [] := List.map_eq_nil_iff.mp e
    subst this
    exact q a H (Same.refl _) (by rw [List.append_nil]; exact ha)
  · exact q p _ (sameW hp) (.inl (.inl (by rw [upd_same, List.map_append])))
theorem repTo {H : Hp} {l : Addr} {k : Int} {Q : VK} (hT : SqT K H l [V.int 0]) (h0 : 0 ≤ k) (h1 : k ≤ 1000) (q : ∀ a H', Same H H' → TI K H' a (List.replicate k.toNat 0) → Q (.ref a) H') : rRepA K (.ref l) (.int k) H Q := by
  refine ⟨l, k, _, rfl, rfl, hT, by simp, h0, h1, by simp, fun e => q l H (Same.refl _) (by subst e; exact hT), fun _ p hp => q p _ (sameW hp) (.inl (.inl ?_))⟩
  rw [upd_same]
  have : ∀ n : Nat, (List.replicate n [V.int 0]).flatten = (List.replicate n (0 : Int)).map V.int := fun n => by
    induction n with
    | zero => rfl
    | succ n ih => rw [List.replicate_succ, List.replicate_succ, List.flatten_cons, ih]; rfl
  rw [this]
theorem SameX.sqL {p a : Addr} {H H' : Hp} (s : SameX p H H') (n : a ≠ p) {xs : List V} (h : SqL K H a xs) : SqL K H' a xs := by
  rcases h with (z | ⟨o, z⟩) | z
  · exact .inl (.inl (s _ _ z n))
  · exact .inl (.inr ⟨o, s _ _ z n⟩)
  · exact .inr z
theorem zeros_ok {n : Nat} {d : Int} (h0 : 0 ≤ d) (h1 : d ≤ 60) : RowOk (List.replicate n 0 ++ [d]) := by
  have hs : ∀ n : Nat, (List.replicate n (0 : Int)).sum = 0 := fun n => by
    induction n with
    | zero => rfl
    | succ n ih => rw [List.replicate_succ, List.sum_cons, ih]; rfl
  refine ⟨fun a ha => ?_, by rw [BM.sum_append, hs]; simpa using h1⟩
  rcases List.mem_append.mp ha with h | h
  · rw [(List.mem_replicate.mp h).2]; exact Int.le_refl _
  · have : a = d := by simpa using h
    omega
theorem d_right (T : Txt K mg C) : D0 P w K mg base "_law_right" 11 sp_right := by
  have nd : (["_law_pen_here", "_law_one", "_law_other", "_law_both", "_law_row_here", "_law_due", "_law_fewer", "_law_amount"] : List Str).Nodup := by decide +kernel
  obtain ⟨fa, fda, FA, AO⟩ := T.add
  refine D0.ofN (N := ["_law_pen_here", "_law_one", "_law_other", "_law_both", "_law_row_here", "_law_due", "_law_fewer", "_law_amount"]) (ps := ["_law_pen_here"]) T.g_right ⟨rfl, rfl, rfl, nd, rfl, by decide +kernel, by decide +kernel⟩ (fun vs H Q E h => ?_) (fun _ _ _ _ _ _ us hl => match us, hl with | [_], _ => rfl) (fun f cdv A outer s H vs Q E hr h => ?_)
  · obtain ⟨p, rfl, _⟩ := h; rfl
  · obtain ⟨p, rfl, hp, q⟩ := h
    refine ⟨_, pss_cons (ps_par (i := 1) (j := 2) rfl nd rfl rfl (by decide) rfl rfl (pa_cons (pe_D (d_llim T) hr (by rfl) (pa_cons (pe_D (d_lpairs T) hr (by rfl) (pa_cons (pv 0) (pa_cons pe_int pa_nil))) pa_nil)) (pa_cons (pe_D (d_llim T) hr (by rfl) (pa_cons (pe_D (d_lpairs T) hr (by rfl) (pa_cons (pv 0) (pa_cons pe_int pa_nil))) pa_nil)) pa_nil)) (by rfl))
      (pss_cons (ps_set (i := 3) nd rfl (.inl rfl) (pe_op (op_addOwn AO (f_add T FA) (hr.mono (by decide)) passL) (pv 1) (pv 2)))
      (pss_cons (ps_for PassesOwn.never rfl (pi_list (pe_lst (pa_cons (pe_D (d_lrow T) hr (by rfl) (pa_cons (pv 0) (pa_cons pe_int pa_nil))) (pa_cons (pe_D (d_lrow T) hr (by rfl) (pa_cons (pv 0) (pa_cons pe_int pa_nil)))
          (pa_cons (pe_op op_catA (pe_op op_repA (pe_tup (pa_cons pe_int pa_nil)) (pe_D (d_draw T) hr (by rfl) (pa_cons (pv 0) (pa_cons pe_int pa_nil)))) (pe_tup (pa_cons (pe_D (d_draw T) hr (by rfl) (pa_cons (pv 0) (pa_cons pe_int pa_nil))) pa_nil))) pa_nil))))) (pg_name (i := 4) nd rfl (.inl rfl))
        (pss_cons (ps_if (PW.pt (pw_or (pt_not (pt_val (pe_D (d_fair T) hr (by rfl) (pa_cons (pv 1) (pa_cons (pv 4) pa_nil))))) (pw_or1 (pt_not (pt_val (pe_D (d_fair T) hr (by rfl) (pa_cons (pv 3) (pa_cons (pv 4) pa_nil)))))))) (pss_one (ps_ret pe_bl)) pss_nil)
        (pss_cons (ps_set (i := 5) nd rfl (.inl rfl) (pe_D (d_bare T) hr (by rfl) (pa_cons (pe_D (d_passed T) hr (by rfl) (pa_cons (pv 3) (pa_cons (pv 4) pa_nil))) pa_nil)))
        (pss_cons (ps_if (PW.pt (pw_or (pt_cmpR (op_neD (units64 hr)) (pe_D (d_bare T) hr (by rfl) (pa_cons (pe_D (d_passed T) hr (by rfl) (pa_cons (pv 1) (pa_cons (pe_D (d_passed T) hr (by rfl) (pa_cons (pv 2) (pa_cons (pv 4) pa_nil))) pa_nil))) pa_nil)) (pv 5) (nomark _))
            (pw_or1 (pt_cmpR (op_neD (units64 hr)) (pe_D (d_bare T) hr (by rfl) (pa_cons (pe_D (d_passed T) hr (by rfl) (pa_cons (pv 2) (pa_cons (pe_D (d_passed T) hr (by rfl) (pa_cons (pv 1) (pa_cons (pv 4) pa_nil))) pa_nil))) pa_nil)) (pv 5) (nomark _))))) (pss_one (ps_ret pe_bl)) pss_nil)
        (pss_cons (ps_if (PW.pt (pw_and (pt_cmpR (op_eqD (units64 hr)) (pe_D (d_verdict T) hr (by rfl) (pa_cons (pv 1) (pa_cons (pv 4) pa_nil))) (pe_tup (pa_cons pe_str pa_nil)) (nomark _))
            (pw_and1 (pt_cmpR (op_neD (units64 hr)) (pe_D (d_verdict T) hr (by rfl) (pa_cons (pv 1) (pa_cons (pe_D (d_passed T) hr (by rfl) (pa_cons (pv 2) (pa_cons (pv 4) pa_nil))) pa_nil))) (pe_tup (pa_cons pe_str pa_nil)) (nomark _))))) (pss_one (ps_ret pe_bl)) pss_nil)
        (pss_cons (ps_if (pt_not (pt_val (pe_D (d_behind T) hr (by rfl) (pa_cons (pe_D (d_passed T) hr (by rfl) (pa_cons (pv 1) (pa_cons (pe_op op_catA (pe_tup (pa_cons pe_int pa_nil)) (pv 4)) pa_nil))) (pa_cons (pe_D (d_passed T) hr (by rfl) (pa_cons (pv 1) (pa_cons (pv 4) pa_nil))) pa_nil))))) (pss_one (ps_ret pe_bl)) pss_nil)
        (pss_cons (ps_set (i := 6) nd rfl (.inl rfl) (pe_callTy call_tuple_of (by rfl) T.z_tuple (by decide +kernel) (pa_cons (pe_lc (own := [("_law_amount", 7)]) (g := gName 7) (by rfl) nd (pi_tup (pv 4)) (blkOk_by (own := [("_law_amount", 7)]) (N := ["_law_pen_here", "_law_one", "_law_other", "_law_both", "_law_row_here", "_law_due", "_law_fewer", "_law_amount"]) (sc := defScope sRight) (by decide +kernel))
            (fun _ _ _ _ _ => pg_name (i := 7) nd rfl (Or.inl rfl)) (fun _ _ _ _ _ => pts_nil) (fun _ _ _ _ _ => pe_op op_sub (pv 7) (pe_D (d_draw T) hr (by rfl) (pa_cons (pv 0) (pa_cons (pe_op op_add (pv 7) pe_int) pa_nil))))) pa_nil)))
        (pss_cons (ps_if (pt_not (pt_val (pe_D (d_behind T) hr (by rfl) (pa_cons (pe_D (d_passed T) hr (by rfl) (pa_cons (pv 1) (pa_cons (pv 6) pa_nil))) (pa_cons (pe_D (d_passed T) hr (by rfl) (pa_cons (pv 1) (pa_cons (pv 4) pa_nil))) pa_nil))))) (pss_one (ps_ret pe_bl)) pss_nil)
        (pss_one (ps_if (pt_not (pt_val (pe_D (d_behind T) hr (by rfl) (pa_cons (pe_D (d_passed T) hr (by rfl) (pa_cons (pv 3) (pa_cons (pv 4) pa_nil))) (pa_cons (pe_D (d_passed T) hr (by rfl) (pa_cons (pv 1) (pa_cons (pv 4) pa_nil))) pa_nil))))) (pss_one (ps_ret pe_bl)) pss_nil))))))))))
      (pss_one (ps_ret pe_bl)))), ?_⟩
    -- the limits
    refine ⟨.ref p, rfl, p, 3, rfl, hp, by decide, by decide, fun D1 H1 Q1 s1 hp1 hD1 hQ1 g1 nd1 l1 => ?_⟩
    refine ⟨D1, Q1, rfl, hQ1, g1, by omega, fun x1 H2 P1 s2 hL1 ok1 n1 => ?_⟩
    have hp2 := hp1.same s2
    refine ⟨.ref p, rfl, p, 3, rfl, hp2, by decide, by decide, fun D2 H3 Q2 s3 hp3 hD2 hQ2 g2 nd2 l2 => ?_⟩
    refine ⟨D2, Q2, rfl, hQ2, g2, by omega, fun x2 H4 P2 s4 hL2 ok2 n2 => ⟨_, _, rfl, ?_⟩⟩
    have hp4 := hp3.same s4
    have hL1' := (s3.lim hp2 hL1).same s4
    obtain ⟨dx, t1, e1, e1'⟩ := id hL1'
    obtain ⟨dy, t2, e2, e2'⟩ := id hL2
    have hsix : P1.length + P2.length ≤ 6 := by omega
    refine ⟨.ref x1, rfl, .ref x2, rfl, x1, x2, dx, _, dy, _, rfl, rfl, e1, e2, x1, x2, P1, P2, rfl, hL1', hL2, ok1, ok2, hsix, fun xb H5 s5 hLb => ?_⟩
    have okB := both_ok ok1 ok2 hsix
    have hp5 := hp4.same s5
    have s05 : SameX p H H5 := (((s1.trans (Same.x s2)).trans s3).trans (Same.x s4)).trans (Same.x s5)
    -- the rows
    refine ⟨.ref p, rfl, p, 14, rfl, hp5, by decide, by decide, fun r1 H6 xs1 s6 hp6 hT1 hx1 hz1 => ?_⟩
    refine ⟨.ref p, rfl, p, 14, rfl, hp6, by decide, by decide, fun r2 H7 xs2 s7 hp7 hT2 hx2 hz2 => ?_⟩
    refine ⟨(by show 1 ≤ sizeLine; decide), fun z0 hz0 => ?_⟩
    have hp8 := hp7.same (sameW (o := .tup [.int 0]) hz0)
    refine ⟨.ref p, rfl, p, 3, rfl, hp8, by decide, by decide, fun k H9 hk0 hk1 s9 hp9 => ?_⟩
    have ez9 : SqT K H9 z0 [V.int 0] := s9.tup hp8 (.inl (.inl upd_same))
    refine repTo ez9 hk0 (by omega) fun z1 H10 s10 hz1' => ?_
    have hp10 := hp9.same s10
    refine ⟨.ref p, rfl, p, 61, rfl, hp10, by decide, by decide, fun d H11 hd0 hd1 s11 hp11 => ⟨(by show 1 ≤ sizeLine; decide), fun z2 hz2' => ?_⟩⟩
    have s12 : Same H11 (upd H11 z2 (.tup [.int d])) := sameW hz2'
    refine catTo (ys := [d]) (sameT s12 (s11.tup hp10 hz1')) (.inl (.inl upd_same)) (by rw [List.length_replicate]; omega) (by show 1 ≤ 100000; omega) fun r3 H13 s13 hT3 => ?_
    refine ⟨(by show 3 ≤ sizeLine; decide), fun L hL => ⟨L, rfl, ?_⟩⟩
    have s14 : Same H13 (upd H13 L (.lst [V.ref r1, V.ref r2, V.ref r3])) := sameW hL
    have hp12 := hp11.same s12
    have hp13 := hp12.same s13
    have nL := pen_ne hp13 hL
    have s713 : SameX p H7 H13 := (((((Same.x (sameW hz0)).trans s9).trans (Same.x s10)).trans s11).trans (Same.x s12)).trans (Same.x s13)
    have s613 := s7.trans s713
    have s513 := s6.trans s613
    have s514 := s513.trans (Same.x s14)
    refine ⟨⟨_, .inl (.inl upd_same)⟩, ?_⟩
    have rows : ∀ (i : Nat) (v : V), ([V.ref r1, V.ref r2, V.ref r3])[i]? = some v → ∃ (r : Addr) (xs : List Int), v = V.ref r ∧ TI K (upd H13 L (.lst [V.ref r1, V.ref r2, V.ref r3])) r xs ∧ RowOk xs ∧ xs.length ≤ 20 := fun i v e => by
      match i, e with
      | 0, e => exact ⟨r1, xs1, (Option.some.inj e).symm, sameT s14 (s613.tup hp6 hT1), hx1, by omega⟩
      | 1, e => exact ⟨r2, xs2, (Option.some.inj e).symm, sameT s14 (s713.tup hp7 hT2), hx2, by omega⟩
      | 2, e => exact ⟨r3, _, (Option.some.inj e).symm, sameT s14 hT3, zeros_ok hd0 (by omega), by rw [List.length_append, List.length_replicate]; show k.toNat + 1 ≤ 20; omega⟩
    generalize hG : upd H13 L (.lst [V.ref r1, V.ref r2, V.ref r3]) = HG at s14 s514 rows ⊢
    have hLG : HG L = some (.lst [V.ref r1, V.ref r2, V.ref r3]) := by rw [← hG]; exact upd_same
    have hpG := hp13.same s14
    have hL1G := s514.lim hp5 (hL1'.same s5)
    have hL2G := s514.lim hp5 (hL2.same s5)
    have hLbG := s514.lim hp5 hLb
    have s0G := s05.trans s514
    have lb : ∀ B : List Pr, LimOk B → ∀ xs : List Int, RowOk xs → (passedL B xs).length ≤ xs.length + 1200 := fun B hB xs hx => passed_len_le hB.g hx
    refine for_it (walk_list (xs := ([V.ref r1, V.ref r2, V.ref r3] : List V))) (fun i σ H2 => SameX p HG H2 ∧ PenAt H2 p ∧ ∃ y4 y5 y6 y7, σ = [some (.ref p), some (.ref x1), some (.ref x2), some (.ref xb), y4, y5, y6, y7]) ⟨SameX.refl _ _, hpG, _, _, _, _, rfl⟩ (fun i σ H2 _ pv => .inl (.inl (pv.1 _ _ hLG nL))) (fun i v σ H2o H2 hi pvi y => ?_) (fun σ H2 pvn => ?_)
    · obtain ⟨sG, hp2, y4, y5, y6, y7, rfl⟩ := pvi
      obtain ⟨rfl, hy⟩ := y
      obtain ⟨r, xs, rfl, hTG, hx, hz⟩ := rows i v hy
      have hT := sG.tup hpG hTG
      have hL1 := sG.lim hpG hL1G
      have hL2 := sG.lim hpG hL2G
      have hLb := sG.lim hpG hLbG
      have hlB := lb _ okB xs hx
      have hl1 := lb _ ok1 xs hx
      have hl2 := lb _ ok2 xs hx
      have hxB := passed_ok okB.g hx
      have hxp1 := passed_ok ok1.g hx
      have hxp2 := passed_ok ok2.g hx
      have hl12 := lb _ ok1 _ hxp2
      have hl21 := lb _ ok2 _ hxp1
      -- fair
      refine ⟨.ref x1, rfl, .ref r, rfl, x1, r, P1, xs, rfl, hL1, ok1, hT, hx, by omega, fun Ha sa => ⟨true, rfl, iteF ?_⟩⟩
      refine ⟨.ref xb, rfl, .ref r, rfl, xb, r, _, xs, rfl, hLb.same sa, okB, sameT sa hT, hx, by omega, fun Hb sb => ⟨true, rfl, iteF ?_⟩⟩
      have z1 := sa.trans sb
      -- due
      refine ⟨.ref xb, rfl, .ref r, rfl, xb, r, _, xs, rfl, hLb.same z1, okB, sameT z1 hT, hx, by omega, fun t1 Hc sc hc => ?_⟩
      refine ⟨t1, _, rfl, hc, by omega, fun Du Hd sd nDu eDu => ?_⟩
      have z2 := (z1.trans sc).trans sd
      -- one behind the other
      refine ⟨.ref x1, rfl, .ref x2, rfl, .ref r, rfl, x2, r, P2, xs, rfl, hL2.same z2, ok2, sameT z2 hT, hx, by omega, fun t2 He se he => ?_⟩
      refine ⟨x1, t2, P1, _, rfl, hL1.same (z2.trans se), ok1, he, hxp2, by omega, fun t3 Hf sf hf => ?_⟩
      refine ⟨t3, _, rfl, hf, by omega, fun D2 Hg sg nD2 eD2 => ?_⟩
      have z3 := ((se.trans sf).trans sg)
      refine ⟨.ref Du, rfl, _, _, dp_lst (.inl (.inl eD2)), dp_lst (.inl (.inl (z3 _ _ eDu))), lRow_shaped _, lRow_shaped _, _, rfl, ?_⟩
      rw [lRow_eqv, gates_bare ok2.g ok1.g okB.g (fun p => (mem_both p).trans or_comm) hx, decide_eq_true rfl]
      refine iteF ?_
      have z4 := z2.trans z3
      refine ⟨.ref x2, rfl, .ref x1, rfl, .ref r, rfl, x1, r, P1, xs, rfl, hL1.same z4, ok1, sameT z4 hT, hx, by omega, fun t4 Hh sh hh => ?_⟩
      refine ⟨x2, t4, P2, _, rfl, hL2.same (z4.trans sh), ok2, hh, hxp1, by omega, fun t5 Hi si hi' => ?_⟩
      refine ⟨t5, _, rfl, hi', by omega, fun D3 Hj sj nD3 eD3 => ?_⟩
      have z5 := ((sh.trans si).trans sj)
      refine ⟨.ref Du, rfl, _, _, dp_lst (.inl (.inl eD3)), dp_lst (.inl (.inl ((z3.trans z5) _ _ eDu))), lRow_shaped _, lRow_shaped _, _, rfl, ?_⟩
      rw [lRow_eqv, gates_bare ok1.g ok2.g okB.g (fun p => mem_both p) hx, decide_eq_true rfl]
      refine iteF ?_
      have z6 := z4.trans z5
      -- the verdict stays
      refine ⟨.ref x1, rfl, .ref r, rfl, x1, r, P1, xs, rfl, hL1.same z6, ok1, sameT z6 hT, hx, by omega, fun v1 Hk sk ⟨vs1, hv1, ds1, hd1, hs1, he1⟩ => ?_⟩
      refine ⟨(by show 1 ≤ sizeLine; decide), fun k1 hk1 => ?_⟩
      have z7 : Same Hk (upd Hk k1 (.tup [.str "kept"])) := sameW hk1
      refine ⟨.tuple ds1, .tuple [.str "kept"], .tup (sameT z7 hv1) (hd1 _), .tup (.inl (.inl upd_same)) (.cons (.str _) .nil), hs1, shK, _, rfl, ?_⟩
      have z8 := (z6.trans sk).trans z7
      rw [he1]
      cases hkp : keptB P1 xs
      case' false =>
        refine iteF (iteF ?_)
        have z9 := z8
      case' true =>
        refine iteT ?_
        refine ⟨.ref x1, rfl, .ref x2, rfl, .ref r, rfl, x2, r, P2, xs, rfl, hL2.same z8, ok2, sameT z8 hT, hx, by omega, fun t6 Hl sl hl' => ?_⟩
        refine ⟨x1, t6, P1, _, rfl, hL1.same (z8.trans sl), ok1, hl', hxp2, by omega, fun v2 Hm sm ⟨vs2, hv2, ds2, hd2, hs2, he2⟩ => ?_⟩
        refine ⟨(by show 1 ≤ sizeLine; decide), fun k2 hk2 => ?_⟩
        have za : Same Hm (upd Hm k2 (.tup [.str "kept"])) := sameW hk2
        refine ⟨.tuple ds2, .tuple [.str "kept"], .tup (sameT za hv2) (hd2 _), .tup (.inl (.inl upd_same)) (.cons (.str _) .nil), hs2, shK, _, rfl, ?_⟩
        rw [he2, kept_other ok1.g ok2.g hx hkp]
        refine iteF ?_
        have z9 := ((z8.trans sl).trans sm).trans za
      all_goals
        -- a tick later
        refine ⟨.ref x1, rfl, (by show 1 ≤ sizeLine; decide), fun o1 ho1 => ⟨.ref r, rfl, ?_⟩⟩
        have zb := z9.trans (sameW (o := .tup [.int 0]) ho1)
        refine catTo (xs := [0]) (.inl (.inl upd_same)) (sameT zb hT) (by show 1 ≤ 100000; omega) (by omega) fun r0 Hn sn hn => ?_
        have zc := zb.trans sn
        have hx0 : RowOk (0 :: xs) := later_ok hx
        have hl0 := lb _ ok1 _ hx0
        rw [List.length_cons] at hl0
        refine ⟨x1, r0, P1, 0 :: xs, rfl, hL1.same zc, ok1, hn, hx0, by rw [List.length_cons]; omega, fun t7 Ho so ho => ?_⟩
        have zd := zc.trans so
        refine ⟨.ref x1, rfl, .ref r, rfl, x1, r, P1, xs, rfl, hL1.same zd, ok1, sameT zd hT, hx, by omega, fun t8 Hp sp hp8 => ?_⟩
        refine ⟨t7, t8, _, _, rfl, sameT sp ho, hp8, by omega, by omega, fun Hq sq => ?_⟩
        rw [behind_less ok1.g hx0 hx (later_le hx)]
        refine ⟨true, rfl, iteF ?_⟩
        have ze := (zd.trans sp).trans sq
        have hlr : (xs.map V.int).length = xs.length := List.length_map ..
        have hTe := sameT ze hT
        have hpe := hp2.same ze
        -- fewer
        refine ⟨.ref r, rfl, r, rfl, ⟨_, hTe⟩, fun Fl hFl => ?_⟩
        have nFl := pen_ne hpe hFl
        refine lc_itA (walk_tup (xs := xs.map V.int)) (fun i H2 => SameX p Hq H2 ∧ PenAt H2 p ∧ ∃ ys : List Int, H2 Fl = some (.lst (ys.map V.int)) ∧ ys.length = i ∧ ∀ j, j < i → 0 ≤ ys.getD j 0 ∧ ys.getD j 0 ≤ xs.getD j 0) ⟨Same.x (sameW hFl), hpe.same (sameW hFl), [], upd_same, rfl, fun j hj => absurd hj (Nat.not_lt_zero _)⟩ (fun i H2 _ pv => pv.1.tup hpe hTe) (fun i v Hr0 Hr hi pvi y => ?_) (fun Hs pvn => ?_)
        · obtain ⟨sr, hpr, ys, hys, hyl, hyb⟩ := pvi
          obtain ⟨rfl, hy⟩ := y
          have hix : i < xs.length := by rw [← hlr]; exact hi
          rw [List.getElem?_map, List.getElem?_eq_getElem hix] at hy
          obtain rfl : V.int xs[i] = v := Option.some.inj hy
          have hx0 := hx.1 xs[i] (List.getElem_mem hix)
          have hx6 := mem_le_sum hx.1 xs[i] (List.getElem_mem hix)
          have hx7 := hx.2
          have eg : xs.getD i 0 = xs[i] := by rw [List.getD_eq_getElem?_getD, List.getElem?_eq_getElem hix]; rfl
          refine ⟨rfl, .int xs[i], rfl, .ref p, rfl, .int xs[i], rfl, _, _, rfl, rfl, p, xs[i] + 1, rfl, hpr, by omega, by omega, fun n Ht hn0 hn1 st hpt => ⟨_, _, rfl, rfl, ?_⟩⟩
          have hyt := st _ _ hys nFl
          refine ⟨_, hyt, by rw [List.length_map, hyl]; exact smallK (by omega), (sr.trans st).new hpe hFl, ?_, ys ++ [xs[i] - n], by rw [upd_same, List.map_append]; rfl, by rw [List.length_append, hyl]; rfl, fun j hj => ?_⟩
          · obtain ⟨q1, q2, q3, q4⟩ := hpt
            exact ⟨q1, q2, q3, by rw [upd_ne (Ne.symm nFl)]; exact q4⟩
          · by_cases hji : j < i
            · have e1 : (ys ++ [xs[i] - n]).getD j 0 = ys.getD j 0 := by
                rw [List.getD_eq_getElem?_getD, List.getElem?_append_left (by omega), ← List.getD_eq_getElem?_getD]
              rw [e1]; exact hyb j hji
            · have e0 : j = i := by omega
              subst e0
              have e1 : (ys ++ [xs[j] - n]).getD j 0 = xs[j] - n := by
                rw [List.getD_eq_getElem?_getD, List.getElem?_append_right (by omega), show j - ys.length = 0 by omega]; rfl
              rw [e1, eg]
              omega
        · obtain ⟨sr, hpr, ys, hys, hyl, hyb⟩ := pvn
          have hyl2 : ys.length = xs.length := by rw [hyl, hlr]
          have hle : ∀ j, ys.getD j 0 ≤ xs.getD j 0 := fun j => by
            by_cases hj : j < xs.length
            · exact (hyb j (by rw [hlr]; exact hj)).2
            · rw [List.getD_eq_getElem?_getD, List.getD_eq_getElem?_getD, List.getElem?_eq_none (by omega), List.getElem?_eq_none (by omega)]; exact Int.le_refl _
          have hcum := fewer_le hyl2 hle
          have hyok : RowOk ys := by
            refine ⟨fun a ha => ?_, ?_⟩
            · obtain ⟨j, hj, rfl⟩ := List.mem_iff_getElem.mp ha
              have := (hyb j (by rw [hlr]; omega)).1
              rw [List.getD_eq_getElem?_getD, List.getElem?_eq_getElem hj] at this
              exact this
            · have h1 := hcum xs.length
              rw [cum_full (by omega), cum_full (Nat.le_refl _)] at h1
              have := hx.2
              omega
          have hly := lb _ ok1 _ hyok
          refine ⟨Fl, _, rfl, .inl ⟨.inl (.inl hys), fun ft hft => ?_⟩⟩
          have su : Same Hs (upd Hs ft (.tup (ys.map V.int))) := sameW hft
          have y1 : SameX p H2 (upd Hs ft (.tup (ys.map V.int))) := ((Same.x ze).trans sr).trans (Same.x su)
          have hpu := hpr.same su
          have hLu1 := y1.lim hp2 hL1
          have hLuB := y1.lim hp2 hLb
          have hTu := y1.tup hp2 hT
          refine ⟨.ref x1, rfl, .ref ft, rfl, x1, ft, P1, ys, rfl, hLu1, ok1, .inl (.inl upd_same), hyok, by omega, fun t9 Hv sv hv => ?_⟩
          refine ⟨.ref x1, rfl, .ref r, rfl, x1, r, P1, xs, rfl, hLu1.same sv, ok1, sameT sv hTu, hx, by omega, fun ta Hw sw hw => ?_⟩
          refine ⟨t9, ta, _, _, rfl, sameT sw hv, hw, by omega, by omega, fun Hx sx => ?_⟩
          rw [behind_less ok1.g hyok hx hcum]
          refine ⟨true, rfl, iteF ?_⟩
          have w1 := (sv.trans sw).trans sx
          refine ⟨.ref xb, rfl, .ref r, rfl, xb, r, _, xs, rfl, hLuB.same w1, okB, sameT w1 hTu, hx, by omega, fun tb Hy sy hyb' => ?_⟩
          have w2 := w1.trans sy
          refine ⟨.ref x1, rfl, .ref r, rfl, x1, r, P1, xs, rfl, hLu1.same w2, ok1, sameT w2 hTu, hx, by omega, fun tc Hz sz hz' => ?_⟩
          refine ⟨tb, tc, _, _, rfl, sameT sz hyb', hz', by omega, by omega, fun HA sA => ?_⟩
          rw [behind_limits ok1.g okB.g (fun q hq => (mem_both q).mpr (.inl hq)) hx]
          refine ⟨true, rfl, iteF ?_⟩
          have w3 := (w2.trans sz).trans sA
          exact ⟨(sG.trans y1).trans (Same.x w3), hpu.same w3, _, _, _, _, rfl⟩
    · obtain ⟨sG, hp2, y4, y5, y6, y7, rfl⟩ := pvn
      exact q H2 (s0G.trans sG) hp2
def sp_law (K : PySem.W.Frag) : Sp := fun vs H Q _ => ∃ (a : Addr) (ns : List Int), vs = [.ref a] ∧ SqL K H a (ns.map V.int) ∧ ns.length ≤ 1000 ∧ ∀ H', Q (.bl true) H'
theorem ok_law (T : Txt K mg C) {f : Addr} {fd : FuncData} (F : Fun K "law" "law" sLaw f fd) : FnOk P w K mg base (L2.CX P w) 12 f fd ["_law_script"] (sp_law K) := by
  have nd : (["_law_script", "_law_k", "_law_pen_here", "_law_lap"] : List Str).Nodup := by decide +kernel
  have S : FnScope ["_law_script", "_law_k", "_law_pen_here", "_law_lap"] ["_law_script"] (defScope sLaw) := ⟨rfl, rfl, rfl, nd, rfl, by decide +kernel, by decide +kernel⟩
  refine F.okX S (fun vs H Q E h => ?_) fun cdv A outer s H vs Q E hr h => ?_
  · obtain ⟨a, ns, rfl, _⟩ := h; rfl
  · obtain ⟨a, ns, rfl, hS, hlen, q⟩ := h
    have hin : (∃ o, H a = some o) ∨ ∀ H' : Hp, SqL K H' a (ns.map V.int) := by
      rcases hS with (z | ⟨o, z⟩) | z
      · exact .inl ⟨_, z⟩
      · exact .inl ⟨_, z⟩
      · exact .inr fun _ => .inr z
    have hln : (ns.map V.int).length = ns.length := List.length_map ..
    refine ⟨_, PSs.nox (pss_cons (ps_for PassesOwn.never rfl (pi_range1 (by rfl) T.z_range (pa_cons (pe_callB (call_max2 rfl) (by rfl) T.z_max (by decide +kernel) (pa_cons pe_int (pa_cons (pe_callB (call_min2 rfl) (by rfl) T.z_min (by decide +kernel) (pa_cons (pe_callB call_len_seq (by rfl) T.z_len PySem.boot_len (pa_cons (pv 0) pa_nil)) (pa_cons pe_int pa_nil))) pa_nil))) pa_nil)) (pg_name (i := 1) nd rfl (.inl rfl))
        (pss_cons (ps_set (i := 2) nd rfl (.inl rfl) (pe_D (d_pen T) hr (by rfl) (pa_cons (pe_D (d_cell T) hr (by rfl) (pa_cons (pv 0) (pa_cons (pv 1) pa_nil))) pa_nil)))
        (pss_one (ps_for PassesOwn.never rfl (pi_range1 (by rfl) T.z_range (pa_cons pe_int pa_nil)) (pg_name (i := 3) nd rfl (.inl rfl))
          (pss_one (ps_if (pt_not (pt_val (pe_D (d_right T) hr (by rfl) (pa_cons (pv 2) pa_nil)))) (pss_one (ps_ret pe_bl)) pss_nil))))))
      (pss_one (ps_ret pe_bl))), ?_⟩
    refine ⟨.ref a, rfl, a, _, rfl, .inl hS, _, _, rfl, _, _, rfl, _, rfl, ?_, ?_, ?_⟩
    · split <;> split <;> omega
    · split <;> split <;> omega
    refine for_it walk_range (fun i σ H2 => (∃ y1 y2 y3, σ = [some (.ref a), y1, y2, y3]) ∧ SqL K H2 a (ns.map V.int) ∧ ((∃ o, H2 a = some o) ∨ ∀ H' : Hp, SqL K H' a (ns.map V.int))) ⟨⟨_, _, _, rfl⟩, hS, hin⟩ (fun _ _ _ _ _ => trivial) (fun i x σ H2o H2 hi pvi y => ?_) (fun σ H2 pvn => ?_)
    · obtain ⟨⟨y1, y2, y3, rfl⟩, hS2, hin2⟩ := pvi
      obtain ⟨rfl, rfl⟩ := y
      refine ⟨.ref a, rfl, .int ((0 : Int) + i), rfl, a, ns, i, by rw [Int.zero_add], hS2, fun v => ⟨v, rfl, fun p H3 s3 np hp => ?_⟩⟩
      refine ⟨3, rfl, by decide, by decide, ?_⟩
      refine for_it walk_range (fun i σ H4 => (∃ y1 y3, σ = [some (.ref a), y1, some (.ref p), y3]) ∧ SameX p H3 H4 ∧ PenAt H4 p) ⟨⟨_, _, rfl⟩, SameX.refl _ _, hp⟩ (fun _ _ _ _ _ => trivial) (fun j x σ H4o H4 hj pvj y => ?_) (fun σ H4 pvj => ?_)
      · obtain ⟨⟨y1, y3, rfl⟩, s4, hp4⟩ := pvj
        obtain ⟨rfl, rfl⟩ := y
        exact ⟨.ref p, rfl, p, rfl, hp4, fun H5 s5 hp5 => ⟨true, rfl, iteF ⟨⟨_, _, rfl⟩, s4.trans s5, hp5⟩⟩⟩
      · obtain ⟨⟨y1, y3, rfl⟩, s4, hp4⟩ := pvj
        have s24 := (Same.x s3).trans s4
        rcases hin2 with ⟨o2, ho2⟩ | hall
        · have nap : a ≠ p := fun e => by rw [e, np] at ho2; cases ho2
          exact ⟨⟨_, _, _, rfl⟩, s24.sqL nap hS2, .inl ⟨o2, s24 _ _ ho2 nap⟩⟩
        · exact ⟨⟨_, _, _, rfl⟩, hall _, .inr hall⟩
    · exact q H2
end
end B45

set_option Elab.async false
set_option linter.all false
set_option maxRecDepth 100000
set_option maxHeartbeats 0
/-! The head: the top's facts by names. -/
namespace B45
open PySem PySem.Spec PyProof.Rows L2 BX BM
/-! ### what the walk asks of the class -/
def exB (K : PySem.W.Frag) : Bool :=
  PySem.W.selfFirst K (He.ga K "Limits") && (He.eqO (PySem.W.findIn K (.ref (He.ga K "Limits")) "__add__") (some (some (.ref (He.ma K (He.ga K "Limits") "__add__")))) && (PySem.W.isFn K (.ref (He.ma K (He.ga K "Limits") "__add__")) &&
  (He.eqO (PySem.W.findIn K (.ref (He.ga K "Limits")) "pairs") (some (some (.ref (He.ma K (He.ga K "Limits") "pairs")))) && (He.eqO (PySem.W.specialIn K (.ref (He.ma K (He.ga K "Limits") "pairs")) "__get__") (some (some (.builtin "property.__get__"))) &&
  (decide (PySem.W.takesIn K (.ref (He.ma K (He.ga K "Limits") "pairs")) = some true) && ((match PySem.W.recIn K (He.ma K (He.ga K "Limits") "pairs") "property" with
    | some (.ref _ :: _) => true
    | _ => false) &&
  (PySem.W.readsIn K (He.ga K "Limits") (.type "type") && (He5.wrapB K (He.ga K "Limits") "classmethod" "classmethod.__get__" "single" && (PySem.W.fnIn K (He5.wf K (He.ga K "Limits") "classmethod" "single") &&
  (He.eqO (PySem.W.findIn K (.ref (He.ga K "Limits")) "__class__") (some (some (.builtin "object.__class__"))) && (He.eqO (PySem.W.specialIn K (.builtin "object.__class__") "__get__") (some (some (.builtin "getset_descriptor.__get__"))) &&
  (decide (PySem.W.takesIn K (.builtin "object.__class__") = some true) && decide (PySem.W.mroIn K (He.ga K "Limits") (.type "object") = some true)))))))))))))
theorem cread_plain {K : PySem.W.Frag} {C : Addr} (h0 : PySem.W.readsIn K C (.type "type") = true) : ClX.CRead K C (.type "type") := by
  refine ⟨h0, ?_⟩
  have h := h0
  unfold PySem.W.readsIn at h
  obtain ⟨h, _⟩ := He.ba h
  obtain ⟨h, _⟩ := He.ba h
  obtain ⟨h, h3⟩ := He.ba h
  obtain ⟨_, h2⟩ := He.ba h
  unfold PySem.W.specialIn
  rw [beq_iff_eq.mp h2, Option.bind_some]
  exact beq_iff_eq.mp h3
structure ExF (K : PySem.W.Frag) : Prop where
  ad : AddOwn K (He.ga K "Limits") (He.ma K (He.ga K "Limits") "__add__")
  pr : PropOf K (He.ga K "Limits") "pairs" (He.ma K (He.ga K "Limits") "pairs") (He5.wf K (He.ga K "Limits") "property" "pairs")
  cr : ClX.CRead K (He.ga K "Limits") (.type "type")
  cm : ClX.CMet K (He.ga K "Limits") (.type "type") "single" (He.ma K (He.ga K "Limits") "single") (He5.wf K (He.ga K "Limits") "classmethod" "single")
  ty : ∀ {H : Hp} {a dx : Addr} {fs : List (Str × V)}, H a = some (.ins (He.ga K "Limits") dx fs) → Cls K (He.ga K "Limits") → TyOf K H (.ref a) (.ref (He.ga K "Limits"))
theorem ex_ok {K : PySem.W.Frag} (h : exB K = true) : ExF K := by
  obtain ⟨h1, h⟩ := He.ba h
  obtain ⟨h2, h⟩ := He.ba h
  obtain ⟨h3, h⟩ := He.ba h
  obtain ⟨h4, h⟩ := He.ba h
  obtain ⟨h5, h⟩ := He.ba h
  obtain ⟨h6, h⟩ := He.ba h
  obtain ⟨h7, h⟩ := He.ba h
  obtain ⟨h8, h⟩ := He.ba h
  obtain ⟨h9, h⟩ := He.ba h
  obtain ⟨h10, h⟩ := He.ba h
  obtain ⟨h11, h⟩ := He.ba h
  obtain ⟨h12, h⟩ := He.ba h
  obtain ⟨h13, h14⟩ := He.ba h
  refine ⟨⟨h1, He.eqO_ok h2, h3⟩, ⟨He.eqO_ok h4, He.eqO_ok h5, of_decide_eq_true h6, ?_⟩, cread_plain h8, He5.cmet_of h9 h10, fun e cl => .ins e cl (He.eqO_ok h11) (He.eqO_ok h12) (of_decide_eq_true h13) (of_decide_eq_true h14)⟩
  unfold He5.wf
  split at h7
  · rename_i f r e
    exact ⟨r, by rw [e]⟩
  · cases h7
/-! ### the Hook -/
def obsB (fa : List He.Fa) (fn : List He5.DefA) (K : PySem.W.Frag) : He.AlD := ((fa.all fun f => f.ok K) && ((fn.all fun d => d.ok K) && exB K), fn.map fun d => He5.fnA K (d.at_ K))
def valB (fn : List He5.DefA) : He.AlD := (true, fn.map He5.DefA.val)
def SaysB (fa : List He.Fa) (fn : List He5.DefA) (K : PySem.W.Frag) : Prop := obsB fa fn K = valB fn
def obsBG (n : Nat) (fa : List He.Fa) (fn : List He5.DefA) (g : Addr → Option Obj) : He.AlD := obsB fa fn (He.frG g (He5.asA g n))
def hookB (n : Nat) (fa : List He.Fa) (fn : List He5.DefA) : PySem.W.Hook where
  α := He.AlD
  obs := fun s => obsBG n fa fn s.heap.get?
  val := fun _ => valB fn
  says := fun _ h => ∃ K : PySem.W.Frag, K.In h ∧ SaysB fa fn K
  of := fun _ _ e => ⟨_, He.frG_in, e⟩
  keeps := fun _ _ _ ⟨K, hK, c⟩ k => ⟨K, PySem.W.Frag.In.keeps hK k, c⟩
theorem obsBG_eq {n : Nat} {fa : List He.Fa} {fn : List He5.DefA} {g : Addr → Option Obj} {s : Shared} (h : ∀ a, g a = s.heap.get? a) : obsBG n fa fn g = (hookB n fa fn).obs s := by
  have e : g = s.heap.get? := funext h
  rw [e] <;> rfl
section
variable {fa : List He.Fa} {fn : List He5.DefA} {K : PySem.W.Frag}
theorem SaysB.all (c : SaysB fa fn K) : ((fa.all fun f => f.ok K) && ((fn.all fun d => d.ok K) && exB K)) = true := congrArg (fun z : He.AlD => z.1) c
theorem SaysB.fact (c : SaysB fa fn K) (i : Nat) {f : He.Fa} (h : fa[i]? = some f := by rfl) : f.ok K = true :=
  List.all_eq_true.mp (He.ba c.all).1 f (List.mem_of_getElem? h)
theorem SaysB.ex (c : SaysB fa fn K) : exB K = true := (He.ba (He.ba c.all).2).2
theorem SaysB.def_ (c : SaysB fa fn K) (i : Nat) {d : He5.DefA} (h : fn[i]? = some d := by rfl) : ∃ fd, L2.FunD K d.name d.qual d.params d.body d.scope (d.dvs K) (d.kws K) (d.at_ K) fd := by
  have c2 := (He.ba (He.ba c.all).2).1
  have e : fn.map (fun d => He5.fnA K (d.at_ K)) = fn.map He5.DefA.val := congrArg (fun z : He.AlD => z.2) c
  have e2 : (fn.map fun d => He5.fnA K (d.at_ K))[i]? = (fn.map He5.DefA.val)[i]? := by rw [e]
  rw [List.getElem?_map, List.getElem?_map, h] at e2
  exact He5.DefA.funD (Option.some.inj e2) (List.all_eq_true.mp c2 d (List.mem_of_getElem? h))
theorem gf_of {mg : Str → Option Value} {x : Str} {st : Stmt} {kws : List (Str × V)} (h : ∃ fd, L2.FunD K x x (defArgs st) (defBody st) (defScope st) [] kws (He.ga K x) fd) (g : mg x = some (.ref (He.ga K x))) : GF K mg x st := by
  obtain ⟨fd, F⟩ := h
  exact ⟨_, fd, He5.fun_of F, g⟩
end
def DEF0 : He5.DefA := ⟨fun K => He.ga K "is_integer", "is_integer", "is_integer", defArgs sIsInteger, defBody sIsInteger, defScope sIsInteger, [], []⟩
def DEF1 : He5.DefA := ⟨fun K => He.ga K "is_between", "is_between", "is_between", defArgs sIsBetween, defBody sIsBetween, defScope sIsBetween, [], []⟩
def DEF2 : He5.DefA := ⟨fun K => He.ga K "is_pair", "is_pair", "is_pair", defArgs sIsPair, defBody sIsPair, defScope sIsPair, [], []⟩
def DEF3 : He5.DefA := ⟨fun K => He.ga K "is_row", "is_row", "is_row", defArgs sIsRow, defBody sIsRow, defScope sIsRow, [], []⟩
def DEF4 : He5.DefA := ⟨fun K => He.ga K "stretch_sum", "stretch_sum", "stretch_sum", defArgs sStretch, defBody sStretch, defScope sStretch, [], []⟩
def DEF5 : He5.DefA := ⟨fun K => He.ga K "are_pairs", "are_pairs", "are_pairs", defArgs sArePairs, defBody sArePairs, defScope sArePairs, [], []⟩
def DEF6 : He5.DefA := ⟨fun K => He.ga K "need_limits", "need_limits", "need_limits", defArgs sNeedLimits, defBody sNeedLimits, defScope sNeedLimits, [], []⟩
def DEF7 : He5.DefA := ⟨fun K => He.ga K "need_row", "need_row", "need_row", defArgs sNeedRow, defBody sNeedRow, defScope sNeedRow, [], []⟩
def DEF8 : He5.DefA := ⟨fun K => He.ga K "first_broken", "first_broken", "first_broken", defArgs sFirstBroken, defBody sFirstBroken, defScope sFirstBroken, [], []⟩
def DEF9 : He5.DefA := ⟨fun K => He.ga K "verdict", "verdict", "verdict", defArgs sVerdict, defBody sVerdict, defScope sVerdict, [], []⟩
def DEF10 : He5.DefA := ⟨fun K => He.ga K "allowed_now", "allowed_now", "allowed_now", defArgs sAllowed, defBody sAllowed, defScope sAllowed, [], []⟩
def DEF11 : He5.DefA := ⟨fun K => He.ga K "let_through", "let_through", "let_through", defArgs sLetThrough, defBody sLetThrough, defScope sLetThrough, [], []⟩
def DEF12 : He5.DefA := ⟨fun K => He.ga K "passed", "passed", "passed", defArgs sPassed, defBody sPassed, defScope sPassed, [], []⟩
def DEF13 : He5.DefA := ⟨fun K => He.ga K "ticks_of", "ticks_of", "ticks_of", defArgs sTicksOf, defBody sTicksOf, defScope sTicksOf, [], []⟩
def DEF14 : He5.DefA := ⟨fun K => He.ga K "waits_of", "waits_of", "waits_of", defArgs sWaitsOf, defBody sWaitsOf, defScope sWaitsOf, [], []⟩
def DEF15 : He5.DefA := ⟨fun K => He.ga K "waits", "waits", "waits", defArgs sWaits, defBody sWaits, defScope sWaits, [], []⟩
def DEF16 : He5.DefA := ⟨fun K => He.ga K "waiting", "waiting", "waiting", defArgs sWaiting, defBody sWaiting, defScope sWaiting, [], []⟩
def DEF17 : He5.DefA := ⟨fun K => He.ga K "_law_cell", "_law_cell", "_law_cell", defArgs sCell, defBody sCell, defScope sCell, [], []⟩
def DEF18 : He5.DefA := ⟨fun K => He.ga K "_law_pen", "_law_pen", "_law_pen", defArgs sPen, defBody sPen, defScope sPen, [], []⟩
def DEF19 : He5.DefA := ⟨fun K => He.ga K "_law_draw", "_law_draw", "_law_draw", defArgs sDraw, defBody sDraw, defScope sDraw, [], []⟩
def DEF20 : He5.DefA := ⟨fun K => He.ga K "_law_pairs", "_law_pairs", "_law_pairs", defArgs sLawPairs, defBody sLawPairs, defScope sLawPairs, [], []⟩
def DEF21 : He5.DefA := ⟨fun K => He.ga K "_law_limits", "_law_limits", "_law_limits", defArgs sLawLimits, defBody sLawLimits, defScope sLawLimits, [], []⟩
def DEF22 : He5.DefA := ⟨fun K => He.ga K "_law_row", "_law_row", "_law_row", defArgs sLawRow, defBody sLawRow, defScope sLawRow, [], []⟩
def DEF23 : He5.DefA := ⟨fun K => He.ga K "_law_behind", "_law_behind", "_law_behind", defArgs sBehind, defBody sBehind, defScope sBehind, [], []⟩
def DEF24 : He5.DefA := ⟨fun K => He.ga K "_law_bare", "_law_bare", "_law_bare", defArgs sBare, defBody sBare, defScope sBare, [], []⟩
def DEF25 : He5.DefA := ⟨fun K => He.ga K "_law_fair", "_law_fair", "_law_fair", defArgs sFair, defBody sFair, defScope sFair, [], []⟩
def DEF26 : He5.DefA := ⟨fun K => He.ga K "_law_right", "_law_right", "_law_right", defArgs sRight, defBody sRight, defScope sRight, [], []⟩
def DEF27 : He5.DefA := ⟨fun K => He.ma K (He.ga K "Limits") "__init__", "__init__", "Limits.__init__", defArgs sLimInit, defBody sLimInit, defScope sLimInit, [], []⟩
def DEF28 : He5.DefA := ⟨fun K => He5.wf K (He.ga K "Limits") "classmethod" "single", "single", "Limits.single", defArgs sSingle, defBody sSingle, defScope sSingle, [], []⟩
def DEF29 : He5.DefA := ⟨fun K => He5.wf K (He.ga K "Limits") "property" "pairs", "pairs", "Limits.pairs", defArgs sPairs, defBody sPairs, defScope sPairs, [], []⟩
def DEF30 : He5.DefA := ⟨fun K => He.ma K (He.ga K "Limits") "__add__", "__add__", "Limits.__add__", defArgs sLimAdd, defBody sLimAdd, defScope sLimAdd, [], []⟩
def DEF31 : He5.DefA := ⟨fun K => He.ga K "law", "law", "law", defArgs sLaw, defBody sLaw, defScope sLaw, [], []⟩
def fn0 : List He5.DefA := [DEF0, DEF1, DEF2, DEF3, DEF4, DEF5, DEF6, DEF7, DEF8, DEF9, DEF10, DEF11, DEF12, DEF13, DEF14, DEF15, DEF16, DEF17, DEF18, DEF19, DEF20, DEF21, DEF22, DEF23, DEF24, DEF25, DEF26, DEF27, DEF28, DEF29]
def fn1 : List He5.DefA := [DEF30, DEF31]
abbrev fn : List He5.DefA := fn0 ++ fn1
def fa0 : List He.Fa := [.cls "Limits", .noat "Limits" "kept", .glo "Limits", .free "isinstance", .free "int", .free "bool", .free "tuple", .free "list", .free "len", .free "all", .free "sum", .free "set", .free "range", .free "enumerate", .free "min", .free "max", .free "zip", .int "MOST_LENGTH" 20, .int "MOST_NUMBER" 20, .int "MOST_REQUESTS" 60, .int "MOST_LIMITS" 6, .str "KEPT" "kept", .str "BROKEN" "broken", .glo "is_integer", .glo "is_between", .glo "is_pair", .glo "is_row", .glo "stretch_sum", .glo "are_pairs", .glo "need_limits"]
def fa1 : List He.Fa := [.glo "need_row", .glo "first_broken", .glo "verdict", .glo "allowed_now", .glo "let_through", .glo "passed", .glo "ticks_of", .glo "waits_of", .glo "waits", .glo "waiting", .glo "_law_cell", .glo "_law_pen", .glo "_law_draw", .glo "_law_pairs", .glo "_law_limits", .glo "_law_row", .glo "_law_behind", .glo "_law_bare", .glo "_law_fair", .glo "_law_right", .mkr "Limits", .glo "law"]
abbrev fa : List He.Fa := fa0 ++ fa1
def loose0 : List PySem.Str := ["_wall", "BurstError", "NoLimit", "NoLimits", "NoRow", "NoNumber", "NoLength", "NoText", "TooMany", "MOST_LENGTH", "MOST_NUMBER", "MOST_REQUESTS", "is_integer", "is_between", "is_pair", "is_row", "stretch_sum", "MOST_LIMITS", "MOST_ASKED", "HEAD", "DIGITS", "number_in", "pair_in", "are_pairs", "Limits", "need_limits", "sums_up_to", "KEPT", "BROKEN", "need_row"]
def loose1 : List PySem.Str := ["first_broken", "verdict", "allowed_now", "let_through", "passed", "ticks_of", "waits_of", "waits", "waiting", "_law_cell", "_law_pen", "_law_draw", "_law_pairs", "_law_limits", "_law_row", "_law_behind", "_law_bare", "_law_fair", "_law_right"]
abbrev loose : List PySem.Str := loose0 ++ loose1
abbrev R : PySem.W.OpenRow := PySem.W.OpenLaw.row PySem.Challenge.rw_burstlimits_k45_whole_gates_one_behind_t
abbrev hk : PySem.W.Hook := hookB 7 fa fn
def ob (s : PySem.W.SharedT) : He.AlD := obsBG 7 fa fn (HandSHeadRun.getT s)
theorem ob_eq (s : PySem.W.SharedT) : ob s = hk.obs s.abs := obsBG_eq (HandSHeadRun.getT_eq s)
theorem run (w : World) : HandSHeadRun.RunEq R (PySem.W.view R.prog [55]) hk ob 6000 loose w := by
  intro os
  kernel_rfl
theorem txt_of {K : PySem.W.Frag} {h : Heap} {mg : Str → Option Value} (X : K.In h) (G : h.Ns mainGlobals mg) (c : SaysB fa fn K) : Txt K mg (He.ga K "Limits") :=
  { cl := He.cls_ok (c.fact 0 (f := .cls "Limits") rfl),
    nK := He.noat_ok (c.fact 1 (f := .noat "Limits" "kept") rfl),
    mgC := He.glo_ok X G (c.fact 2 (f := .glo "Limits") rfl),
    z_isinstance := He.free_ok X G (c.fact 3 (f := .free "isinstance") rfl),
    z_int := He.free_ok X G (c.fact 4 (f := .free "int") rfl),
    z_bool := He.free_ok X G (c.fact 5 (f := .free "bool") rfl),
    z_tuple := He.free_ok X G (c.fact 6 (f := .free "tuple") rfl),
    z_list := He.free_ok X G (c.fact 7 (f := .free "list") rfl),
    z_len := He.free_ok X G (c.fact 8 (f := .free "len") rfl),
    z_all := He.free_ok X G (c.fact 9 (f := .free "all") rfl),
    z_sum := He.free_ok X G (c.fact 10 (f := .free "sum") rfl),
    z_set := He.free_ok X G (c.fact 11 (f := .free "set") rfl),
    z_range := He.free_ok X G (c.fact 12 (f := .free "range") rfl),
    z_enumerate := He.free_ok X G (c.fact 13 (f := .free "enumerate") rfl),
    z_min := He.free_ok X G (c.fact 14 (f := .free "min") rfl),
    z_max := He.free_ok X G (c.fact 15 (f := .free "max") rfl),
    z_zip := He.free_ok X G (c.fact 16 (f := .free "zip") rfl),
    i_length := He.int_ok X G (c.fact 17 (f := .int "MOST_LENGTH" 20) rfl),
    i_number := He.int_ok X G (c.fact 18 (f := .int "MOST_NUMBER" 20) rfl),
    i_requests := He.int_ok X G (c.fact 19 (f := .int "MOST_REQUESTS" 60) rfl),
    i_limits := He.int_ok X G (c.fact 20 (f := .int "MOST_LIMITS" 6) rfl),
    t_kept := He.str_ok X G (c.fact 21 (f := .str "KEPT" "kept") rfl),
    t_broken := He.str_ok X G (c.fact 22 (f := .str "BROKEN" "broken") rfl),
    g_is_integer := gf_of (c.def_ 0 (d := DEF0) rfl) (He.glo_ok X G (c.fact 23 (f := .glo "is_integer") rfl)),
    g_is_between := gf_of (c.def_ 1 (d := DEF1) rfl) (He.glo_ok X G (c.fact 24 (f := .glo "is_between") rfl)),
    g_is_pair := gf_of (c.def_ 2 (d := DEF2) rfl) (He.glo_ok X G (c.fact 25 (f := .glo "is_pair") rfl)),
    g_is_row := gf_of (c.def_ 3 (d := DEF3) rfl) (He.glo_ok X G (c.fact 26 (f := .glo "is_row") rfl)),
    g_stretch := gf_of (c.def_ 4 (d := DEF4) rfl) (He.glo_ok X G (c.fact 27 (f := .glo "stretch_sum") rfl)),
    g_are_pairs := gf_of (c.def_ 5 (d := DEF5) rfl) (He.glo_ok X G (c.fact 28 (f := .glo "are_pairs") rfl)),
    g_need_limits := gf_of (c.def_ 6 (d := DEF6) rfl) (He.glo_ok X G (c.fact 29 (f := .glo "need_limits") rfl)),
    g_need_row := gf_of (c.def_ 7 (d := DEF7) rfl) (He.glo_ok X G (c.fact 30 (f := .glo "need_row") rfl)),
    g_first_broken := gf_of (c.def_ 8 (d := DEF8) rfl) (He.glo_ok X G (c.fact 31 (f := .glo "first_broken") rfl)),
    g_verdict := gf_of (c.def_ 9 (d := DEF9) rfl) (He.glo_ok X G (c.fact 32 (f := .glo "verdict") rfl)),
    g_allowed := gf_of (c.def_ 10 (d := DEF10) rfl) (He.glo_ok X G (c.fact 33 (f := .glo "allowed_now") rfl)),
    g_let_through := gf_of (c.def_ 11 (d := DEF11) rfl) (He.glo_ok X G (c.fact 34 (f := .glo "let_through") rfl)),
    g_passed := gf_of (c.def_ 12 (d := DEF12) rfl) (He.glo_ok X G (c.fact 35 (f := .glo "passed") rfl)),
    g_ticks_of := gf_of (c.def_ 13 (d := DEF13) rfl) (He.glo_ok X G (c.fact 36 (f := .glo "ticks_of") rfl)),
    g_waits_of := gf_of (c.def_ 14 (d := DEF14) rfl) (He.glo_ok X G (c.fact 37 (f := .glo "waits_of") rfl)),
    g_waits := gf_of (c.def_ 15 (d := DEF15) rfl) (He.glo_ok X G (c.fact 38 (f := .glo "waits") rfl)),
    g_waiting := gf_of (c.def_ 16 (d := DEF16) rfl) (He.glo_ok X G (c.fact 39 (f := .glo "waiting") rfl)),
    g_cell := gf_of (c.def_ 17 (d := DEF17) rfl) (He.glo_ok X G (c.fact 40 (f := .glo "_law_cell") rfl)),
    g_pen := gf_of (c.def_ 18 (d := DEF18) rfl) (He.glo_ok X G (c.fact 41 (f := .glo "_law_pen") rfl)),
    g_draw := gf_of (c.def_ 19 (d := DEF19) rfl) (He.glo_ok X G (c.fact 42 (f := .glo "_law_draw") rfl)),
    g_pairs := gf_of (c.def_ 20 (d := DEF20) rfl) (He.glo_ok X G (c.fact 43 (f := .glo "_law_pairs") rfl)),
    g_limits := gf_of (c.def_ 21 (d := DEF21) rfl) (He.glo_ok X G (c.fact 44 (f := .glo "_law_limits") rfl)),
    g_row := gf_of (c.def_ 22 (d := DEF22) rfl) (He.glo_ok X G (c.fact 45 (f := .glo "_law_row") rfl)),
    g_behind := gf_of (c.def_ 23 (d := DEF23) rfl) (He.glo_ok X G (c.fact 46 (f := .glo "_law_behind") rfl)),
    g_bare := gf_of (c.def_ 24 (d := DEF24) rfl) (He.glo_ok X G (c.fact 47 (f := .glo "_law_bare") rfl)),
    g_fair := gf_of (c.def_ 25 (d := DEF25) rfl) (He.glo_ok X G (c.fact 48 (f := .glo "_law_fair") rfl)),
    g_right := gf_of (c.def_ 26 (d := DEF26) rfl) (He.glo_ok X G (c.fact 49 (f := .glo "_law_right") rfl)),
    isC := if_pos (by simp),
    ty := fun H a dx fs e => (ex_ok c.ex).ty e (He.cls_ok (c.fact 0 (f := .cls "Limits") rfl)),
    ini := by obtain ⟨fd, F⟩ := c.def_ 27 (d := DEF27) rfl; exact ⟨_, fd, He5.fun_of F, He.mkr_ok (c.fact 50 (f := .mkr "Limits") rfl)⟩,
    sgl := by obtain ⟨fd, F⟩ := c.def_ 28 (d := DEF28) rfl; exact ⟨_, fd, _, _, He5.fun_of F, (ex_ok c.ex).cr, (ex_ok c.ex).cm⟩,
    prs := by obtain ⟨fd, F⟩ := c.def_ 29 (d := DEF29) rfl; exact ⟨_, fd, _, He5.fun_of F, (ex_ok c.ex).pr⟩,
    add := by obtain ⟨fd, F⟩ := c.def_ 30 (d := DEF30) rfl; exact ⟨_, fd, He5.fun_of F, (ex_ok c.ex).ad⟩ }
/-- a law's end, what may raise by the world -/
theorem walk_ofW {l : PySem.W.OpenLaw} {n k : Nat} {q : Program} {loose : List Str} {XP : (Str → Option Value) → Heap → Prop} {YP : World → Heap → Prop} {d : DefRec} {x : Str}
    (hn : l.most = some n) (hn2 : n ≤ sizeLine) (hdf : d.params.defaults = []) (hr : Room k callerA)
    (F : ∀ (w : World) (mg : Str → Option Value) (fa : Addr) (h : Heap), YP w h → h.Ns mainGlobals mg → mg d.name = some (.ref fa) →
      ∃ (K : PySem.W.Frag) (fd : FuncData) (sp : Sp), K.In h ∧ (∀ (s : Shared) (u : Value), BindsTo s fd ⟨[u], []⟩ [(x, u)]) ∧
        (∀ (H : Hp) (a : Addr) (ns : List Int), ns.length ≤ n → Only H → SqL K H a (ns.map V.int) → sp [.ref a] H (fun v _ => v = .bl true) fun _ _ _ => False) ∧
        ∀ base : Heap, K.In base → base.Ns mainGlobals mg → FnOk l.prog w K mg base (L2.CX l.prog w) k fa fd [x] sp) :
    PySem.W.WalkO q loose XP YP l.row.toRowW d [] (fun f vs => PySem.call f vs) := by
  refine Att.attach_call hn hdf fun w s₀ s₁ mg mb fa o pm cd doc a vs ns G Y ho hd hcd hmg hobj hints hlen hg => ?_
  obtain ⟨K, fd, sp, KX, hb, hsp, hF⟩ := F w mg fa _ Y G.T.g hmg
  refine law_call KX G.T.g G.T.b G.T.builtins G.T.nolimit hg hobj hints (Nat.le_trans hlen hn2) hr hF hb (fun H hO hS => hsp H a ns hlen hO hS) fun H e s' h => ?_
  obtain ⟨_, _, _, _, _, _, _, _, _, _, _, _, z⟩ := h
  exact z
theorem facts {P : Program} {w : World} {K : PySem.W.Frag} {h : Heap} {mg : Str → Option Value} {f : Addr} (X : K.In h) (G : h.Ns mainGlobals mg) (hfa : mg ("law" : Str) = some (.ref f)) (c : SaysB fa fn K) :
    ∃ fd : FuncData, (∀ (s : Shared) (v : Value), BindsTo s fd ⟨[v], []⟩ [("_law_script", v)]) ∧ ∀ base : Heap, K.In base → base.Ns mainGlobals mg → FnOk P w K mg base (L2.CX P w) 12 f fd ["_law_script"] (sp_law K) := by
  obtain ⟨fd, F⟩ := c.def_ 31 (d := DEF31) rfl
  have e := hfa.symm.trans (He.glo_ok X G (c.fact 51 (f := .glo "law") rfl))
  cases e
  have b := FunD.bindsA (ps := ["_law_script"]) F fun _ _ _ _ _ _ us hl => match us, hl with | [_], _ => rfl
  exact ⟨fd, fun s v => b s [v] rfl, fun base _ _ => ok_law (txt_of X G c) (He5.fun_of F)⟩
end B45
open PySem PySem.W PySem.Calls PyProof.Rows
theorem PySem.Challenge.cw_burstlimits_k45_whole_gates_one_behind_t_holds : PySem.Challenge.rw_burstlimits_k45_whole_gates_one_behind_t.Holds := by
  w_on; o_law
  refine HandSHeadRun.head_any (r := OpenLaw.row PySem.Challenge.rw_burstlimits_k45_whole_gates_one_behind_t) (q := view (OpenLaw.row PySem.Challenge.rw_burstlimits_k45_whole_gates_one_behind_t).prog [55]) (H := B45.hk) (ob := B45.ob) (M := 6000) (loose := B45.loose) (d := HandSHeadRun.topDef (OpenLaw.row PySem.Challenge.rw_burstlimits_k45_whole_gates_one_behind_t).prog 55) (kwd := []) B45.ob_eq
    (by kernel_rfl) (fun s => by kernel_rfl) B45.run (by kernel_rfl) (by kernel_rfl) (by kernel_rfl) (by rfl) (by first | assumption | decide +kernel) (by decide +kernel) ⟨rfl, rfl, rfl, rfl, rfl, by decide +kernel⟩ ?hw ?hc
  case hw => w_witness2
  case hc =>
    refine B45.walk_ofW (l := PySem.Challenge.rw_burstlimits_k45_whole_gates_one_behind_t) (n := 63) (k := 12) (x := "_law_script") rfl (by decide) (by kernel_rfl) ⟨rfl, by decide, by decide⟩ ?F
    intro w mg fa h Y G hmg0
    obtain ⟨K, KX, c⟩ := Y
    have hmg : mg ("law" : PySem.Str) = some (.ref fa) := by
      have e : (HandSHeadRun.topDef (OpenLaw.row PySem.Challenge.rw_burstlimits_k45_whole_gates_one_behind_t).prog 55).name = ("law" : PySem.Str) := by kernel_rfl
      rw [← e]
      exact hmg0
    obtain ⟨fd, hb, hF⟩ := B45.facts (P := (PySem.Challenge.rw_burstlimits_k45_whole_gates_one_behind_t).prog) (w := w) KX G hmg c
    exact ⟨K, fd, B45.sp_law K, KX, hb, fun H a ns hl _ hS => ⟨a, ns, rfl, hS, by omega, fun _ => rfl⟩, hF⟩
