import PyProof.Rows.All
import Wide.All
import OpenK.AllK
import Wide.FinOn
import PyProof.EqAt
import PyProof.EqKinds
import PyProof.TupleCall
import KE.GoesEnum
import HandS.Base
import HandS.Call
import HandS.List
import HandS.Comp
import HandS.Iter
import HandS.Walk
import HandS.GenBody
import HandS.GenYield
import PyProof.GenComp
import PyProof.FactsAll.subtypes_4
import HandS.More
import HandS.Exc
import HandS.Star
import HandS.TupMul
import HandS.TupSets
import HandS.Words
import PyProof.SetRoads
import HandS.IsInst
import HandS.TupAny
import HandS.Deep
import PyProof.P3In
import OpenK.KOps
import HandS.Property
import KE.KWithOwn
import KE.KSuper
import HandS.ClsMeth
import HandS.Nested
import HandS.NestedK
import KE.KExcSuper
import HandS.ExcInit
import HandS.ExcOwn
import HandS.Ends
import HandS.WordsList
import HandS.WordsExc
import HandS.GenCall
import HandS.GenList
import HandS.Style
import HandS.TryOnly
import HandS.ExcField
import HandS.FStr
import PyProof.Rows.RegStrFacts
import HandS.Head0
import HandS.Head1
import HandS.Head2
import HandS.HeadEnd
import HandS.HeadHook1
import HandS.HeadHook2
import HandS.HeadNt
import PySem.Challenge.RW_burstlimits_k50_whole_gates_and_rows
set_option linter.all false
/-! The mathematics of burstlimits: rows as lists of ints, gates by their recurrence. Core Lean only. -/
namespace BM

abbrev Pr := Int × Int
def GoodP (P : List Pr) : Prop := ∀ p ∈ P, 1 ≤ p.1 ∧ p.1 ≤ 20 ∧ 1 ≤ p.2 ∧ p.2 ≤ 20
/-- a row: what is asked of it -/
def RowOk (x : List Int) : Prop := (∀ a ∈ x, 0 ≤ a) ∧ x.sum ≤ 60

def cum (x : List Int) (n : Nat) : Int := (x.take n).sum

theorem sum_append (x y : List Int) : (x ++ y).sum = x.sum + y.sum := by
  induction x with
  | nil => simp
  | cons a r ih => simp only [List.cons_append, List.sum_cons, ih]; omega

theorem cum_zero (x : List Int) : cum x 0 = 0 := by simp [cum]
theorem cum_full {x : List Int} {n : Nat} (h : x.length ≤ n) : cum x n = x.sum := by
  unfold cum; rw [List.take_of_length_le h]
theorem cum_succ (x : List Int) (n : Nat) : cum x (n + 1) = cum x n + x.getD n 0 := by
  unfold cum
  rw [List.take_add_one, sum_append]
  congr 1
  rw [List.getD_eq_getElem?_getD]
  cases x[n]? <;> simp
theorem getD_nonneg {x : List Int} (h : ∀ a ∈ x, 0 ≤ a) (n : Nat) : 0 ≤ x.getD n 0 := by
  rw [List.getD_eq_getElem?_getD]
  cases e : x[n]? with
  | none => simp
  | some a => simpa using h a (List.mem_of_getElem? e)
theorem cum_mono1 {x : List Int} (h : ∀ a ∈ x, 0 ≤ a) (n : Nat) : cum x n ≤ cum x (n + 1) := by
  have := getD_nonneg h n
  rw [cum_succ]; omega
theorem mono_of {A : Nat → Int} (h : ∀ n, A n ≤ A (n + 1)) : ∀ {i j : Nat}, i ≤ j → A i ≤ A j := by
  intro i j hij
  induction j with
  | zero => have : i = 0 := by omega
            subst this; exact Int.le_refl _
  | succ j ih =>
    by_cases e : i = j + 1
    · subst e; exact Int.le_refl _
    · exact Int.le_trans (ih (by omega)) (h j)
theorem cum_mono {x : List Int} (h : ∀ a ∈ x, 0 ≤ a) {i j : Nat} (hij : i ≤ j) : cum x i ≤ cum x j := mono_of (cum_mono1 h) hij
theorem sum_nonneg {x : List Int} (h : ∀ a ∈ x, 0 ≤ a) : 0 ≤ x.sum := by
  induction x with
  | nil => simp
  | cons a r ih =>
    have h1 := h a (by simp)
    have h2 := ih fun b hb => h b (by simp [hb])
    rw [List.sum_cons]; omega
theorem mem_le_sum {x : List Int} (h : ∀ a ∈ x, 0 ≤ a) : ∀ a ∈ x, a ≤ x.sum := by
  induction x with
  | nil => intro a ha; cases ha
  | cons b r ih =>
    intro a ha
    have h1 := h b (by simp)
    have h2 : ∀ c ∈ r, 0 ≤ c := fun c hc => h c (by simp [hc])
    rw [List.sum_cons]
    rcases List.mem_cons.mp ha with rfl | hr
    · have := sum_nonneg h2; omega
    · have := ih h2 a hr; omega
theorem cum_le_sum {x : List Int} (h : ∀ a ∈ x, 0 ≤ a) (n : Nat) : cum x n ≤ x.sum := by
  by_cases hn : x.length ≤ n
  · rw [cum_full hn]; exact Int.le_refl _
  · rw [← cum_full (Nat.le_refl x.length)]; exact cum_mono h (by omega)
theorem cum_nonneg {x : List Int} (h : ∀ a ∈ x, 0 ≤ a) (n : Nat) : 0 ≤ cum x n := by
  rw [← cum_zero x]; exact cum_mono h (Nat.zero_le n)
/-- a stretch by the sums of beginnings -/
theorem stretch_cum (x : List Int) (s L : Nat) : ((x.drop s).take L).sum = cum x (s + L) - cum x s := by
  have h : x.take (s + L) = x.take s ++ (x.drop s).take L := by rw [List.take_add]
  unfold cum
  rw [h, sum_append]; omega
theorem drop_cum (x : List Int) (s : Nat) : (x.drop s).sum = x.sum - cum x s := by
  have h : x = x.take s ++ x.drop s := (List.take_append_drop s x).symm
  have h2 := congrArg List.sum h
  rw [sum_append] at h2
  unfold cum; omega

/-! ### the least of some ints -/
def minI : List Int → Int
  | [] => 0
  | [a] => a
  | a :: b :: r => min a (minI (b :: r))
theorem minI_le : ∀ (l : List Int), ∀ a ∈ l, minI l ≤ a
  | [], a, h => by cases h
  | [b], a, h => by
    have : a = b := by simpa using h
    subst this; exact Int.le_refl _
  | b :: c :: r, a, h => by
    show min b (minI (c :: r)) ≤ a
    rcases List.mem_cons.mp h with rfl | h
    · omega
    · have := minI_le (c :: r) a h; omega
theorem minI_mem : ∀ (l : List Int), l ≠ [] → minI l ∈ l
  | [], h => absurd rfl h
  | [b], _ => by simp [minI]
  | b :: c :: r, _ => by
    show min b (minI (c :: r)) ∈ _
    have := minI_mem (c :: r) (by simp)
    by_cases h : b ≤ minI (c :: r)
    · rw [Int.min_eq_left h]; simp
    · rw [Int.min_eq_right (by omega)]; exact List.mem_cons_of_mem _ this
theorem minI_eq {l : List Int} {m : Int} (h1 : m ∈ l) (h2 : ∀ a ∈ l, m ≤ a) : m = minI l := by
  have h3 : l ≠ [] := by rintro rfl; cases h1
  have h4 := h2 _ (minI_mem l h3)
  have h5 := minI_le l m h1
  omega

/-! ### the program's own reckoning -/
/-- what each limit would let by in the next tick -/
def alw (P : List Pr) (t : List Int) : List Int := P.map fun p => p.2 - (t.drop (t.length + 1 - p.1.toNat)).sum
def allowed (P : List Pr) (t : List Int) : Int := minI (alw P t)
def amt (P : List Pr) (row t : List Int) : Int := min (cum row (t.length + 1) - t.sum) (allowed P t)
/-- what is let through in the first k ticks -/
def thr (P : List Pr) (row : List Int) : Nat → List Int
  | 0 => []
  | k + 1 => thr P row k ++ [amt P row (thr P row k)]
theorem thr_len (P : List Pr) (row : List Int) : ∀ k, (thr P row k).length = k
  | 0 => rfl
  | k + 1 => by show (thr P row k ++ [_]).length = k + 1; rw [List.length_append, thr_len P row k]; rfl
theorem thr_take (P : List Pr) (row : List Int) : ∀ (k j : Nat), j ≤ k → (thr P row k).take j = thr P row j
  | 0, j, h => by
    have : j = 0 := by omega
    subst this; rfl
  | k + 1, j, h => by
    by_cases e : j = k + 1
    · subst e; rw [List.take_of_length_le (by rw [thr_len]; exact Nat.le_refl _)]
    · show (thr P row k ++ [_]).take j = _
      rw [List.take_append_of_le_length (by rw [thr_len]; omega)]
      exact thr_take P row k j (by omega)
def R (P : List Pr) (row : List Int) (k : Nat) : Int := (thr P row k).sum
theorem cum_thr (P : List Pr) (row : List Int) {k j : Nat} (h : j ≤ k) : cum (thr P row k) j = R P row j := by
  unfold cum R; rw [thr_take P row k j h]
theorem R_succ (P : List Pr) (row : List Int) (k : Nat) : R P row (k + 1) = R P row k + amt P row (thr P row k) := by
  show (thr P row k ++ [_]).sum = _
  rw [sum_append]; simp [R]

/-! ### gates by their recurrence -/
structure Gate (P : List Pr) (A R : Nat → Int) : Prop where
  zero : R 0 = 0
  le : ∀ k, R (k + 1) ≤ A (k + 1)
  lim : ∀ k, ∀ p ∈ P, R (k + 1) ≤ p.2 + R (k + 1 - p.1.toNat)
  hit : ∀ k, R (k + 1) = A (k + 1) ∨ ∃ p ∈ P, R (k + 1) = p.2 + R (k + 1 - p.1.toNat)
/-- cumulated, it keeps limits -/
def Keeps (P : List Pr) (B : Nat → Int) : Prop := ∀ k, ∀ p ∈ P, B (k + 1) ≤ p.2 + B (k + 1 - p.1.toNat)

theorem gate_thr {P : List Pr} (hP : GoodP P) (hne : P ≠ []) (row : List Int) : Gate P (cum row) (R P row) := by
  have key : ∀ k, ∀ p ∈ P, p.2 - ((thr P row k).drop ((thr P row k).length + 1 - p.1.toNat)).sum = p.2 + R P row (k + 1 - p.1.toNat) - R P row k := by
    intro k p hp
    have h1 := (hP p hp).1
    rw [thr_len, drop_cum, cum_thr P row (by omega)]
    unfold R; omega
  have hle : ∀ k, ∀ p ∈ P, allowed P (thr P row k) ≤ p.2 + R P row (k + 1 - p.1.toNat) - R P row k := by
    intro k p hp
    rw [← key k p hp]
    exact minI_le _ _ (List.mem_map.mpr ⟨p, hp, rfl⟩)
  have hmem : ∀ k, ∃ p ∈ P, allowed P (thr P row k) = p.2 + R P row (k + 1 - p.1.toNat) - R P row k := by
    intro k
    have := minI_mem (alw P (thr P row k)) (by unfold alw; simpa using hne)
    obtain ⟨p, hp, e⟩ := List.mem_map.mp this
    refine ⟨p, hp, ?_⟩
    rw [← key k p hp]; exact e.symm
  have ha : ∀ k, amt P row (thr P row k) = min (cum row (k + 1) - R P row k) (allowed P (thr P row k)) := by
    intro k; unfold amt R; rw [thr_len]
  refine ⟨rfl, fun k => ?_, fun k p hp => ?_, fun k => ?_⟩
  · rw [R_succ, ha]; omega
  · have := hle k p hp
    rw [R_succ, ha]; omega
  · obtain ⟨p, hp, e⟩ := hmem k
    rw [R_succ, ha]
    by_cases h : cum row (k + 1) - R P row k ≤ allowed P (thr P row k)
    · left; omega
    · right; exact ⟨p, hp, by omega⟩

section
variable {P Q : List Pr} {A B R : Nat → Int}
theorem Gate.best (hP : GoodP P) (g : Gate P A R) (h0 : B 0 ≤ 0) (hA : ∀ k, B (k + 1) ≤ A (k + 1)) (hB : Keeps P B) : ∀ k, B k ≤ R k := by
  intro k
  induction k using Nat.strongRecOn with
  | _ k ih =>
    cases k with
    | zero => rw [g.zero]; exact h0
    | succ k =>
      rcases g.hit k with e | ⟨p, hp, e⟩
      · rw [e]; exact hA k
      · have h1 := (hP p hp).1
        have h2 := ih (k + 1 - p.1.toNat) (by omega)
        have h3 := hB k p hp
        omega
theorem Gate.leA (g : Gate P A R) (h0 : A 0 = 0) : ∀ k, R k ≤ A k
  | 0 => by rw [g.zero, h0]; exact Int.le_refl _
  | k + 1 => g.le k
theorem Gate.keeps (g : Gate P A R) : Keeps P R := g.lim
theorem Gate.nonneg (hP : GoodP P) (g : Gate P A R) (hA : ∀ k, 0 ≤ A k) : ∀ k, 0 ≤ R k := by
  refine g.best hP (B := fun _ => 0) (Int.le_refl _) (fun k => hA _) fun k p hp => ?_
  have := (hP p hp).2.2.1
  show (0 : Int) ≤ p.2 + 0
  omega
theorem Gate.mono1 (hP : GoodP P) (g : Gate P A R) (hA : ∀ k, 0 ≤ A k) (hm : ∀ k, A k ≤ A (k + 1)) (k : Nat) : R k ≤ R (k + 1) := by
  induction k using Nat.strongRecOn with
  | _ k ih =>
    rcases g.hit k with e | ⟨p, hp, e⟩
    · cases k with
      | zero => rw [g.zero]; exact g.nonneg hP hA 1
      | succ k => have h1 := g.le k; have h2 := hm (k + 1); omega
    · obtain ⟨h1, _, h3, _⟩ := hP p hp
      cases k with
      | zero => rw [g.zero]; exact g.nonneg hP hA 1
      | succ k =>
        have h4 := g.lim k p hp
        by_cases hl : p.1.toNat ≤ k + 1
        · have h5 := ih (k + 1 - p.1.toNat) (by omega)
          rw [show k + 1 - p.1.toNat + 1 = k + 1 + 1 - p.1.toNat by omega] at h5
          omega
        · rw [show k + 1 - p.1.toNat = 0 by omega] at h4
          rw [show k + 1 + 1 - p.1.toNat = 0 by omega] at e
          omega
/-- limits that what comes keeps are kept by what goes -/
theorem Gate.keepsOther (hP : GoodP P) (hQ : GoodP Q) (g : Gate P A R) (h0 : A 0 = 0) (hK : Keeps Q A) : Keeps Q R := by
  have key : ∀ n, ∀ q ∈ Q, ∀ k, k + 1 = n → R (k + 1) ≤ q.2 + R (k + 1 - q.1.toNat) := by
    intro n
    induction n using Nat.strongRecOn with
    | _ n ih =>
      intro q hq k hk
      obtain ⟨q1, _, q3, _⟩ := hQ q hq
      have hlA := g.le k
      have hkA := hK k q hq
      cases e : k + 1 - q.1.toNat with
      | zero =>
        rw [e] at hkA
        rw [g.zero]; omega
      | succ j =>
        rcases g.hit j with h | ⟨p, hp, h⟩
        · rw [h, ← e]; omega
        · obtain ⟨p1, _, p3, _⟩ := hP p hp
          have h2 := g.lim k p hp
          by_cases hz : k + 1 - p.1.toNat = 0
          · have hz2 : j + 1 - p.1.toNat = 0 := by omega
            rw [hz, g.zero] at h2
            rw [h, hz2, g.zero]; omega
          · have h3 := ih (k + 1 - p.1.toNat) (by omega) q hq (k - p.1.toNat) (by omega)
            rw [show k - p.1.toNat + 1 = k + 1 - p.1.toNat by omega] at h3
            rw [show k + 1 - p.1.toNat - q.1.toNat = j + 1 - p.1.toNat by omega] at h3
            omega
  intro k q hq
  exact key (k + 1) q hq k rfl
/-- when nothing more comes all are through some time -/
theorem Gate.progress (hP : GoodP P) (g : Gate P A R) (hA : ∀ k, 0 ≤ A k) (hm : ∀ k, A k ≤ A (k + 1)) {n : Nat} {T : Int} (hT : ∀ k, n ≤ k → A k = T) :
    ∀ (j : Nat), min T j ≤ R (n + 20 * j) := by
  intro j
  induction j with
  | zero =>
    have := g.nonneg hP hA (n + 20 * 0)
    omega
  | succ j ih =>
    have mono := fun i k (h : i ≤ k) => mono_of (A := R) (g.mono1 hP hA hm) h
    rcases g.hit (n + 20 * j + 19) with e | ⟨p, hp, e⟩
    · rw [show n + 20 * (j + 1) = n + 20 * j + 19 + 1 by omega, e, hT _ (by omega)]; omega
    · obtain ⟨p1, p2, p3, _⟩ := hP p hp
      have h1 := mono (n + 20 * j) (n + 20 * j + 19 + 1 - p.1.toNat) (by omega)
      rw [show n + 20 * (j + 1) = n + 20 * j + 19 + 1 by omega, e]; omega
theorem Gate.all_through (hP : GoodP P) (g : Gate P A R) (h0 : A 0 = 0) (hA : ∀ k, 0 ≤ A k) (hm : ∀ k, A k ≤ A (k + 1)) {n : Nat} {T : Int} (hT : ∀ k, n ≤ k → A k = T) (k : Nat) (hk : n + 20 * T.toNat ≤ k) : R k = T := by
  have h1 := g.progress hP hA hm hT T.toNat
  have h2 := mono_of (A := R) (g.mono1 hP hA hm) hk
  have h3 := g.leA h0 k
  rw [hT k (by omega)] at h3
  have h4 := hA n
  rw [hT n (Nat.le_refl _)] at h4
  omega
/-- more limits, or less that comes: never more through -/
theorem Gate.mono_in {P' : List Pr} {A' R' : Nat → Int} (hP' : GoodP P') (g : Gate P A R) (g' : Gate P' A' R') (hsub : ∀ p ∈ P', p ∈ P) (hle : ∀ k, A k ≤ A' k) : ∀ k, R k ≤ R' k :=
  g'.best hP' (by rw [g.zero]; exact Int.le_refl _) (fun k => Int.le_trans (g.le k) (hle _)) fun k p hp => g.lim k p (hsub p hp)
/-- two gates one behind the other are one with all limits -/
theorem Gate.both {BB : List Pr} {R1 R2 RB : Nat → Int} (hP : GoodP P) (hQ : GoodP Q) (hB : GoodP BB) (hmem : ∀ p, p ∈ BB ↔ p ∈ P ∨ p ∈ Q)
    (g1 : Gate P A R1) (g2 : Gate Q R1 R2) (gB : Gate BB A RB) : ∀ k, R2 k = RB k := by
  intro k
  refine Int.le_antisymm (gB.best hB ?_ ?_ ?_ k) (g2.best hQ ?_ ?_ ?_ k)
  · rw [g2.zero]; exact Int.le_refl _
  · exact fun k => Int.le_trans (g2.le k) (g1.le k)
  · intro k p hp
    rcases (hmem p).mp hp with h | h
    · exact g2.keepsOther hQ hP g1.zero g1.lim k p h
    · exact g2.lim k p h
  · rw [gB.zero]; exact Int.le_refl _
  · refine fun k => g1.best hP ?_ gB.le ?_ (k + 1)
    · rw [gB.zero]; exact Int.le_refl _
    · exact fun k p hp => gB.lim k p ((hmem p).mpr (.inl hp))
  · exact fun k p hp => gB.lim k p ((hmem p).mpr (.inr hp))
end
end BM

set_option linter.all false
namespace BM
/-! ### where the row of what is passed ends -/
def least (p : Nat → Bool) : Nat → Nat → Nat
  | 0, k => k
  | f + 1, k => if p k = true then k else least p f (k + 1)
theorem least_spec (p : Nat → Bool) : ∀ (f k j : Nat), k ≤ j → j ≤ k + f → p j = true →
    p (least p f k) = true ∧ k ≤ least p f k ∧ least p f k ≤ j ∧ ∀ i, k ≤ i → i < least p f k → p i = false
  | 0, k, j, h1, h2, h3 => by
    have e : j = k := by omega
    subst e
    exact ⟨h3, Nat.le_refl _, Nat.le_refl _, fun i a b => absurd b (by show ¬ i < j; omega)⟩
  | f + 1, k, j, h1, h2, h3 => by
    unfold least
    by_cases hp : p k = true
    · rw [if_pos hp]
      exact ⟨hp, Nat.le_refl _, h1, fun i a b => absurd b (by omega)⟩
    · rw [if_neg hp]
      have hkj : k ≠ j := by rintro rfl; exact hp h3
      obtain ⟨a, b, c, d⟩ := least_spec p f (k + 1) j (by omega) (by omega) h3
      refine ⟨a, by omega, c, fun i hi hl => ?_⟩
      by_cases e : i = k
      · subst e; simpa using hp
      · exact d i (by omega) hl
def isEnd (P : List Pr) (row : List Int) (k : Nat) : Bool := decide (row.length ≤ k) && decide (R P row k = row.sum)
def stop (P : List Pr) (row : List Int) : Nat := least (isEnd P row) 1200 row.length
/-- what is passed -/
def passedL (P : List Pr) (row : List Int) : List Int := thr P row (stop P row)
theorem isEnd_iff {P : List Pr} {row : List Int} {k : Nat} : isEnd P row k = true ↔ row.length ≤ k ∧ R P row k = row.sum := by
  unfold isEnd; simp
structure Good (P : List Pr) : Prop where
  g : GoodP P
  ne : P ≠ []
section
variable {P Q : List Pr} {row : List Int}
theorem Good.gate (h : Good P) (row : List Int) : Gate P (cum row) (R P row) := gate_thr h.g h.ne row
theorem R_all (h : Good P) (hr : RowOk row) {k : Nat} (hk : row.length + 1200 ≤ k) : R P row k = row.sum := by
  have h0 := sum_nonneg hr.1
  refine (h.gate row).all_through h.g (cum_zero row) (cum_nonneg hr.1) (cum_mono1 hr.1) (n := row.length) (T := row.sum) (fun k hk => cum_full hk) k ?_
  have := hr.2
  omega
theorem stop_spec (h : Good P) (hr : RowOk row) : row.length ≤ stop P row ∧ R P row (stop P row) = row.sum ∧ stop P row ≤ row.length + 1200 ∧ ∀ i, i < stop P row → isEnd P row i = false := by
  have he : isEnd P row (row.length + 1200) = true := isEnd_iff.mpr ⟨by omega, R_all h hr (Nat.le_refl _)⟩
  obtain ⟨a, b, c, d⟩ := least_spec (isEnd P row) 1200 row.length (row.length + 1200) (by omega) (Nat.le_refl _) he
  refine ⟨b, (isEnd_iff.mp a).2, c, fun i hi => ?_⟩
  by_cases e : row.length ≤ i
  · exact d i e hi
  · cases z : isEnd P row i with
    | false => rfl
    | true => exact absurd (isEnd_iff.mp z).1 e
theorem stop_unique (h : Good P) (hr : RowOk row) {k : Nat} (h1 : isEnd P row k = true) (h2 : ∀ i, i < k → isEnd P row i = false) : k = stop P row := by
  obtain ⟨a, b, c, d⟩ := stop_spec h hr
  have e : isEnd P row (stop P row) = true := isEnd_iff.mpr ⟨a, b⟩
  rcases Nat.lt_trichotomy k (stop P row) with x | x | x
  · rw [d k x] at h1; cases h1
  · exact x
  · rw [h2 _ x] at e; cases e
theorem R_mono (h : Good P) (hr : RowOk row) {i j : Nat} (hij : i ≤ j) : R P row i ≤ R P row j :=
  mono_of ((h.gate row).mono1 h.g (cum_nonneg hr.1) (cum_mono1 hr.1)) hij
theorem R_le (h : Good P) (row : List Int) (k : Nat) : R P row k ≤ cum row k := (h.gate row).leA (cum_zero row) k
theorem R_zero : R P row 0 = 0 := rfl
theorem R_nonneg (h : Good P) (hr : RowOk row) (k : Nat) : 0 ≤ R P row k := by
  rw [← R_zero (P := P) (row := row)]; exact R_mono h hr (Nat.zero_le k)
theorem cum_passed (h : Good P) (hr : RowOk row) (k : Nat) : cum (passedL P row) k = R P row k := by
  obtain ⟨a, b, c, d⟩ := stop_spec h hr
  by_cases hk : k ≤ stop P row
  · exact cum_thr P row hk
  · have h1 : (passedL P row).length = stop P row := thr_len P row _
    rw [cum_full (by omega)]
    have h2 : (passedL P row).sum = R P row (stop P row) := rfl
    have h3 := R_mono h hr (show stop P row ≤ k by omega)
    have h4 := R_le h row k
    have h5 := cum_le_sum hr.1 k
    omega
theorem passed_len (P : List Pr) (row : List Int) : (passedL P row).length = stop P row := thr_len P row _
theorem passed_sum (h : Good P) (hr : RowOk row) : (passedL P row).sum = row.sum := (stop_spec h hr).2.1
theorem ok_of_mono {x : List Int} (h : ∀ k, cum x k ≤ cum x (k + 1)) : ∀ a ∈ x, 0 ≤ a := by
  intro a ha
  obtain ⟨i, hi⟩ := List.mem_iff_getElem?.mp ha
  have h1 := h i
  rw [cum_succ, List.getD_eq_getElem?_getD, hi] at h1
  simp at h1; omega
theorem passed_ok (h : Good P) (hr : RowOk row) : RowOk (passedL P row) := by
  refine ⟨ok_of_mono fun k => ?_, ?_⟩
  · rw [cum_passed h hr, cum_passed h hr]; exact R_mono h hr (Nat.le_succ k)
  · rw [passed_sum h hr]; exact hr.2
theorem passed_len_le (h : Good P) (hr : RowOk row) : (passedL P row).length ≤ row.length + 1200 := by
  rw [passed_len]; exact (stop_spec h hr).2.2.1
theorem len_le_passed (h : Good P) (hr : RowOk row) : row.length ≤ (passedL P row).length := by
  rw [passed_len]; exact (stop_spec h hr).1

/-! ### a row keeps limits -/
def keptB (P : List Pr) (row : List Int) : Bool := (List.range row.length).all fun s => P.all fun p => decide (((row.drop s).take p.1.toNat).sum ≤ p.2)
theorem keptB_iff (hP : GoodP P) (hr : ∀ a ∈ row, 0 ≤ a) : keptB P row = true ↔ Keeps P (cum row) := by
  unfold keptB
  rw [List.all_eq_true]
  constructor
  · intro h k p hp
    obtain ⟨p1, _, p3, _⟩ := hP p hp
    have key : ∀ s, s < row.length → cum row (s + p.1.toNat) - cum row s ≤ p.2 := by
      intro s hs
      have := h s (List.mem_range.mpr hs)
      rw [List.all_eq_true] at this
      have := of_decide_eq_true (this p hp)
      rw [stretch_cum] at this; exact this
    by_cases hl : p.1.toNat ≤ k + 1
    · by_cases hs : k + 1 - p.1.toNat < row.length
      · have := key _ hs
        rw [show k + 1 - p.1.toNat + p.1.toNat = k + 1 by omega] at this; omega
      · rw [cum_full (n := k + 1) (by omega), cum_full (n := k + 1 - p.1.toNat) (by omega)]; omega
    · rw [show k + 1 - p.1.toNat = 0 by omega, cum_zero]
      by_cases hs : 0 < row.length
      · have h1 := key 0 hs
        have h2 := cum_mono hr (show k + 1 ≤ 0 + p.1.toNat by omega)
        rw [cum_zero] at h1; omega
      · rw [cum_full (by omega)]
        have : row = [] := List.length_eq_zero_iff.mp (by omega)
        subst this; simp; omega
  · intro h s hs
    rw [List.all_eq_true]
    intro p hp
    obtain ⟨p1, _, p3, _⟩ := hP p hp
    refine decide_eq_true ?_
    rw [stretch_cum]
    have := h (s + p.1.toNat - 1) p hp
    rw [show s + p.1.toNat - 1 + 1 = s + p.1.toNat by omega, show s + p.1.toNat - p.1.toNat = s by omega] at this
    omega
theorem ext_cum {x y : List Int} (hl : x.length = y.length) (h : ∀ k, cum x k = cum y k) : x = y := by
  refine List.ext_getElem hl fun i h1 h2 => ?_
  have a := cum_succ x i
  have b := cum_succ y i
  rw [h, h] at a
  have e1 : x.getD i 0 = x[i] := by rw [List.getD_eq_getElem?_getD, List.getElem?_eq_getElem h1]; rfl
  have e2 : y.getD i 0 = y[i] := by rw [List.getD_eq_getElem?_getD, List.getElem?_eq_getElem h2]; rfl
  omega
theorem passed_keeps (h : Good P) (hr : RowOk row) : keptB P (passedL P row) = true := by
  rw [keptB_iff h.g (passed_ok h hr).1]
  intro k p hp
  rw [cum_passed h hr, cum_passed h hr]
  exact (h.gate row).lim k p hp
theorem passed_of_kept (h : Good P) (hr : RowOk row) (hk : keptB P row = true) : passedL P row = row := by
  have hK := (keptB_iff h.g hr.1).mp hk
  have hR : ∀ k, R P row k = cum row k := fun k => Int.le_antisymm (R_le h row k)
    ((h.gate row).best h.g (by rw [cum_zero]; exact Int.le_refl _) (fun k => Int.le_refl _) hK k)
  have he : isEnd P row row.length = true := isEnd_iff.mpr ⟨Nat.le_refl _, by rw [hR, cum_full (Nat.le_refl _)]⟩
  have hs : row.length = stop P row := by
    refine stop_unique h hr he fun i hi => ?_
    cases z : isEnd P row i with
    | false => rfl
    | true => have := (isEnd_iff.mp z).1; omega
  refine ext_cum (by rw [passed_len, hs]) fun k => ?_
  rw [cum_passed h hr, hR]
theorem passed_again (h : Good P) (hr : RowOk row) : passedL P (passedL P row) = passedL P row :=
  passed_of_kept h (passed_ok h hr) (passed_keeps h hr)
theorem kept_iff_passed (h : Good P) (hr : RowOk row) : keptB P row = decide (passedL P row = row) := by
  cases e : keptB P row with
  | true => exact (decide_eq_true (passed_of_kept h hr e)).symm
  | false =>
    refine (decide_eq_false fun q => ?_).symm
    have := passed_keeps h hr
    rw [q, e] at this; cases this
theorem kept_other (h : Good P) (hQ : Good Q) (hr : RowOk row) (hk : keptB P row = true) : keptB P (passedL Q row) = true := by
  rw [keptB_iff h.g (passed_ok hQ hr).1]
  have := (hQ.gate row).keepsOther hQ.g h.g (cum_zero row) ((keptB_iff h.g hr.1).mp hk)
  intro k p hp
  rw [cum_passed hQ hr, cum_passed hQ hr]
  exact this k p hp

/-! ### no more by any tick -/
def behindB (x y : List Int) : Bool := (List.range (max x.length y.length)).all fun k => !decide ((y.take (k + 1)).sum < (x.take (k + 1)).sum)
theorem behind_of {x y : List Int} (h : ∀ k, cum x k ≤ cum y k) : behindB x y = true := by
  unfold behindB
  rw [List.all_eq_true]
  intro k _
  have := h (k + 1)
  unfold cum at this
  simp; omega
theorem behind_self (h : Good P) (hr : RowOk row) : behindB (passedL P row) row = true :=
  behind_of fun k => by rw [cum_passed h hr]; exact R_le h row k
theorem behind_less {row' : List Int} (h : Good P) (hr : RowOk row) (hr' : RowOk row') (hle : ∀ k, cum row k ≤ cum row' k) : behindB (passedL P row) (passedL P row') = true :=
  behind_of fun k => by
    rw [cum_passed h hr, cum_passed h hr']
    exact (h.gate row).mono_in h.g (h.gate row') (fun p hp => hp) hle k
theorem behind_limits {B : List Pr} (h : Good P) (hB : Good B) (hsub : ∀ p ∈ P, p ∈ B) (hr : RowOk row) : behindB (passedL B row) (passedL P row) = true :=
  behind_of fun k => by
    rw [cum_passed hB hr, cum_passed h hr]
    exact (hB.gate row).mono_in h.g (h.gate row) hsub (fun k => Int.le_refl _) k
theorem cum_cons (a : Int) (x : List Int) (k : Nat) : cum (a :: x) (k + 1) = a + cum x k := by
  unfold cum; rw [List.take_succ_cons, List.sum_cons]
theorem later_le (hr : RowOk row) (k : Nat) : cum (0 :: row) k ≤ cum row k := by
  cases k with
  | zero => rw [cum_zero, cum_zero]; exact Int.le_refl _
  | succ k =>
    rw [cum_cons]
    have := cum_mono1 hr.1 k
    omega
theorem later_ok (hr : RowOk row) : RowOk (0 :: row) := ⟨fun a ha => by
  rcases List.mem_cons.mp ha with rfl | h
  · exact Int.le_refl _
  · exact hr.1 a h, by rw [List.sum_cons]; have := hr.2; omega⟩
theorem fewer_le : ∀ {x y : List Int} (hl : x.length = y.length) (h : ∀ i, x.getD i 0 ≤ y.getD i 0) (k : Nat), cum x k ≤ cum y k := by
  intro x y hl h k
  induction k with
  | zero => rw [cum_zero, cum_zero]; exact Int.le_refl _
  | succ k ih => rw [cum_succ, cum_succ]; have := h k; omega

/-! ### without the last ticks that have none -/
def bareL (l : List Int) : List Int := (l.reverse.dropWhile fun a => decide (a = 0)).reverse
theorem bare_zero (l : List Int) : bareL (l ++ [0]) = bareL l := by
  unfold bareL; rw [List.reverse_append]; simp
theorem bare_other (l : List Int) {a : Int} (h : a ≠ 0) : bareL (l ++ [a]) = l ++ [a] := by
  unfold bareL; rw [List.reverse_append]; simp [h]
theorem bare_nil : bareL [] = [] := rfl
theorem bare_zeros (l : List Int) : ∀ n, bareL (l ++ List.replicate n 0) = bareL l
  | 0 => by simp
  | n + 1 => by
    rw [List.replicate_succ', ← List.append_assoc, bare_zero]
    exact bare_zeros l n
theorem longer {x y : List Int} (hl : x.length ≤ y.length) (h : ∀ k, cum x k = cum y k) : y = x ++ List.replicate (y.length - x.length) 0 := by
  refine (ext_cum (by rw [List.length_append, List.length_replicate]; omega) fun k => ?_).symm
  rw [← h]
  have hs : ∀ (n k : Nat), cum (x ++ List.replicate n 0) k = cum x k := by
    intro n k
    unfold cum
    rw [List.take_append, sum_append]
    have : (List.take (k - x.length) (List.replicate n (0 : Int))).sum = 0 := by
      rw [List.take_replicate]
      generalize min (k - x.length) n = m
      induction m with
      | zero => rfl
      | succ m ih => rw [List.replicate_succ, List.sum_cons, ih]; rfl
    omega
  exact hs _ k
theorem bare_eq {x y : List Int} (h : ∀ k, cum x k = cum y k) : bareL x = bareL y := by
  rcases Nat.le_total x.length y.length with hl | hl
  · rw [longer hl h, bare_zeros]
  · rw [longer hl fun k => (h k).symm, bare_zeros]
theorem gates_bare {B : List Pr} (hP : Good P) (hQ : Good Q) (hB : Good B) (hmem : ∀ p, p ∈ B ↔ p ∈ P ∨ p ∈ Q) (hr : RowOk row) :
    bareL (passedL Q (passedL P row)) = bareL (passedL B row) := by
  refine bare_eq fun k => ?_
  have hr1 := passed_ok hP hr
  rw [cum_passed hQ hr1, cum_passed hB hr]
  have g2 : Gate Q (R P row) (R Q (passedL P row)) := by
    have g := hQ.gate (passedL P row)
    have e : cum (passedL P row) = R P row := funext fun k => cum_passed hP hr k
    rw [e] at g; exact g
  exact (hP.gate row).both hP.g hQ.g hB.g hmem g2 (hB.gate row) k
end

/-! ### how long they wait -/
def ticksFrom : Nat → List Int → List Int
  | _, [] => []
  | i, a :: r => List.replicate a.toNat (i : Int) ++ ticksFrom (i + 1) r
def ticksL (x : List Int) : List Int := ticksFrom 0 x
theorem ticksFrom_snoc : ∀ (i : Nat) (x : List Int) (a : Int), ticksFrom i (x ++ [a]) = ticksFrom i x ++ List.replicate a.toNat ((i + x.length : Nat) : Int)
  | i, [], a => by simp [ticksFrom]
  | i, b :: r, a => by
    show List.replicate b.toNat (i : Int) ++ ticksFrom (i + 1) (r ++ [a]) = _
    rw [ticksFrom_snoc (i + 1) r a]
    show _ = List.replicate b.toNat (i : Int) ++ ticksFrom (i + 1) r ++ _
    rw [List.append_assoc, List.length_cons, show i + 1 + r.length = i + (r.length + 1) by omega]
theorem ticks_snoc (x : List Int) (a : Int) : ticksL (x ++ [a]) = ticksL x ++ List.replicate a.toNat ((x.length : Nat) : Int) := by
  unfold ticksL; rw [ticksFrom_snoc, Nat.zero_add]
theorem ticks_len {x : List Int} (h : ∀ a ∈ x, 0 ≤ a) : ∀ i, ((ticksFrom i x).length : Int) = x.sum := by
  induction x with
  | nil => intro i; rfl
  | cons a r ih =>
    intro i
    have h1 := h a (by simp)
    have h2 := ih (fun b hb => h b (by simp [hb])) (i + 1)
    show ((List.replicate a.toNat (i : Int) ++ ticksFrom (i + 1) r).length : Int) = _
    rw [List.length_append, List.length_replicate, List.sum_cons]; omega
def waitsL (P : List Pr) (row : List Int) : List Int := List.zipWith (fun a b => b - a) (ticksL row) (ticksL (passedL P row))
def waitingL (P : List Pr) (row : List Int) : List Int := (List.range (passedL P row).length).map fun k => cum row (k + 1) - cum (passedL P row) (k + 1)
theorem sum_replicate (n : Nat) (a : Int) : (List.replicate n a).sum = n * a := by
  induction n with
  | zero => simp
  | succ n ih => rw [List.replicate_succ, List.sum_cons, ih]; rw [show ((n + 1 : Nat) : Int) = n + 1 by omega, Int.add_mul]; omega
theorem wsum {x : List Int} (h : ∀ a ∈ x, 0 ≤ a) : ∀ n, ((List.range n).map fun k => cum x (k + 1)).sum = n * cum x n - (ticksL (x.take n)).sum
  | 0 => by simp [ticksL, ticksFrom]
  | n + 1 => by
    rw [List.range_succ, List.map_append, sum_append, wsum h n]
    simp only [List.map_cons, List.map_nil, List.sum_cons, List.sum_nil]
    have e : (ticksL (x.take (n + 1))).sum = (ticksL (x.take n)).sum + n * x.getD n 0 := by
      by_cases hn : n < x.length
      · have hx : x.take (n + 1) = x.take n ++ [x[n]] := by
          rw [List.take_add_one, List.getElem?_eq_getElem hn]; rfl
        have h0 := h x[n] (List.getElem_mem hn)
        rw [hx, ticks_snoc, sum_append, sum_replicate, List.length_take, show min n x.length = n by omega]
        rw [List.getD_eq_getElem?_getD, List.getElem?_eq_getElem hn]
        show _ = _ + (n : Int) * x[n]
        rw [show ((x[n].toNat : Nat) : Int) = x[n] by omega, Int.mul_comm]
      · rw [List.take_of_length_le (by omega), List.take_of_length_le (by omega), List.getD_eq_getElem?_getD, List.getElem?_eq_none (by omega)]
        simp
    rw [e, cum_succ, show ((n + 1 : Nat) : Int) = n + 1 by omega, Int.add_mul, Int.mul_add]
    omega
theorem sum_map_sub {α : Type} (l : List α) (f g : α → Int) : (l.map fun k => f k - g k).sum = (l.map f).sum - (l.map g).sum := by
  induction l with
  | nil => rfl
  | cons a r ih => simp only [List.map_cons, List.sum_cons, ih]; omega
theorem zip_sum : ∀ (x y : List Int), x.length = y.length → (List.zipWith (fun a b => b - a) x y).sum = y.sum - x.sum
  | [], [], _ => rfl
  | a :: r, b :: q, h => by
    rw [List.zipWith_cons_cons, List.sum_cons, List.sum_cons, List.sum_cons, zip_sum r q (by simpa using h)]; omega
  | [], b :: q, h => by simp at h
  | a :: r, [], h => by simp at h
section
variable {P : List Pr} {row : List Int}
theorem ticks_same (h : Good P) (hr : RowOk row) : (ticksL row).length = (ticksL (passedL P row)).length := by
  have a := ticks_len hr.1 0
  have b := ticks_len (passed_ok h hr).1 0
  rw [passed_sum h hr] at b
  unfold ticksL; omega
theorem waits_len (h : Good P) (hr : RowOk row) : ((waitsL P row).length : Int) = row.sum := by
  unfold waitsL
  rw [List.length_zipWith, ← ticks_same h hr, Nat.min_self]
  exact ticks_len hr.1 0
theorem waiting_sum (h : Good P) (hr : RowOk row) : (waitingL P row).sum = (waitsL P row).sum := by
  have hp := passed_ok h hr
  unfold waitingL waitsL
  rw [sum_map_sub, wsum hr.1, wsum hp.1, zip_sum _ _ (ticks_same h hr), List.take_of_length_le (len_le_passed h hr), List.take_of_length_le (Nat.le_refl _), cum_full (len_le_passed h hr), cum_full (Nat.le_refl _), passed_sum h hr]
  omega
end
end BM

set_option Elab.async false
set_option linter.all false
set_option maxRecDepth 100000
set_option maxHeartbeats 2000000
/-! Rules that the layer lacks: sum of a tuple, enumerate of a tuple. -/
namespace BX
open PySem PySem.Spec PyProof.Rows L2

/-! ### sum of a tuple of ints -/
def rSumT (K : PySem.W.Frag) : List V → Hp → VK → Prop := fun vs H Q => ∃ (a : Addr) (ns : List Int), vs = [V.ref a] ∧ SqT K H a (ns.map V.int) ∧ Q (.int ns.sum) H
section
variable {prog : Program} {w : World} {A : Around} {E : Value → Shared → Prop} {s : Shared}
theorem sum_rawT {l : Addr} {its : List Value} {ns : List Int} {Q : Value → Shared → Prop} (hh : A.handled = none) (hl : s.heap.IsTuple l its.toArray) (hi : IntsAre its ns)
    (h : ∀ h' tk t', (∀ b o, s.heap.get? b = some o → h'.get? b = some o) → Q (.int ns.sum t') { s with heap := h', toks := tk }) : wpAny (model prog w) A (call (.builtin "sum") [.ref l]) Q E s := by
  obtain ⟨xs, e⟩ := hi.allInts.items
  have hn : numsOf (intItems xs).toList = ns := by rw [← e]; exact hi.numsOf
  rw [nums_intItems] at hn
  rw [e] at hl
  have hll : l < s.heap.objs.size := by obtain ⟨o, ho, _⟩ := hl; exact Heap.lt_size ho
  refine call_sum_walkG (wpAny_pyIter_tuple hl ?_)
  refine ⟨_, _, _, _, _, _, numAt xs, rfl, Walks.tuple (A := A.in1) hh s.heap.objs.size l (Nat.ne_of_lt hll) (intItems xs), ⟨⟨_, Heap.get?_push_size _ rfl, rfl, rfl⟩, hl.at fun o e => Heap.get?_push_of_some _ e⟩, fun b hb => ?_, (fun _ _ => intItems_at), fun h' tk t' hk => ?_⟩
  · rw [Heap.size_push]
    have e' : b = s.heap.objs.size ∨ b = l := by simpa using hb
    rcases e' with z | z
    · rw [z]; exact Nat.lt_succ_self _
    · rw [z]; exact Nat.lt_succ_of_lt hll
  · have := h h' tk t' fun b o e => hk b o (by simpa using Nat.ne_of_lt (Heap.lt_size e)) (Heap.get?_push_of_some _ e)
    rw [preSum_eq, List.take_of_length_le (by simp [intItems]), hn]; exact this
end
theorem cr_sumT {X : Cx} (hc : X.calm = true) : CallR X (.builtin "sum") (rSumT X.K) := by
  intro pins s σ H vs us Q I r h
  obtain ⟨a, ns, rfl, hs, q⟩ := h
  obtain ⟨its, rv, hl, _⟩ := I.tuple hs
  rw [Vals.ref1 r]
  exact sum_rawT (I.ok.hd hc) hl rv.ints fun h' tk t' hk => ⟨.int _, H, I.kept hk, ⟨_, rfl⟩, q⟩

/-! ### enumerate of a tuple -/
set_option maxHeartbeats 4000000 in
theorem meets_enumerate_newT (l : Addr) (items : Array Value) :
    Meets (Builtin.«enumerate.__new__» ⟨[.type "enumerate", .ref l], []⟩) (fun _ R s => s.heap.IsTuple l items ∧
      R (.ok (.ret (.ref (s.heap.push { cls := .type "tuple_iterator", data := .fields #[.ref l, .int 0 0] }).objs.size)))
        { s with heap := (s.heap.push { cls := .type "tuple_iterator", data := .fields #[.ref l, .int 0 0] }).push { cls := .type "enumerate", data := .fields #[.none, .bool false, .ref s.heap.objs.size, rawInt 0, .none, .none] } }) :=
  .of_wp fun prog w A R s h => by
    obtain ⟨hp, g, d, tk, os⟩ := s; obtain ⟨h1, h⟩ := h
    have hsub := sub_enumerate
    have q1 : ∀ {A' : Around} {E : Value → Shared → Prop} {Q : Value → Shared → Prop}, Q (.ref hp.objs.size) ⟨hp.push { cls := .type "tuple_iterator", data := .fields #[.ref l, .int 0 0] }, g, d, tk, os⟩ → wpAny (model prog w) A' (pyIter (.ref l)) Q E ⟨hp, g, d, tk, os⟩ :=
      fun q => wpAny_pyIter_tuple h1 q
    wp_walk using q1
    refine wpAny_stack_any fun st => wpAny_pure ?_
    split
    · rename_i c _ _ _ _ _
      cases (c == Value.type "enumerate")
      · wp_walk using q1
        exact ⟨_, rfl, h⟩
      · wp_walk using q1
        exact ⟨_, rfl, h⟩
    · wp_walk using q1
      exact ⟨_, rfl, h⟩
section
variable {prog : Program} {w : World} {A : Around} {E : Value → Shared → Prop} {s : Shared}
theorem call_enumerate_tuple {l : Addr} {items : Array Value} {Q : Value → Shared → Prop} (hL : s.heap.IsTuple l items)
    (h : ∀ h', IsEnum h' (s.heap.objs.size + 1) s.heap.objs.size 0 .none → h'.IsTupleIter s.heap.objs.size l 0 → h'.objs.size = s.heap.objs.size + 2 →
      (∀ b o, s.heap.get? b = some o → h'.get? b = some o) → Q (.ref (s.heap.objs.size + 1)) { s with heap := h' }) :
    wpAny (model prog w) A (call (.type "enumerate") [.ref l]) Q E s := by
  refine callType_new F.called_enumerate (by decide) (F.typeCall_enumerate_1 _) (F.newCall_enumerate_1 _) (fun obj => F.args_object_init_2 obj _) F.entry_enumerate_new
    (meets_enumerate_newT l items) ⟨hL, ?_⟩
  have hz : (s.heap.push { cls := .type "tuple_iterator", data := .fields #[.ref l, .int 0 0] }).objs.size = s.heap.objs.size + 1 := Heap.size_push ..
  show _ ∧ _
  rw [hz]
  have he : IsEnum ((s.heap.push { cls := .type "tuple_iterator", data := .fields #[.ref l, .int 0 0] }).push
      { cls := .type "enumerate", data := .fields #[.none, .bool false, .ref s.heap.objs.size, rawInt 0, .none, .none] }) (s.heap.objs.size + 1) s.heap.objs.size 0 .none := by
    have := Heap.get?_push_size (s.heap.push { cls := .type "tuple_iterator", data := .fields #[.ref l, .int 0 0] })
      (o := { cls := .type "enumerate", data := .fields #[.none, .bool false, .ref s.heap.objs.size, rawInt 0, .none, .none] }) rfl
    rw [hz] at this; exact this
  refine ⟨⟨_, he, rfl⟩, h _ he ⟨_, Heap.get?_push_of_some _ (Heap.get?_push_size _ rfl), rfl, rfl⟩ (by rw [Heap.size_push, hz]) fun b o x => Heap.get?_push_of_some _ (Heap.get?_push_of_some _ x)⟩
end
/-- the tuple at a, each item in a new pair -/
def IteT (K : PySem.W.Frag) (a : Addr) : It :=
  ⟨fun i H => ∃ (xs : List V) (x : V), SqT K H a xs ∧ xs[i]? = some x, fun i H v H' => ∃ T x, v = .ref T ∧ H T = none ∧ H' = upd H T (.tup [.int (i : Nat), x]) ∧ ∀ xs, SqT K H a xs → xs[i]? = some x, fun i H => ∃ xs : List V, SqT K H a xs ∧ xs.length = i⟩
theorem turn_enumT {P : Program} {w : World} {K : PySem.W.Frag} {elts : List Expr} {kk : Nat} {tpos : Pos} (a e it : Addr) (hat : a ≠ it) (hae : a ≠ e) :
    Turn P w K (.Tuple elts kk tpos) (IteT K a) [e, it] e (fun i h => (∃ old, IsEnum h e it ((i : Nat) : Int) old) ∧ h.IsTupleIter it a i ∧ e ≠ it) where
  mem := by simp
  obj := fun i h st b hb => by
    obtain ⟨⟨old, he⟩, ⟨o, ho, hc, hd⟩, _⟩ := st
    have e' : b = e ∨ b = it := by simpa using hb
    rcases e' with z | z
    · rw [z]; exact ⟨_, he, fun v q => nomatch q⟩
    · rw [z]; exact ⟨o, ho, fun v q => by rw [hd] at q; cases q⟩
  keep := fun i h h' st k => let ⟨⟨old, he⟩, hi, hne⟩ := st; ⟨⟨old, k e (by simp) _ he⟩, hi.at fun o q => k it (by simp) o q, hne⟩
  item := by
    intro X hP hw hK hc i pins s σ H E I hf st hg
    subst hP hw hK
    obtain ⟨⟨old, he⟩, hit, hne⟩ := st
    obtain ⟨xs, x, hq, hx⟩ := hg
    obtain ⟨its, rv, p, hz⟩ := I.tuple hq
    obtain ⟨u, hu, ru⟩ := rv.get hx
    have hel : e < s.heap.objs.size := Heap.lt_size he
    have hil : it < s.heap.objs.size := by obtain ⟨_, q, _⟩ := hit; exact Heap.lt_size q
    have D := Draws.tuple (prog := X.prog) (w := X.w) (A := X.A.in1) (I.ok.hd hc) it a hat its.toArray
    have hlt : i < its.toArray.size := by
      have := (List.getElem?_eq_some_iff.mp hu).1
      simpa using this
    refine wpAny_pyNext_enum_itemD D he ⟨hit, p⟩ hlt hne (by simp [hne, Ne.symm hae]) fun x' h' tk hP ho hst' hT hsz hk => ?_
    have hxu : x' = u := by
      have h1 : its[i]? = some x' := by simpa using hP
      rw [hu] at h1; exact (Option.some.inj h1).symm
    subst hxu
    refine ⟨_, rfl, wpAny_letOwnedTupleGo_enum (s := { s with heap := h', toks := tk + 1 }) ho fun h'' he' sb => ?_⟩
    have hT2 : h''.get? s.heap.objs.size = some { cls := .type "tuple", data := .seq #[.int i tk, x'] } := (sb.2 _ (Nat.ne_of_gt hel)).trans hT
    have new : ObjOk X.prog X.w (upd H s.heap.objs.size (.tup [.int (i : Nat), x])) h'' s.heap.objs.size (.tup [.int (i : Nat), x]) :=
      ⟨by show 2 ≤ sizeLine; decide, [.int i tk, x'], .cons ⟨_, rfl⟩ (.cons ru .nil), ⟨_, hT2, rfl, _, rfl⟩⟩
    have I1 : Inv X pins σ (upd H s.heap.objs.size (.tup [.int (i : Nat), x])) { s with heap := h'', toks := tk + 1 } :=
      I.turnedNew (ch := [e, it]) (fun b ob hb q => (sb.2 b (fun z => hb (by simp [z]))).trans (hk b ob (fun z => hb (by simp [z])) (fun z => hb (by simp [z])) q)) hf (Nat.le_refl _) new
    refine ⟨.ref s.heap.objs.size, _, I1, rfl, ⟨_, x, rfl, I.hok.fresh (Nat.le_refl _), rfl, fun ys hy => by rw [I.tuple_inj hy hq]; exact hx⟩, ⟨⟨x', ?_⟩, hst'.1.at fun o q => (sb.2 it (Ne.symm hne)).trans q, hne⟩, fun b hb => ?_⟩
    · have e1 : ((i + 1 : Nat) : Int) = (i : Int) + 1 := by omega
      rw [e1]; exact he'
    · have hb' : b < s.heap.objs.size := by
        have e' : b = e ∨ b = it := by simpa using hb
        rcases e' with z | z
        · rw [z]; exact hel
        · rw [z]; exact hil
      rw [upd_ne (Nat.ne_of_lt hb')]
      exact (hf b hb).1
  done := by
    intro X hP hw hK hc i pins s σ H E I hf st hg
    subst hP hw hK
    obtain ⟨⟨old, he⟩, hit, hne⟩ := st
    obtain ⟨xs, hq, hx⟩ := hg
    obtain ⟨its, rv, p, hz⟩ := I.tuple hq
    obtain ⟨f0, f1, f2, f3, f4, f5⟩ := hf it (by simp)
    have hl := rv.length
    have D := Draws.tuple (prog := X.prog) (w := X.w) (A := X.A.in1) (I.ok.hd hc) it a hat its.toArray
    have hin : i = its.toArray.size := by simp; omega
    refine wpAny_pyNext_enum_endD D he (by rw [← hin]; exact ⟨hit, p⟩) fun h' eb => ⟨rfl, I.turned (t' := s.toks) (fun b o hb q => eb b o hb q) f0 f1 f3 f4 f5⟩
  self := fun A i s Q E st h => let ⟨⟨_, he⟩, _⟩ := st; wpAny_pyIter_enum he h
def iEnumT (K : PySem.W.Frag) (ta : TA) : TI := fun σ H R => ta σ H fun vs H1 => ∃ a xs, vs = [.ref a] ∧ SqT K H1 a xs ∧ R (IteT K a) H1
theorem pi_enumT {X : Cx} {e : Expr} {ta : TA} {p pos tpos : Pos} {elts : List Expr} {kk : Nat} (hg : Gl X "enumerate") (hm : X.mg "enumerate" = none) (ha : PA X [e] ta) (hs : starEach [e] X.env = [(false, eval e X.env)] := by rfl) :
    PI X (.Tuple elts kk tpos) (.Call (.Name "enumerate" p) [e] [] pos) (iEnumT X.K ta) := by
  refine ⟨fun pins s σ H R I h => ?_⟩
  refine Call_ (ld_blt I hg hm boot_enumerate (PyProof.Rows.callWith_type1 (thn (ha.run pos pins s σ H _ I h) fun us s1 ⟨vs, H1, I1, r1, q1⟩ => ?_) hs rfl))
  obtain ⟨a, xs, ex, hq, q⟩ := q1
  subst ex
  cases r1 with
  | cons r rr =>
    cases rr
    cases r
    obtain ⟨its, rv, p', hz⟩ := I1.tuple hq
    have hal : a < s1.heap.objs.size := by obtain ⟨o, ho, _⟩ := p'; exact Heap.lt_size ho
    refine call_enumerate_tuple p' fun h' he hit hsz hk => wpAny_pyIter_enum he ?_
    have I2 : Inv X pins σ H1 { s1 with heap := h' } := I1.kept (t' := s1.toks) hk
    refine ⟨s1.heap.objs.size + 1, [s1.heap.objs.size + 1, s1.heap.objs.size], _, _, H1, rfl, I2, turn_enumT a (s1.heap.objs.size + 1) s1.heap.objs.size (Nat.ne_of_lt hal) (Nat.ne_of_lt (Nat.lt_succ_of_lt hal)), ⟨⟨.none, he⟩, hit, Nat.succ_ne_self _⟩, fun b hb => ?_, q⟩
    have e' : b = s1.heap.objs.size + 1 ∨ b = s1.heap.objs.size := by simpa using hb
    have hle : s1.heap.objs.size ≤ b := by
      rcases e' with z | z
      · rw [z]; exact Nat.le_add_right _ _
      · rw [z]; exact Nat.le_refl _
    exact I1.fpOk hle (I1.hok.fresh hle)
theorem walk_enumT {K : PySem.W.Frag} {a : Addr} {xs : List V} : Walk (IteT K a) xs.length (fun H => SqT K H a xs) (YPair (fun i => some (.int (i : Nat))) (fun i => xs[i]?)) := by
  refine ⟨fun i _ hi q => ⟨xs, xs[i], q, by simp [hi]⟩, fun _ q => ⟨xs, q, rfl⟩, fun i H v H' _ q y => ?_⟩
  obtain ⟨T, x, h1, h2, h3, h4⟩ := y
  exact ⟨T, .int (i : Nat), x, h1, h2, h3, rfl, h4 xs q⟩
end BX

set_option Elab.async false
set_option linter.all false
set_option maxRecDepth 100000
set_option maxHeartbeats 2000000
/-! A for in a generator's body. -/
namespace BX
open PySem PySem.Spec PyProof.Rows L2 GenW

section
variable {prog : Program} {w : World} {A : Around} {R : GenEnd} {Y : Protocol} {n : Nat} {s₀ : Shared} {fs : List Frame} {s : Shared} {env : Env}
/-- what an exception in a loop's turn comes to -/
abbrev SegX (prog : Program) (w : World) (A : Around) (R : GenEnd) (Y : Protocol) (n : Nat) (s₀ : Shared) (c : Code) (fs : List Frame) (env : Env) (x : Value) (s' : Shared) : Prop :=
  Seg (model prog w) A R Y n s₀ c ((do noteFrame x env; theTreesLotGoes x : Sem Unit).wrap (fun _ => .raise x) .raise id id) fs s'
theorem seg_forLoop {target : Expr} {it : Value} {body : List Stmt}
    (h : wpAny (model prog w) (A.over (.forLoop target it body [] env) fs) (pyNext it) (fun r s1 => match r with
        | none => Seg (model prog w) A R Y n s₀ (.block [] env) (.pure (.done .next)) fs s1
        | some v => wpAny (model prog w) (A.over (.forLoop target it body [] env) fs) (letOwnedTupleGo target it v) (fun _ s2 =>
            wpAny (model prog w) (A.over (.forLoop target it body [] env) fs) (assign target env v) (fun _ s3 =>
              Seg (model prog w) A R Y n s₀ (.forLoop target it body [] env) ((execs body env).wrap (fun f => match f with
                | .next | .cont => .pure (.again (.forLoop target it body [] env))
                | .brk => .pure (.done .next)
                | .ret v => .pure (.done (.ret v))) (fun e => (do noteFrame e env; theTreesLotGoes e : Sem Unit).wrap (fun _ => .raise e) .raise id id) id id) fs s3)
              (SegX prog w A R Y n s₀ (.forLoop target it body [] env) fs env) s2)
            (SegX prog w A R Y n s₀ (.forLoop target it body [] env) fs env) s1)
      (SegX prog w A R Y n s₀ (.forLoop target it body [] env) fs env) s) :
    Seg (model prog w) A R Y n s₀ (.forLoop target it body [] env) ((model prog w).den (.forLoop target it body [] env)) fs s := by
  show Seg _ A R Y n s₀ _ ((forTurn target it body [] env).onRaise (fun x => do noteFrame x env; theTreesLotGoes x)) fs s
  have ex : ∀ {x : Value} {s' : Shared}, SegX prog w A R Y n s₀ (.forLoop target it body [] env) fs env x s' →
      Seg (model prog w) A R Y n s₀ (.forLoop target it body [] env) ((do noteFrame x env; theTreesLotGoes x : Sem Unit).bind fun _ => .raise x) fs s' := fun {x s'} hx => by
    rw [Sem.bind_eq_wrap]; exact hx
  rw [Sem.onRaise_eq_wrap]
  unfold forTurn
  refine seg_bind_wrap (wpAny_standAt ?_)
  refine seg_bind_wrap (wpAny_onRaise (wpAny_mono h (fun r s1 h1 => ?_) (fun x s1 hx => wpAny_standAt (ex hx))))
  cases r with
  | none => exact seg_again rfl h1
  | some v =>
    refine seg_bind_wrap (wpAny_mono h1 (fun _ s2 h2 => ?_) fun x s' hx => ex hx)
    refine seg_bind_wrap (wpAny_mono h2 (fun _ s3 h3 => ?_) fun x s' hx => ex hx)
    rw [Sem.bind_eq_wrap', Sem.wrap_wrap]
    rw [Sem.wrap_congr (execs body env) _ _ (K' := fun f => match f with
            | .next | .cont => .pure (.again (.forLoop target it body [] env))
            | .brk => .pure (.done .next)
            | .ret v => .pure (.done (.ret v))) (H' := (fun e => (do noteFrame e env; theTreesLotGoes e : Sem Unit).wrap (fun _ => .raise e) .raise id id))
        (fun f => by cases f <;> rfl)
        (fun e => by first | exact Sem.bind_eq_wrap _ _ | (show (do noteFrame e env; theTreesLotGoes e : Sem Unit).bind (fun _ => .raise e) = _; rw [Sem.bind_eq_wrap]))]
    exact h3
end

/-- for, in a generator -/
def tGFor (wi : TI) (g : TG) (tb : TGn) : TGn := fun D ys σ H => wi σ H fun J H1 => ∃ W : Nat → Nat → List V → L2.St → Hp → Prop, (∃ m, W 0 m ys σ H1) ∧ ∀ i m ys σ H, W i m ys σ H →
  (J.stop i H ∧ D.nx ys σ H) ∨ (J.go i H ∧ ∃ N : List V → L2.St → Hp → Prop, (∀ ys' σ' H', N ys' σ' H' → ∃ m', m' < m ∧ W (i + 1) m' ys' σ' H') ∧ ∀ x H', J.yld i H x H' → g x σ H' fun σ2 H2 => tb { D with nx := N, ct := N, bk := D.nx } ys σ2 H2)
section
variable {X : Cx}
theorem gs_for {tg iter : Expr} {body : List Stmt} {pos : Pos} {wi : TI} {g : TG} {tb : TGn} (hp : PassesOwn (model X.prog X.w) X.A X.env X.xe) (hcalm : X.calm = true) (hi : PI X tg iter wi) (hg : PG X tg g) (hb : GSs X body tb)
    (hs : ∀ x, foldedSetIterable iter X.env x = pure x := by intro _; rfl) : GS X (.For tg iter body [] pos) (tGFor wi g tb) := by
  refine ⟨fun A S ip R n ys s₀ c fs K J gd lv s σ H D gc hn k hI ht => ?_⟩
  obtain ⟨acc0, cc0, r0, I0⟩ := hI
  rw [exec_For]
  refine seg_bind_wrap (wpAny_standAt ?_)
  refine seg_bind_wrap ?_
  rw [gc.over]
  refine wpAny_mono (hi.run _ s σ H _ I0 ht) (fun v s1 h1 => ?_) fun x s' hx => k.exc n s₀ x s' hx
  refine seg_bind_wrap (wpAny_of_eq (hs v) ?_)
  refine seg_bind_wrap (wpAny_standAt ?_)
  refine seg_bind_wrap (wpAny_holding ?_)
  rw [gc.over]
  refine wpAny_mono h1 (fun itv s2 h2 => ?_) fun x s' hx => k.exc n s₀ x s' hx
  obtain ⟨it, fp, tn, JJ, H2, e, I2, T, st2, f2, W, ⟨m0, w0⟩, turn⟩ := h2
  subst e
  refine seg_call fun p => ?_
  have gl := fun (kk : Result → Sem PySem.Fin) => gc_loop (k := kk) (c' := .forLoop tg (.ref it) body [] X.env) (l := lv []) (kp := []) (p := p) gc rfl rfl
  have stat : ∀ {H' : Hp} {ac : Array Value} {cc : Nat}, (∀ b ∈ fp, H' b = none) → ∀ b ∈ fp, FpOk X ((S, lstObj ac cc) :: ip) H' b := fun {H' ac cc} hnn b hb => by
    obtain ⟨_, b1, b2, b3, b4, b5⟩ := f2 b hb
    refine ⟨hnn b hb, b1, b2, b3, b4, fun q hq => ?_⟩
    rcases List.mem_append.mp hq with hq | hq
    · exact b5 q (List.mem_append_left _ hq)
    · rcases List.mem_cons.mp hq with hq | hq
      · subst hq
        exact b5 (S, lstObj acc0 cc0) (List.mem_append_right _ List.mem_cons_self)
      · exact b5 q (List.mem_append_right _ (List.mem_cons_of_mem _ hq))
  have nS : ∀ b ∈ fp, b ≠ S := fun b hb z => (f2 b hb).2.2.2.2.2 (S, lstObj acc0 cc0) (List.mem_append_right _ List.mem_cons_self) z.symm
  have loop : ∀ (m i n : Nat) (ys : List V) (s₀ s : Shared) (σ : L2.St) (H : Hp), n + ys.length = sizeLine → W i m ys σ H → GI X S ip ys σ H s → tn i s.heap → (∀ b ∈ fp, H b = none) →
      Seg (model X.prog X.w) A R (GY X S) n s₀ (.forLoop tg (.ref it) body [] X.env) ((model X.prog X.w).den (.forLoop tg (.ref it) body [] X.env))
        (.ret (fun r => ((match r with | .ok f => (.pure f : Sem Flow) | .error e => .raise e).onRaise (cameBack X.env)).wrap K J gd lv) none (gd false) (lv []) c p [] :: fs) s := by
    intro m
    induction m using Nat.strongRecOn with
    | ind m ih =>
      intro i n ys s₀ s σ H hn w hI st3 fr3
      have ee : ∀ (n : Nat) (s₀ : Shared) (x : Value) (s' : Shared), X.xe x s' → Seg (model X.prog X.w) A R (GY X S) n s₀ (.forLoop tg (.ref it) body [] X.env)
          ((do noteFrame x X.env; theTreesLotGoes x : Sem Unit).wrap (fun _ => .raise x) .raise id id)
          (.ret (fun r => ((match r with | .ok f => (.pure f : Sem Flow) | .error e => .raise e).onRaise (cameBack X.env)).wrap K J gd lv) none (gd false) (lv []) c p [] :: fs) s' := fun n s₀ x s' hx => by
        refine seg_wrap ?_
        rw [(gl _).over]
        refine wpAny_bind (wpAny_mono (hp x s' hx) (fun _ s'' hcb => wpAny_theTreesLotGoes ?_) fun y s'' hcb => ?_)
        · exact seg_leaf (.error x) (seg_cameBack gc k hcb)
        · exact seg_leaf (.error y) (seg_cameBack gc k hcb)
      refine seg_forLoop ?_
      rw [(gl _).over]
      obtain ⟨acc, cc, r, I⟩ := hI
      rcases turn i m ys σ H w with ⟨hstop, qn⟩ | ⟨go, N, hN, step⟩
      · refine wpAny_mono (T.done X rfl rfl rfl hcalm i _ s σ H X.xe I (stat fr3) st3 hstop) (fun r s4 ⟨hr, I4⟩ => ?_) fun x s' hx => ee n s₀ x s' hx
        subst hr
        exact seg_leaf (.ok .next) (k.ok n ys s₀ s4 .next hn ⟨σ, H, ⟨acc, cc, r, I4⟩, qn⟩)
      · refine wpAny_mono (T.item X rfl rfl rfl hcalm i _ s σ H X.xe I (stat fr3) st3 go) (fun r s4 ⟨u, hr, h4⟩ => ?_) fun x s' hx => ee n s₀ x s' hx
        subst hr
        refine wpAny_mono h4 (fun _ s5 ⟨x, H5, I5, r5, y5, st5, fr5⟩ => ?_) fun x s' hx => ee n s₀ x s' hx
        have I5' := I5.pinned (stat fr5) (T.obj _ _ st5)
        refine wpAny_mono (hg.run _ s5 σ H5 x u _ I5' r5 (step x H5 y5)) (fun _ s6 ⟨σ6, H6, I6, q6⟩ => ?_) fun x s' hx => ee n s₀ x s' hx
        have gl2 : GC X S (ip ++ pinsAt fp s5.heap) A (.forLoop tg (.ref it) body [] X.env) (.ret (fun r => ((match r with | .ok f => (.pure f : Sem Flow) | .error e => .raise e).onRaise (cameBack X.env)).wrap K J gd lv) none (gd false) (lv []) c p [] :: fs) id :=
          ⟨gc.pn, (fun q hq => (List.mem_append.mp hq).elim (fun z => gc.ip q z) (fun z => nS q.1 (of_pinsAt z).1)), gc.apart, (gl _).over, (gl _).split, (gl _).guard, rfl⟩
        have back : ∀ {ys' : List V} {σ' : L2.St} {H' : Hp} {s' : Shared}, GI X S (ip ++ pinsAt fp s5.heap) ys' σ' H' s' → GI X S ip ys' σ' H' s' := fun {ys' σ' H' s'} ⟨a1, c1, r1, I1⟩ => ⟨a1, c1, r1, Inv.unpinned (pins := (S, lstObj a1 c1) :: ip) (pl := pinsAt fp s5.heap) I1⟩
        have stay : ∀ {ys' : List V} {σ' : L2.St} {H' : Hp} {s' : Shared}, GI X S (ip ++ pinsAt fp s5.heap) ys' σ' H' s' → tn (i + 1) s'.heap ∧ ∀ b ∈ fp, H' b = none := fun {ys' σ' H' s'} ⟨a1, c1, r1, I1⟩ => by
          refine ⟨T.keep _ _ _ st5 fun b hb o e => (I1.pin (b, o) (List.mem_append_right _ (List.mem_cons_of_mem _ (List.mem_append_right _ (mem_pinsAt hb e))))).1, fun b hb => ?_⟩
          obtain ⟨o, e, d⟩ := T.obj _ _ st5 b hb
          exact (I1.pin (b, o) (List.mem_append_right _ (List.mem_cons_of_mem _ (List.mem_append_right _ (mem_pinsAt hb e))))).2.1
        refine hb.run A S (ip ++ pinsAt fp s5.heap) R n ys s₀ _ _ _ _ id id s6 σ6 H6 { D with nx := N, ct := N, bk := D.nx } gl2 hn ⟨fun n' ys' s₀' s7 f hn' hs' => ?_, fun n' s₀' x s3 hx => ee n' s₀' x s3 hx⟩ ⟨acc, cc, r, I6⟩ q6
        cases f with
        | next =>
          obtain ⟨σ7, H7, I7, n7⟩ := hs'
          obtain ⟨m', hm, w7⟩ := hN ys' σ7 H7 n7
          exact seg_again rfl (ih m' hm (i + 1) n' ys' s₀' s7 σ7 H7 hn' w7 (back I7) (stay I7).1 (stay I7).2)
        | cont =>
          obtain ⟨σ7, H7, I7, n7⟩ := hs'
          obtain ⟨m', hm, w7⟩ := hN ys' σ7 H7 n7
          exact seg_again rfl (ih m' hm (i + 1) n' ys' s₀' s7 σ7 H7 hn' w7 (back I7) (stay I7).1 (stay I7).2)
        | brk =>
          obtain ⟨σ7, H7, I7, q7⟩ := hs'
          exact seg_leaf (.ok .next) (k.ok n' ys' s₀' s7 .next hn' ⟨σ7, H7, back I7, q7⟩)
        | ret v =>
          obtain ⟨v', σ7, H7, I7, r7, q7⟩ := hs'
          exact seg_leaf (.ok (.ret v)) (k.ok n' ys' s₀' s7 (.ret v) hn' ⟨v', σ7, H7, back I7, r7, q7⟩)
  exact loop m0 0 n ys s₀ s2 σ H2 hn w0 ⟨acc0, cc0, r0, I2⟩ st2 fun b hb => (f2 b hb).1
end
end BX

set_option Elab.async false
set_option linter.all false
set_option maxRecDepth 100000
set_option maxHeartbeats 4000000
/-! Rules that the layer lacks: a tuple times nought or one, a class called by a local name or with a star, an own __add__, len(set(a tuple of tuples of ints)). -/
namespace BX
open PySem PySem.Spec PyProof.Rows L2 StX

/-! ### (x,) * k for k = 0, 1 and more -/
theorem tuple_mul0 (l : Addr) (items : Array Value) (n : Nat) (dd : Option Addr) (sl : Array (Option Value)) (u : Tok) (hne : items.isEmpty = false) :
    Meets (Builtin.«tuple.__mul__» ⟨[.ref l, .int 0 u], []⟩) (fun _ R s => s.heap.get? l = some { cls := .type "tuple", dict := dd, data := .seq items n, slots := sl } ∧
      R (.ok (.ret (Value.ref s.heap.objs.size))) { s with heap := s.heap.push { cls := Value.type "tuple", data := Data.seq #[] }, toks := s.toks }) :=
  .of_wp fun prog w A R s h => by
    obtain ⟨hp, g, d, tk, os⟩ := s
    obtain ⟨hl, h⟩ := h
    have f1 := AutoSeq1.idx_int
    have c1 : (items.isEmpty || (0 : Int) == 1) = false := by rw [hne]; rfl
    wp_walk using wpAny_loadPart' hl
    repeat (first
      | (refine wpAny_ite_false (decide_eq_false (by rw [c1]; exact Bool.false_ne_true)) ?_; wp_walk using wpAny_loadPart' hl)
      | (refine wpAny_ite_true (decide_eq_true rfl) ?_; wp_walk using wpAny_loadPart' hl))
    exact ⟨_, rfl, h⟩
theorem tuple_mul1 (l : Addr) (items : Array Value) (n : Nat) (dd : Option Addr) (sl : Array (Option Value)) (u : Tok) :
    Meets (Builtin.«tuple.__mul__» ⟨[.ref l, .int 1 u], []⟩) (fun _ R s => s.heap.get? l = some { cls := .type "tuple", dict := dd, data := .seq items n, slots := sl } ∧
      R (.ok (.ret (Value.ref l))) s) :=
  .of_wp fun prog w A R s h => by
    obtain ⟨hp, g, d, tk, os⟩ := s
    obtain ⟨hl, h⟩ := h
    have f1 := AutoSeq1.idx_int
    have c1 : (items.isEmpty || (1 : Int) == 1) = true := by cases items.isEmpty <;> rfl
    have hT : Shared.TypeIs ⟨hp, g, d, tk, os⟩ (.ref l) "tuple" := ⟨_, hl, rfl⟩
    wp_walk using wpAny_loadPart' hl
    repeat (first
      | (refine wpAny_ite_true (decide_eq_true c1) ?_; wp_walk using wpAny_loadPart' hl)
      | (refine wpAny_ite_true (decide_eq_true rfl) ?_; wp_walk using wpAny_loadPart' hl))
    exact ⟨_, rfl, h⟩
/-- (x, ..) * k, k from 0 to 1000: some tuple with these items -/
def rRepA (K : PySem.W.Frag) : R2 := fun x y H Q => ∃ l k xs, x = .ref l ∧ y = .int k ∧ SqT K H l xs ∧ xs ≠ [] ∧ 0 ≤ k ∧ k ≤ 1000 ∧ xs.length ≤ 1000 ∧ (k = 1 → Q (.ref l) H) ∧ (k ≠ 1 → ∀ p, H p = none → Q (.ref p) (upd H p (.tup (List.replicate k.toNat xs).flatten)))
theorem op_repA {X : Cx} : OpR X (binaryOp .Mult) (rRepA X.K) := by
  intro pins s σ H x y v u Q I rx ry h
  obtain ⟨l, k, xs, rfl, rfl, hT, hne, h0, h2, hz, q1, q⟩ := h
  rcases (show 2 ≤ k ∨ k = 1 ∨ k = 0 by omega) with hk | hk | hk
  · exact op_repT pins s σ H _ _ v u Q I rx ry ⟨l, k, xs, rfl, rfl, hT, hne, hk, h2, hz, q (by omega)⟩
  · subst hk
    cases rx
    obtain ⟨t, rfl⟩ := ry
    obtain ⟨its, r, ⟨⟨cls, dd, data, sl⟩, ho, hc, n, hd⟩, hs⟩ := I.tuple hT
    simp only at hc hd
    subst hc hd
    refine wpAny_binaryOp_repeat_ref (T := "tuple") (U := "int") (by decide) ⟨_, ho, rfl⟩ (fun s' => typeIs_int s' 1 t) noFill_tuple_mul F.fills_int_mul F.slot_int_rmul repeat_tuple F.slot_int_index.lookup
      (call_meets F.slot_int_rmul (typeIs_int s 1 t) F.entry_int_rmul (F.args_int_rmul_2 _ _) (int_rmul_tuple 1 t l its.toArray n dd sl)
        ⟨ho, rfl, ⟨_, ho, rfl⟩, call_meets F.slot_tuple_mul ⟨_, ho, rfl⟩ F.entry_tuple_mul (F.args_tuple_mul_2 _ _) (tuple_mul1 l its.toArray n dd sl t) ⟨ho, ?_⟩⟩)
    exact ⟨.ref l, H, I, rfl, q1 rfl⟩
  · subst hk
    cases rx
    obtain ⟨t, rfl⟩ := ry
    obtain ⟨its, r, ⟨⟨cls, dd, data, sl⟩, ho, hc, n, hd⟩, hs⟩ := I.tuple hT
    simp only at hc hd
    subst hc hd
    have hi : its.toArray.isEmpty = false := by
      cases r with
      | nil => exact absurd rfl hne
      | cons a b => rfl
    refine wpAny_binaryOp_repeat_ref (T := "tuple") (U := "int") (by decide) ⟨_, ho, rfl⟩ (fun s' => typeIs_int s' 0 t) noFill_tuple_mul F.fills_int_mul F.slot_int_rmul repeat_tuple F.slot_int_index.lookup
      (call_meets F.slot_int_rmul (typeIs_int s 0 t) F.entry_int_rmul (F.args_int_rmul_2 _ _) (int_rmul_tuple 0 t l its.toArray n dd sl)
        ⟨ho, rfl, ⟨_, ho, rfl⟩, call_meets F.slot_tuple_mul ⟨_, ho, rfl⟩ F.entry_tuple_mul (F.args_tuple_mul_2 _ _) (tuple_mul0 l its.toArray n dd sl t hi) ⟨ho, ?_⟩⟩)
    refine ⟨.ref s.heap.objs.size, _, I.laid (t' := s.toks) (o := .tup []) (fun b ob q => Heap.get?_push_of_some _ q) (Nat.le_refl _) ?_, rfl, q (by decide) _ (I.hok.fresh (Nat.le_refl _))⟩
    exact ⟨Nat.zero_le _, [], .nil, IsTup.new _ _⟩

/-! ### a class called by a local name; with a star alone -/
section
variable {X : Cx} {CX : CXT} {k i : Nat} {f C : Addr} {sp : Sp} {E : XK} {x : Str} {e : Expr} {es : List Expr} {te : TE} {t : TA} {p sp_ pos : Pos}
def tMakeL (i : Nat) (C : Addr) (sp : Sp) (E : XK) (t : TA) : TE := fun σ H Q => σ[i]? = some (some (.ref C)) ∧ tMakeR C sp E t σ H Q
theorem pe_makeL (M : Mk X.K C f) (F : FnR X.prog X.w X.K X.mg X.base CX k f sp) (hr : Room (k + 1) X.A) (hN : X.N[i]? = some x) (hv : Vis X.env.scope x) (hx : Passes CX X E) (ha : PA X (e :: es) t) (hdb : (x == ("__debug__" : Str)) = false := by decide) (hcd : (x == ("__classdict__" : Str)) = false := by decide)
    (he : starEach (e :: es) X.env = (false, eval e X.env) :: starEach es X.env := by rfl) (hpl : (backTo pos (starEach es X.env)).any (·.1) = false := by rfl) : PE X (.Call (.Name x p) (e :: es) [] pos) (tMakeL i C sp E t) := by
  refine ⟨fun pins s σ H Q I h => ?_⟩
  obtain ⟨hs, ht⟩ := h
  refine wpAny_Call_Name_kw (thn ((pe_var (pos := p) hN hv hdb hcd).run pins s σ H (fun v H1 => v = .ref C ∧ H1 = H) I ⟨.ref C, hs, rfl, rfl⟩) fun u s1 ⟨v, H1, I1, r1, q1⟩ => ?_)
  obtain ⟨rfl, rfl⟩ := q1
  cases r1
  refine PySem.W.callWith_K (h₀ := X.base) I.ok.mod.kin M.kp (thn (ha.run pos pins s1 σ _ _ I1 ht) fun us s2 ⟨vs, H2, I2, r, q⟩ => ⟨I2.kIn, ?_⟩) he hpl
  exact run_makeR M F hr hx I2 r q
/-- C( *y) -/
theorem pe_makeS1 (M : Mk X.K C f) (F : FnR X.prog X.w X.K X.mg X.base CX k f sp) (hr : Room (k + 1) X.A) (hg : Gl X x) (hm : X.mg x = some (.ref C)) (hx : Passes CX X E) (he : PE X e te) (hd : (x == ("__debug__" : Str)) = false := by decide)
    (hst : starEach [.Starred e sp_] X.env = [(true, eval e X.env)] := by rfl) :
    PE X (.Call (.Name x p) [.Starred e sp_] [] pos) (fun σ H Q => te σ H fun y H1 => ∃ a xs, y = V.ref a ∧ (SqT X.K H1 a xs ∨ SqL X.K H1 a xs) ∧ ∀ x dx, H1 x = Option.none → H1 dx = Option.none → dx ≠ x →
      sp (V.ref x :: xs) (upd (upd H1 dx (.own x)) x (.ins C dx [])) (fun v H2 => v = .non ∧ Q (.ref x) H2) E) := by
  refine ⟨fun pins s σ H Q I h => ?_⟩
  refine wpAny_Call_Name_kw (ld_glob I hg hm ?_ hd)
  refine PySem.W.callWith_S (h₀ := X.base) I.ok.mod.kin M.kp (thn (he.run pins s σ H _ I h) fun v s1 ⟨y, H1, I1, ry, a, xs, ey, hxs, q⟩ => ?_) hst
  subst ey
  obtain rfl : v = Value.ref a := ry
  exact star_any I1 hxs fun us s2 I2 rv => ⟨I2.kIn, run_makeR M F hr hx I2 rv q⟩
end

/-! ### a + b by an own __add__ -/
structure AddOwn (K : PySem.W.Frag) (C f : Addr) : Prop where
  sf : PySem.W.selfFirst K C = true
  at_ : PySem.W.findIn K (.ref C) "__add__" = some (some (.ref f))
  fn : PySem.W.isFn K (.ref f) = true
def rAddOwn (C : Addr) (sp : Sp) (E : XK) : R2 := fun x y H Q => ∃ a b dx fs dy gs, x = .ref a ∧ y = .ref b ∧ H a = some (.ins C dx fs) ∧ H b = some (.ins C dy gs) ∧ sp [.ref a, .ref b] H Q E
theorem op_addOwn {X : Cx} {CX : CXT} {k : Nat} {f C : Addr} {sp : Sp} {E : XK} (W : AddOwn X.K C f) (F : FnR X.prog X.w X.K X.mg X.base CX k f sp) (hr : Room k X.A) (hx : Passes CX X E) : OpR X (binaryOp .Add) (rAddOwn C sp E) := by
  intro pins s σ H x y v u Q I rx ry h
  obtain ⟨a, b, dx, fs, dy, gs, rfl, rfl, ha, hb, q⟩ := h
  cases rx
  cases ry
  obtain ⟨mA, O, _⟩ := ins_get I.hok ha
  obtain ⟨od, J, _⟩ := O.look
  obtain ⟨mB, O2, _⟩ := ins_get I.hok hb
  obtain ⟨od2, J2, _⟩ := O2.look
  obtain ⟨m, Fm⟩ := I.fr
  refine PySem.W.binop_K Fm I.ok.mod.kin J J2.type W.sf (show PySem.W.findIn X.K (.ref C) (PySem.dunder Operator.Add.info.2) = _ from W.at_) W.fn ?_
  refine wpAny_call (codeAny_mono (run_fnR (us := [.ref a, .ref b]) (vs := [.ref a, .ref b]) F hr hx I (.cons rfl (.cons rfl .nil)) q) fun r s' hq => ?_)
  cases r with
  | error e => exact hq
  | ok fl =>
    cases fl with
    | ret w' =>
      obtain ⟨v, H', I', rv, qv⟩ := hq
      have hq2 : EP X pins σ Q w' s' := ⟨v, H', I', rv, qv⟩
      show PySem.W.CmpBack _ w' s'
      cases w' with
      | notImplemented =>
        cases v <;> first | (obtain ⟨_, e⟩ := rv; cases e) | cases rv
      | _ => exact hq2
    | next => exact hq
    | brk => exact hq
    | cont => exact hq
end BX

set_option Elab.async false
set_option linter.all false
set_option maxRecDepth 100000
set_option maxHeartbeats 4000000
/-! len(set(t)), t a tuple of tuples of ints that all differ. -/
namespace BX
open PySem PySem.Spec PyProof.Rows L2
section
variable {P : Program} {w : World} {A : Around} {E : Value → Shared → Prop} {s : Shared}
theorem call_set_tupsT {l : Addr} {items : Array Value} (ks : List (Addr × List Int)) {Q : Value → Shared → Prop} (hh : A.handled = none) (hl : s.heap.IsTuple l items) (hit : items.toList = ks.map fun p => Value.ref p.1)
    (hk : ∀ p ∈ ks, IsT P w s.heap p.2 p.1) (hfew : ks.length < 64) (hu : A.units + 3 < cLine)
    (h : ∀ (h' : Heap) (tk : Nat) L es ep t, SetTR P w h' s.heap.objs.size L es ep t → Got ks ks.length L → (∀ b o, s.heap.get? b = some o → h'.get? b = some o) → Q (.ref s.heap.objs.size) { s with heap := h', toks := tk }) :
    wpAny (model P w) A (call (.type "set") [.ref l]) Q E s := by
  have hisz : items.size = ks.length := by
    have q := congrArg List.length hit
    rw [Array.length_toList, List.length_map] at q
    exact q
  obtain ⟨c, tl, hmro⟩ := F.called_set.mro
  have hmade := F.called_set.made
  have hsub := F.called_set.sub
  refine wpAny_call (codeAny_of_tree ?_)
  show wpAny _ _ (callAny (.type "set") _) _ _ _
  refine wpAny_pure ⟨Code.quiet_builtin _ (by decide +kernel), codeAny_builtin F.entry_type_call ?_⟩
  rw [Around.under_plain (weight_type_call_type "set" [.ref l] []) rfl]
  have h1 := F.called_set.notType
  have h2 := F.called_set.canCreate
  have hct := F.typeCall_set_1 (.ref l)
  repeat (any_goals (first | assumption | wp_step))

  refine codeAny_mono (code_set_led1 (.ref l) (E := E) (Q₁ := fun obj s₁ => obj = .ref s.heap.objs.size ∧ s₁ = { s with heap := s.heap.push { cls := .type "set", dict := none, data := .set #[] 0 (.fresh 0 0 (!w.params.followText "set-order")) } }) ⟨rfl, rfl⟩) fun r s₁ hr => ?_
  cases r with
  | error e => exact hr
  | ok fl =>
    cases fl with
    | ret obj =>
      obtain ⟨rfl, rfl⟩ := hr
      have hS : (s.heap.push { cls := .type "set", dict := none, data := .set #[] 0 (.fresh 0 0 (!w.params.followText "set-order")) }).get? s.heap.objs.size = some { cls := .type "set", dict := none, data := .set #[] 0 (.fresh 0 0 (!w.params.followText "set-order")) } := Heap.get?_push_size _ rfl
      have hT : Shared.TypeIs { s with heap := s.heap.push { cls := .type "set", dict := none, data := .set #[] 0 (.fresh 0 0 (!w.params.followText "set-order")) } } (.ref s.heap.objs.size) "set" := ⟨_, hS, rfl⟩
      have hli := F.called_set.init.lookup
      have hbi := F.called_set.init.bind (.ref s.heap.objs.size)
      repeat (any_goals (first | assumption | wp_step))

      refine codeAny_mono (codeAny_call_builtin (R := wants (fun r s₂ => r = .none ∧ ∃ h' tk L es ep t, s₂ = { s with heap := h', toks := tk } ∧ SetTR P w h' s.heap.objs.size L es ep t ∧ Got ks ks.length L ∧
          (∀ b o, s.heap.get? b = some o → h'.get? b = some o)) E) F.called_set.init.plain F.entry_set_init (check_set_init_1 hT ?_)) fun r₂ s₂ hr₂ => ?_
      · obtain ⟨ol, hol, hcl, nl, hdl⟩ := hl
        obtain ⟨ocls, odict, odata, oslots⟩ := ol
        simp only at hcl hdl
        subst hcl; subst hdl
        have hol' : (s.heap.push { cls := .type "set", dict := none, data := .set #[] 0 (.fresh 0 0 (!w.params.followText "set-order")) }).get? l = some { cls := .type "tuple", dict := odict, data := .seq items nl, slots := oslots } := Heap.get?_push_of_some _ hol
        have hsls := F.sub_tuple_set
        have hslf := F.sub_tuple_frozenset
        have hne : (Value.type "tuple" == Value.type "dict") = false := by decide
        have hl1 : (s.heap.push { cls := .type "set", dict := none, data := .set #[] 0 (.fresh 0 0 (!w.params.followText "set-order")) }).IsTuple l items := ⟨_, hol', rfl, nl, rfl⟩
        unfold Builtin.«set.__init__» noKeywords Builtin.Frozenset.updateFrom
        generalize hPI : pyIter = PI
        wp_walk
        subst hPI

        refine wpAny_pyIter_tuple hl1 ?_
        refine wpAny_bind (wpAny_runValue ?_)
        have hlS : l < s.heap.objs.size := Heap.lt_size hol
        have hh3 : A.in1.in1.in1.handled = none := by simp [hh]
        have hz1 : (s.heap.push { cls := .type "set", dict := none, data := .set #[] 0 (.fresh 0 0 (!w.params.followText "set-order")) }).objs.size = s.heap.objs.size + 1 := Heap.size_push ..
        have hneI : l ≠ (s.heap.push { cls := .type "set", dict := none, data := .set #[] 0 (.fresh 0 0 (!w.params.followText "set-order")) }).objs.size := by
          rw [Heap.size_push]; exact Nat.ne_of_lt (Nat.lt_succ_of_lt hlS)
        have hSf : s.heap.objs.size ∉ [(s.heap.push { cls := .type "set", dict := none, data := .set #[] 0 (.fresh 0 0 (!w.params.followText "set-order")) }).objs.size, l] := by
          rw [Heap.size_push]; simp only [List.mem_cons, List.mem_singleton, List.not_mem_nil, or_false, not_or]
          exact ⟨Nat.ne_of_lt (Nat.lt_succ_self _), Nat.ne_of_gt hlS⟩
        have hval : ∀ (i : Nat) (v : Value), items[i]? = some v → ∃ p, ks[i]? = some p ∧ v = .ref p.1 := fun i v hv => by
          have q : items.toList[i]? = some v := by rw [Array.getElem?_toList]; exact hv
          rw [hit, List.getElem?_map] at q
          cases hq : ks[i]? with
          | none => rw [hq] at q; cases q
          | some p =>
            rw [hq] at q
            exact ⟨p, rfl, (Option.some.inj q).symm⟩
        have none_of : ∀ b, s.heap.objs.size ≤ b → s.heap.get? b = none := fun b hb => by
          cases q : s.heap.get? b with
          | none => rfl
          | some o => exact absurd (Nat.lt_of_lt_of_le (Heap.lt_size q) hb) (Nat.lt_irrefl _)
        refine set_update_tups ((Walks.tuple hh3 _ l hneI items).toS) s.heap.objs.size
          hSf ks hisz hfew hval s.heap hk (none_of _ (Nat.le_refl _)) (fun b hb => none_of b (by
            rw [List.mem_singleton.mp hb, Heap.size_push]
            exact Nat.le_succ _)) hu (items.size - 0) 0 _ (by omega) (Nat.zero_le _)
          ⟨⟨_, Heap.get?_push_size _ rfl, rfl, rfl⟩, (hl1.at fun o e => Heap.get?_push_of_some _ e)⟩ (fun b o e => Heap.get?_push_of_some _ (Heap.get?_push_of_some _ e)) ?hS0 ?hR
        case hS0 =>
          have hget : ((s.heap.push { cls := .type "set", dict := none, data := .set #[] 0 (.fresh 0 0 (!w.params.followText "set-order")) }).push { cls := .type "tuple_iterator", data := .fields #[.ref l, .int 0 0] }).get? s.heap.objs.size
              = some { cls := .type "set", dict := none, data := .set #[] 0 (.fresh 0 0 (!w.params.followText "set-order")) } := Heap.get?_push_of_some _ hS
          exact ⟨[], #[], 0, _, setTR_fresh hget, Got.zero ks⟩
        case hR =>
          intro s' L es ep t hm hS' g' hkp
          obtain ⟨h', g2, d', tk', os'⟩ := s'
          have eg : g2 = s.gens := hm.gens
          have ed : d' = s.drawn := hm.drawn
          have eo : os' = s.os := hm.os
          subst eg; subst ed; subst eo
          show wpAny _ _ _ _ _ _
          refine wpAny_pure ?_
          show wpAny _ _ (ret Value.none) _ _ _
          rw [hisz] at g'
          exact wpAny_pure ⟨rfl, h', tk', L, es, ep, t, rfl, hS', g', hkp⟩

      · cases r₂ with
        | error e => exact hr₂
        | ok fl₂ =>
          cases fl₂ with
          | ret r =>
            obtain ⟨rfl, h', tk, L, es, ep, t, rfl, hS', g', hk'⟩ := hr₂
            repeat (any_goals (first | assumption | wp_step))
            exact h _ _ _ _ _ _ hS' g' hk'
          | _ => exact hr₂.elim
    | _ => exact hr.elim
end
theorem nodup_sub_len {α : Type} [DecidableEq α] : ∀ (l m : List α), l.Nodup → (∀ x ∈ l, x ∈ m) → l.length ≤ m.length
  | [], m, _, _ => Nat.zero_le _
  | a :: r, m, hn, hs => by
    have ha : a ∈ m := hs a (List.mem_cons_self)
    have hn2 := List.nodup_cons.mp hn
    have := nodup_sub_len r (m.erase a) hn2.2 fun x hx => (List.mem_erase_of_ne (fun e => hn2.1 (by rw [← e]; exact hx))).mpr (hs x (List.mem_cons_of_mem _ hx))
    have h2 := List.length_erase_of_mem ha
    have h3 := List.length_pos_of_mem ha
    rw [List.length_cons]; omega
def tLenSetT (K : PySem.W.Frag) (ta : TE) : TE := fun σ H Q => ta σ H fun x H1 => ∃ (l : Addr) (ks : List (Addr × List Int)), x = V.ref l ∧ SqT K H1 l (ks.map fun p => V.ref p.1) ∧ (∀ p ∈ ks, SqT K H1 p.1 (p.2.map V.int)) ∧ ks.length < 64 ∧ (ks.map (·.2)).Nodup ∧ Q (.int ks.length) H1
theorem pe_lenSetT {X : Cx} {a : Expr} {ta : TE} {p p2 q pos : Pos} (hc : X.calm = true) (hu : X.A.units + 64 < cLine) (hg : Gl X "len") (hm : X.mg "len" = none) (hg2 : Gl X "set") (hm2 : X.mg "set" = none) (ha : PE X a ta)
    (na : starEach [a] X.env = (false, eval a X.env) :: starEach [] X.env := by rfl) : PE X (.Call (.Name "len" p) [.Call (.Name "set" p2) [a] [] q] [] pos) (tLenSetT X.K ta) := by
  refine ⟨fun pins s σ H Q I h => ?_⟩
  refine Call_ (ld_blt I hg hm PySem.boot_len ?_)
  refine PyProof.Rows.callWith_builtin1 (PyProof.Rows.args_cons ?_ rfl) rfl rfl
  refine Call_ (ld_blt I hg2 hm2 PyProof.Rows.boot_set ?_)
  refine PyProof.Rows.callWith_type1 (PyProof.Rows.args_cons (thn (ha.run pins s σ H _ I h) fun v s1 ⟨x, H1, I1, r1, q1⟩ => PyProof.Rows.args_nil ?_) na) na rfl
  obtain ⟨l, ks, rfl, hq, hks, h1, hnd, q1⟩ := q1
  cases r1
  obtain ⟨its, r, pl, hz⟩ := I1.tuple hq
  refine call_set_tupsT (P := X.prog) (w := X.w) ks (I1.ok.hd hc) pl (by simpa using refs_of_vals r) (fun p hp => I1.isT (hks p hp)) h1 (by omega) fun h' tk L es ep t R g k => ?_
  refine PyProof.Rows.args_nil ?_
  obtain ⟨o, ho, hex, hd⟩ := R.ob
  have hLk : L.length = ks.length := by
    have a1 := nodup_sub_len (L.map (·.2)) (ks.map (·.2)) R.nd fun x hx => by
      obtain ⟨p, hp, rfl⟩ := List.mem_map.mp hx
      exact List.mem_map.mpr ⟨p, List.mem_of_mem_take (g.sub p hp), rfl⟩
    have a2 := nodup_sub_len (ks.map (·.2)) (L.map (·.2)) hnd fun x hx => by
      obtain ⟨p, hp, rfl⟩ := List.mem_map.mp hx
      exact g.all p (by rw [List.take_length]; exact hp)
    rw [List.length_map, List.length_map] at a1 a2
    omega
  have hes : es.size = ks.length := by rw [SetTR.size (s := { s1 with heap := h', toks := tk }) R, hLk]
  have I2 : Inv X pins σ H1 { s1 with heap := h', toks := tk } := I1.kept k
  refine call_len_set ho hex hd (SetTR.fits (s := { s1 with heap := h', toks := tk }) R) (by rw [hes]; omega) ⟨.int ks.length, H1, I2.tok _, ⟨_, by rw [hes]⟩, q1⟩
end BX

set_option Elab.async false
set_option linter.all false
set_option maxRecDepth 100000
set_option maxHeartbeats 2000000
/-! Comprehensions whose turns add objects alone. -/
namespace BX
open PySem PySem.Spec PyProof.Rows L2

def given (n : Nat) (f : Nat → Bool) (v : Nat → V) : List V := ((List.range n).filter f).map v
theorem given_yes {n : Nat} {f : Nat → Bool} {v : Nat → V} (h : f n = true) : given (n + 1) f v = given n f v ++ [v n] := by
  unfold given; rw [List.range_succ, List.filter_append, List.map_append]; simp [h]
theorem given_no {n : Nat} {f : Nat → Bool} {v : Nat → V} (h : f n = false) : given (n + 1) f v = given n f v := by
  unfold given; rw [List.range_succ, List.filter_append]; simp [h]
theorem given_len (n : Nat) (f : Nat → Bool) (v : Nat → V) : (given n f v).length ≤ n := by
  unfold given; rw [List.length_map]; exact Nat.le_trans (List.length_filter_le _ _) (by rw [List.length_range]; exact Nat.le_refl _)
theorem given_all (n : Nat) (v : Nat → V) : given n (fun _ => true) v = (List.range n).map v := by
  unfold given; rw [List.filter_eq_self.mpr (fun _ _ => rfl)]
theorem smallK {n : Nat} (h : n ≤ 100000) : n < sizeLine := Nat.lt_of_le_of_lt h (by rw [sizeLine_eq]; decide)
theorem sameU {H H' : Hp} {p : Addr} {o : HO} (e : Same H H') (h : H p = none) : Same H (upd H' p o) := fun b u eb => by
  rw [upd_ne (ne_of_none eb h)]; exact e b u eb
theorem sameW {H : Hp} {p : Addr} {o : HO} (h : H p = none) : Same H (upd H p o) := sameU (Same.refl H) h
/-- a comprehension over a walk, each turn adding objects alone -/
theorem lc_pure {J : It} {n : Nat} {G : Hp → Prop} {Y : Nat → Hp → V → Hp → Prop} (w : Walk J n G Y) {g : TG} {tt : TT} {te : TE} {vs : List Nat} {σ : L2.St} {H1 : Hp} {D : Addr} {Qd : Hp → Prop} (f : Nat → Bool) (v : Nat → V) (hD : H1 D = none) (hz : n ≤ 100000)
    (hG : ∀ H, Same H1 H → G H)
    (hs : ∀ i x H H' (k : L2.St → Hp → Prop), i < n → Same H1 H → Y i H x H' → (∀ σ2 H2, Same H H2 → wipe σ2 vs = wipe σ vs → (∀ Qb : Bool → Hp → Prop, (∀ H3, Same H H3 → Qb (f i) H3) → tt σ2 H2 Qb) →
      (f i = true → ∀ H3 (Q' : VK), Same H H3 → (∀ H4, Same H H4 → Q' (v i) H4) → te σ2 H3 Q') → k σ2 H2) → g x (wipe σ vs) H' k)
    (hd : ∀ H, Same H1 H → H D = some (.lst (given n f v)) → Qd H) :
    ∃ W : Nat → Nat → Hp → Prop, (∃ m, W 0 m (upd H1 D (.lst []))) ∧ ∀ i m H, W i m H →
      (J.stop i H ∧ Qd H) ∨ (J.go i H ∧ ∃ Nx : Hp → Prop, (∀ H', Nx H' → ∃ m', m' < m ∧ W (i + 1) m' H') ∧ ∀ x H', J.yld i H x H' → g x (wipe σ vs) H' fun σ2 H2 => wipe σ2 vs = wipe σ vs ∧ tt σ2 H2 fun b H3 =>
        if b = true then te σ2 H3 fun y H4 => ∃ acc, H4 D = some (.lst acc) ∧ acc.length < sizeLine ∧ Nx (upd H4 D (.lst (acc ++ [y]))) else Nx H3) := by
  refine lc_it w (fun i H => Same H1 H ∧ H D = some (.lst (given i f v))) ⟨sameW hD, upd_same⟩ (fun i H _ p => hG H p.1) (fun i x H H' hi p y => ?_) fun H p => hd H p.1 p.2
  refine hs i x H H' _ hi p.1 y fun σ2 H2 s2 hw ht he => ⟨hw, ht _ fun H3 s3 => ?_⟩
  cases hf : f i with
  | true =>
    rw [if_pos rfl]
    refine he hf H3 _ s3 fun H4 s4 => ⟨given i f v, s4 _ _ p.2, Nat.lt_of_le_of_lt (given_len _ _ _) (smallK (by omega)), sameU (p.1.trans s4) hD, ?_⟩
    rw [upd_same, given_yes hf]
  | false =>
    rw [if_neg Bool.false_ne_true]
    exact ⟨p.1.trans s3, by rw [given_no hf]; exact s3 _ _ p.2⟩
/-- .. without tests -/
theorem lc_pureA {J : It} {n : Nat} {G : Hp → Prop} {Y : Nat → Hp → V → Hp → Prop} (w : Walk J n G Y) {g : TG} {te : TE} {vs : List Nat} {σ : L2.St} {H1 : Hp} {D : Addr} {Qd : Hp → Prop} (v : Nat → V) (hD : H1 D = none) (hz : n ≤ 100000)
    (hG : ∀ H, Same H1 H → G H)
    (hs : ∀ i x H H' (k : L2.St → Hp → Prop), i < n → Same H1 H → Y i H x H' → (∀ σ2 H2, Same H H2 → wipe σ2 vs = wipe σ vs → (∀ H3 (Q' : VK), Same H H3 → (∀ H4, Same H H4 → Q' (v i) H4) → te σ2 H3 Q') → k σ2 H2) → g x (wipe σ vs) H' k)
    (hd : ∀ H, Same H1 H → H D = some (.lst ((List.range n).map v)) → Qd H) :
    ∃ W : Nat → Nat → Hp → Prop, (∃ m, W 0 m (upd H1 D (.lst []))) ∧ ∀ i m H, W i m H →
      (J.stop i H ∧ Qd H) ∨ (J.go i H ∧ ∃ Nx : Hp → Prop, (∀ H', Nx H' → ∃ m', m' < m ∧ W (i + 1) m' H') ∧ ∀ x H', J.yld i H x H' → g x (wipe σ vs) H' fun σ2 H2 => wipe σ2 vs = wipe σ vs ∧ tYes σ2 H2 fun b H3 =>
        if b = true then te σ2 H3 fun y H4 => ∃ acc, H4 D = some (.lst acc) ∧ acc.length < sizeLine ∧ Nx (upd H4 D (.lst (acc ++ [y]))) else Nx H3) :=
  lc_pure w (tt := tYes) (fun _ => true) v hD hz hG (fun i x H H' k hi s1 y hk => hs i x H H' k hi s1 y fun σ2 H2 s2 hw he => hk σ2 H2 s2 hw (fun Qb q => q H2 s2) fun _ => he) (by
    intro H s h; rw [given_all] at h; exact hd H s h)
/-- a tuple's type -/
theorem tyx_tup {K : PySem.W.Frag} {H : Hp} {a : Addr} {xs : List V} (h : SqT K H a xs) : TyX K H (.ref a) (.type "tuple") := by
  rcases h with (h | ⟨o, h⟩) | ⟨o, its, n, h1, h2, _⟩
  · exact .base (.tup h)
  · exact .fTuple h
  · exact .kTuple h1 h2
/-! ### slices -/
theorem cutV_nn (xs : List V) (s e : Nat) : cutV xs (some (s : Int)) (some (e : Int)) = (xs.drop s).take (e - s) := by
  unfold cutV
  rw [HT.sIx_nat, HT.sIx_nat]
  refine List.ext_getElem? fun i => ?_
  rw [List.getElem?_take, List.getElem?_take, List.getElem?_drop, List.getElem?_drop]
  by_cases h1 : i < min e xs.length - min s xs.length
  · rw [if_pos h1, if_pos (by omega), show min s xs.length + i = s + i by omega]
  · rw [if_neg h1]
    by_cases h2 : i < e - s
    · rw [if_pos h2, List.getElem?_eq_none (by omega)]
    · rw [if_neg h2]
theorem cutV_n0 (xs : List V) (s : Nat) : cutV xs (some (s : Int)) none = xs.drop s := by
  unfold cutV
  rw [HT.sIx_nat, HT.sIx_none]
  refine List.ext_getElem? fun i => ?_
  rw [List.getElem?_take, List.getElem?_drop, List.getElem?_drop]
  by_cases h1 : i < xs.length - min s xs.length
  · rw [if_pos h1, show min s xs.length + i = s + i by omega]
  · rw [if_neg h1, List.getElem?_eq_none (by omega)]
theorem cutV_0n (xs : List V) (e : Nat) : cutV xs none (some (e : Int)) = xs.take e := by
  unfold cutV
  rw [HT.sIx_nat, HT.sIx_none]
  refine List.ext_getElem? fun i => ?_
  rw [List.getElem?_take, List.getElem?_take, List.getElem?_drop, Nat.zero_add]
  by_cases h1 : i < min e xs.length - 0
  · rw [if_pos h1, if_pos (by omega)]
  · rw [if_neg h1]
    by_cases h2 : i < e
    · rw [if_pos h2, List.getElem?_eq_none (by omega)]
    · rw [if_neg h2]
theorem cutV_full {xs : List V} {lo hi : Option Int} (h : HT.sIx xs.length 0 lo = 0 ∧ HT.sIx xs.length xs.length hi = xs.length) : cutV xs lo hi = xs := by
  unfold cutV
  rw [h.1, h.2, List.drop_zero, Nat.sub_zero, List.take_length]
/-- a tuple's slice, the same object or a new one -/
theorem slA_to {K : PySem.W.Frag} {H : Hp} {a : Addr} {xs : List V} {lo hi : Option Int} {Q : VK} (hT : SqT K H a xs) (q : ∀ p H', Same H H' → SqT K H' p (cutV xs lo hi) → Q (.ref p) H') : rSlA K (.ref a) lo hi H Q :=
  ⟨a, xs, rfl, hT, fun h => q a H (Same.refl H) (by rw [cutV_full h]; exact hT), fun _ p hp => q p _ (sameW hp) (.inl (.inl upd_same))⟩
end BX

set_option Elab.async false
set_option linter.all false
set_option maxRecDepth 100000
set_option maxHeartbeats 2000000
/-! Data of ints and pairs: == and in. -/
namespace BX
open PySem PySem.Spec PyProof.Rows L2
def rNotInT (K : PySem.W.Frag) : R2 := fun x y H Q => ∃ d ds, Dp K H x d ∧ Dp K H y (.tuple ds) ∧ SeqAt.shaped d = true ∧ SeqAt.shaped (.tuple ds) = true ∧ Q (.bl (!ds.any fun z => PyData.eqv z d)) H
theorem op_notInT {X : Cx} (hu : X.A.units + 65 < cLine) : OpR X (compareOp .NotIn) (rNotInT X.K) := by
  intro pins s σ H x y v u Q I rx ry h
  obtain ⟨d, ds, hd, he, sd, se, q⟩ := h
  obtain ⟨as, r1⟩ := Dp.reads I d x v hd rx
  obtain ⟨bs, r2⟩ := Dp.reads I (.tuple ds) y u he ry
  exact SeqAt.notIn_tuple_reads r2 r1 (SeqAt.canLay_of_shaped se) (SeqAt.canLay_of_shaped sd) (room_in_shaped sd hu) ⟨.bl _, H, I, rfl, q⟩

/-! ### rows of ints -/
def dRow (xs : List Int) : PyData := .tuple (xs.map .int)
theorem ints_lay : ∀ xs : List Int, PyData.canLayAll0 (xs.map .int) = true
  | [] => by simp [PyData.canLayAll0]
  | x :: r => by simp [PyData.canLayAll0, PyData.canLay0, ints_lay r]
theorem ints_depth : ∀ xs : List Int, PyData.depthAll (xs.map .int) = 0
  | [] => by simp [PyData.depthAll]
  | x :: r => by simp [PyData.depthAll, PyData.depth, ints_depth r]
theorem dRow_shaped (xs : List Int) : SeqAt.shaped (dRow xs) = true := by
  show ((dRow xs).canLay0 && decide ((dRow xs).depth ≤ 64)) = true
  rw [Bool.and_eq_true]
  refine ⟨by simp only [dRow, PyData.canLay0]; exact ints_lay xs, decide_eq_true ?_⟩
  simp only [dRow, PyData.depth, ints_depth]; decide
theorem lRow_shaped (xs : List Int) : SeqAt.shaped (.list (xs.map .int)) = true := by
  show (PyData.canLay0 (.list (xs.map .int)) && decide (PyData.depth (.list (xs.map .int)) ≤ 64)) = true
  rw [Bool.and_eq_true]
  refine ⟨by simp only [PyData.canLay0]; exact ints_lay xs, decide_eq_true ?_⟩
  simp only [PyData.depth, ints_depth]; decide
theorem ints_eqv : ∀ xs ys : List Int, PyData.eqvAll (xs.map .int) (ys.map .int) = decide (xs = ys)
  | [], [] => by simp [PyData.eqvAll]
  | [], y :: ys => by simp [PyData.eqvAll]
  | x :: xs, [] => by simp [PyData.eqvAll]
  | x :: xs, y :: ys => by
    simp only [List.map_cons, PyData.eqvAll, PyData.eqv]
    rw [ints_eqv xs ys]
    by_cases h : x = y
    · subst h; simp
    · have q : (x == y) = false := beq_eq_false_iff_ne.mpr h
      rw [q, Bool.false_and, decide_eq_false (fun e => h (List.cons.inj e).1)]
theorem dRow_eqv (xs ys : List Int) : PyData.eqv (dRow xs) (dRow ys) = decide (xs = ys) := by
  simp only [dRow, PyData.eqv]; exact ints_eqv xs ys
theorem lRow_eqv (xs ys : List Int) : PyData.eqv (.list (xs.map .int)) (.list (ys.map .int)) = decide (xs = ys) := by
  simp only [PyData.eqv]; exact ints_eqv xs ys
theorem dp_ints {K : PySem.W.Frag} {H : Hp} : ∀ xs : List Int, DpAll K H (xs.map V.int) (xs.map .int)
  | [] => .nil
  | x :: r => .cons (.int x) (dp_ints r)
theorem dp_row {K : PySem.W.Frag} {H : Hp} {a : Addr} {xs : List Int} (h : SqT K H a (xs.map V.int)) : Dp K H (.ref a) (dRow xs) := .tup h (dp_ints xs)
theorem dp_lst {K : PySem.W.Frag} {H : Hp} {a : Addr} {xs : List Int} (h : SqL K H a (xs.map V.int)) : Dp K H (.ref a) (.list (xs.map .int)) := .lst h (dp_ints xs)

/-! ### pairs -/
def dPr (p : BM.Pr) : PyData := dRow [p.1, p.2]
theorem dPr_eqv (p q : BM.Pr) : PyData.eqv (dPr p) (dPr q) = decide (p = q) := by
  obtain ⟨a, b⟩ := p
  obtain ⟨c, d⟩ := q
  rw [dPr, dPr, dRow_eqv]
  by_cases h : ((a, b) : BM.Pr) = (c, d)
  · cases h; simp
  · rw [decide_eq_false h]
    refine decide_eq_false fun e => h ?_
    have e1 := (List.cons.inj e).1
    have e2 := (List.cons.inj (List.cons.inj e).2).1
    exact Prod.ext e1 e2
theorem prs_lay : ∀ P : List BM.Pr, PyData.canLayAll0 (P.map dPr) = true
  | [] => by simp [PyData.canLayAll0]
  | p :: r => by
    have := ints_lay [p.1, p.2]
    simp only [List.map_cons, PyData.canLayAll0, prs_lay r, Bool.and_true]
    show PyData.canLay0 (dRow [p.1, p.2]) = true
    simp only [dRow, PyData.canLay0]; exact this
theorem prs_depth : ∀ P : List BM.Pr, PyData.depthAll (P.map dPr) ≤ 1
  | [] => by simp [PyData.depthAll]
  | p :: r => by
    have h1 := prs_depth r
    have h2 : (dPr p).depth = 1 := by
      show (dRow [p.1, p.2]).depth = 1
      simp only [dRow, PyData.depth, ints_depth]
    simp only [List.map_cons, PyData.depthAll]
    omega
theorem tPrs_shaped (P : List BM.Pr) : SeqAt.shaped (.tuple (P.map dPr)) = true := by
  have h1 := prs_depth P
  show (PyData.canLay0 (.tuple (P.map dPr)) && decide (PyData.depth (.tuple (P.map dPr)) ≤ 64)) = true
  rw [Bool.and_eq_true]
  refine ⟨by simp only [PyData.canLay0]; exact prs_lay P, decide_eq_true ?_⟩
  simp only [PyData.depth]; omega
theorem lPrs_shaped (P : List BM.Pr) : SeqAt.shaped (.list (P.map dPr)) = true := by
  have h1 := prs_depth P
  show (PyData.canLay0 (.list (P.map dPr)) && decide (PyData.depth (.list (P.map dPr)) ≤ 64)) = true
  rw [Bool.and_eq_true]
  refine ⟨by simp only [PyData.canLay0]; exact prs_lay P, decide_eq_true ?_⟩
  simp only [PyData.depth]; omega
theorem dPr_shaped (p : BM.Pr) : SeqAt.shaped (dPr p) = true := dRow_shaped _
theorem prs_any (P : List BM.Pr) (p : BM.Pr) : (P.map dPr).any (fun z => PyData.eqv z (dPr p)) = decide (p ∈ P) := by
  induction P with
  | nil => simp
  | cons q r ih =>
    rw [List.map_cons, List.any_cons, ih, dPr_eqv]
    by_cases h : q = p
    · subst h; simp
    · rw [decide_eq_false h, Bool.false_or]
      by_cases h2 : p ∈ r
      · rw [decide_eq_true h2, decide_eq_true (List.mem_cons_of_mem _ h2)]
      · rw [decide_eq_false h2, decide_eq_false]
        intro h3
        rcases List.mem_cons.mp h3 with e | e
        · exact h e.symm
        · exact h2 e
theorem dp_prs {K : PySem.W.Frag} {H : Hp} : ∀ (as : List Addr) (P : List BM.Pr), as.length = P.length → (∀ (i : Nat) (a : Addr) (p : BM.Pr), as[i]? = some a → P[i]? = some p → SqT K H a [V.int p.1, V.int p.2]) → DpAll K H (as.map V.ref) (P.map dPr)
  | [], [], _, _ => .nil
  | a :: as, p :: P, hl, h => .cons (dp_row (xs := [p.1, p.2]) (h 0 a p rfl rfl)) (dp_prs as P (by simpa using hl) fun i b q x y => h (i + 1) b q (by simpa using x) (by simpa using y))
  | [], _ :: _, hl, _ => by simp at hl
  | _ :: _, [], hl, _ => by simp at hl
end BX

set_option Elab.async false
set_option linter.all false
set_option maxRecDepth 100000
set_option maxHeartbeats 2000000
/-! Comprehensions of two walks. -/
namespace BX
open PySem PySem.Spec PyProof.Rows L2
theorem lc2_it {J : It} {n : Nat} {G : Hp → Prop} {Y : Nat → Hp → V → Hp → Prop} (w : Walk J n G Y) {g : TG} {tt : TT} {wi1 : TI} {g1 : TG} {tt1 : TT} {te : TE} {vs vs1 : List Nat} {σ : L2.St} {H1 : Hp} {D : Addr} {Qd : Hp → Prop} (Pv : Nat → Hp → Prop) (h0 : Pv 0 (upd H1 D (.lst []))) (hG : ∀ i H, i ≤ n → Pv i H → G H)
    (hs : ∀ i x H H', i < n → Pv i H → Y i H x H' → g x (wipe σ vs) H' fun σ2 H2 => wipe σ2 vs = wipe σ vs ∧ tt σ2 H2 fun b H3 =>
      if b = true then wi1 σ2 H3 fun J1 H4 => ∃ W1 : Nat → Nat → Hp → Prop, (∃ m, W1 0 m H4) ∧ ∀ j k H, W1 j k H →
        (J1.stop j H ∧ Pv (i + 1) H) ∨ (J1.go j H ∧ ∃ Nx1 : Hp → Prop, (∀ H', Nx1 H' → ∃ k', k' < k ∧ W1 (j + 1) k' H') ∧ ∀ x H', J1.yld j H x H' → g1 x (wipe σ2 vs1) H' fun σ3 H5 => wipe σ3 vs1 = wipe σ2 vs1 ∧ tt1 σ3 H5 fun b H6 =>
          if b = true then te σ3 H6 fun y H7 => ∃ acc, H7 D = some (.lst acc) ∧ acc.length < sizeLine ∧ Nx1 (upd H7 D (.lst (acc ++ [y]))) else Nx1 H6) else Pv (i + 1) H3) (hd : ∀ H, Pv n H → Qd H) :
    ∃ W : Nat → Nat → Hp → Prop, (∃ m, W 0 m (upd H1 D (.lst []))) ∧ ∀ i m H, W i m H →
      (J.stop i H ∧ Qd H) ∨ (J.go i H ∧ ∃ Nx : Hp → Prop, (∀ H', Nx H' → ∃ m', m' < m ∧ W (i + 1) m' H') ∧ ∀ x H', J.yld i H x H' → g x (wipe σ vs) H' fun σ2 H2 => wipe σ2 vs = wipe σ vs ∧ tt σ2 H2 fun b H3 =>
        if b = true then wi1 σ2 H3 fun J1 H4 => ∃ W1 : Nat → Nat → Hp → Prop, (∃ m, W1 0 m H4) ∧ ∀ j k H, W1 j k H →
          (J1.stop j H ∧ Nx H) ∨ (J1.go j H ∧ ∃ Nx1 : Hp → Prop, (∀ H', Nx1 H' → ∃ k', k' < k ∧ W1 (j + 1) k' H') ∧ ∀ x H', J1.yld j H x H' → g1 x (wipe σ2 vs1) H' fun σ3 H5 => wipe σ3 vs1 = wipe σ2 vs1 ∧ tt1 σ3 H5 fun b H6 =>
            if b = true then te σ3 H6 fun y H7 => ∃ acc, H7 D = some (.lst acc) ∧ acc.length < sizeLine ∧ Nx1 (upd H7 D (.lst (acc ++ [y]))) else Nx1 H6) else Nx H3) := by
  refine ⟨fun i m H => m = n - i ∧ i ≤ n ∧ Pv i H, ⟨n, by simp, Nat.zero_le _, h0⟩, ?_⟩
  rintro i m H ⟨rfl, hi, p⟩
  have q := hG i H hi p
  by_cases hlt : i < n
  · exact .inr ⟨w.goes i H hlt q, Pv (i + 1), fun H' p' => ⟨n - (i + 1), by omega, rfl, hlt, p'⟩, fun x H' y => hs i x H H' hlt p (w.yields i H x H' hlt q y)⟩
  · have e : i = n := by omega
    subst e
    exact .inl ⟨w.stops H q, hd H p⟩
/-- the walk within -/
theorem lc1_it {J : It} {n : Nat} {G : Hp → Prop} {Y : Nat → Hp → V → Hp → Prop} (w : Walk J n G Y) {g1 : TG} {tt1 : TT} {te : TE} {vs1 : List Nat} {σ2 : L2.St} {H4 : Hp} {D : Addr} {Qd : Hp → Prop} (Pv : Nat → Hp → Prop) (h0 : Pv 0 H4) (hG : ∀ i H, i ≤ n → Pv i H → G H)
    (hs : ∀ j x H H', j < n → Pv j H → Y j H x H' → g1 x (wipe σ2 vs1) H' fun σ3 H5 => wipe σ3 vs1 = wipe σ2 vs1 ∧ tt1 σ3 H5 fun b H6 =>
      if b = true then te σ3 H6 fun y H7 => ∃ acc, H7 D = some (.lst acc) ∧ acc.length < sizeLine ∧ Pv (j + 1) (upd H7 D (.lst (acc ++ [y]))) else Pv (j + 1) H6) (hd : ∀ H, Pv n H → Qd H) :
    ∃ W1 : Nat → Nat → Hp → Prop, (∃ m, W1 0 m H4) ∧ ∀ j k H, W1 j k H →
      (J.stop j H ∧ Qd H) ∨ (J.go j H ∧ ∃ Nx1 : Hp → Prop, (∀ H', Nx1 H' → ∃ k', k' < k ∧ W1 (j + 1) k' H') ∧ ∀ x H', J.yld j H x H' → g1 x (wipe σ2 vs1) H' fun σ3 H5 => wipe σ3 vs1 = wipe σ2 vs1 ∧ tt1 σ3 H5 fun b H6 =>
        if b = true then te σ3 H6 fun y H7 => ∃ acc, H7 D = some (.lst acc) ∧ acc.length < sizeLine ∧ Nx1 (upd H7 D (.lst (acc ++ [y]))) else Nx1 H6) := by
  refine ⟨fun i m H => m = n - i ∧ i ≤ n ∧ Pv i H, ⟨n, by simp, Nat.zero_le _, h0⟩, ?_⟩
  rintro i m H ⟨rfl, hi, p⟩
  have q := hG i H hi p
  by_cases hlt : i < n
  · exact .inr ⟨w.goes i H hlt q, Pv (i + 1), fun H' p' => ⟨n - (i + 1), by omega, rfl, hlt, p'⟩, fun x H' y => hs i x H H' hlt p (w.yields i H x H' hlt q y)⟩
  · have e : i = n := by omega
    subst e
    exact .inl ⟨w.stops H q, hd H p⟩
/-- without tests -/
theorem lc2_itA {J : It} {n : Nat} {G : Hp → Prop} {Y : Nat → Hp → V → Hp → Prop} (w : Walk J n G Y) {g : TG} {wi1 : TI} {g1 : TG} {te : TE} {vs vs1 : List Nat} {σ : L2.St} {H1 : Hp} {D : Addr} {Qd : Hp → Prop} (Pv : Nat → Hp → Prop) (h0 : Pv 0 (upd H1 D (.lst []))) (hG : ∀ i H, i ≤ n → Pv i H → G H)
    (hs : ∀ i x H H', i < n → Pv i H → Y i H x H' → g x (wipe σ vs) H' fun σ2 H2 => wipe σ2 vs = wipe σ vs ∧
      wi1 σ2 H2 fun J1 H4 => ∃ W1 : Nat → Nat → Hp → Prop, (∃ m, W1 0 m H4) ∧ ∀ j k H, W1 j k H →
        (J1.stop j H ∧ Pv (i + 1) H) ∨ (J1.go j H ∧ ∃ Nx1 : Hp → Prop, (∀ H', Nx1 H' → ∃ k', k' < k ∧ W1 (j + 1) k' H') ∧ ∀ x H', J1.yld j H x H' → g1 x (wipe σ2 vs1) H' fun σ3 H5 => wipe σ3 vs1 = wipe σ2 vs1 ∧ tYes σ3 H5 fun b H6 =>
          if b = true then te σ3 H6 fun y H7 => ∃ acc, H7 D = some (.lst acc) ∧ acc.length < sizeLine ∧ Nx1 (upd H7 D (.lst (acc ++ [y]))) else Nx1 H6)) (hd : ∀ H, Pv n H → Qd H) :
    ∃ W : Nat → Nat → Hp → Prop, (∃ m, W 0 m (upd H1 D (.lst []))) ∧ ∀ i m H, W i m H →
      (J.stop i H ∧ Qd H) ∨ (J.go i H ∧ ∃ Nx : Hp → Prop, (∀ H', Nx H' → ∃ m', m' < m ∧ W (i + 1) m' H') ∧ ∀ x H', J.yld i H x H' → g x (wipe σ vs) H' fun σ2 H2 => wipe σ2 vs = wipe σ vs ∧ tYes σ2 H2 fun b H3 =>
        if b = true then wi1 σ2 H3 fun J1 H4 => ∃ W1 : Nat → Nat → Hp → Prop, (∃ m, W1 0 m H4) ∧ ∀ j k H, W1 j k H →
          (J1.stop j H ∧ Nx H) ∨ (J1.go j H ∧ ∃ Nx1 : Hp → Prop, (∀ H', Nx1 H' → ∃ k', k' < k ∧ W1 (j + 1) k' H') ∧ ∀ x H', J1.yld j H x H' → g1 x (wipe σ2 vs1) H' fun σ3 H5 => wipe σ3 vs1 = wipe σ2 vs1 ∧ tYes σ3 H5 fun b H6 =>
            if b = true then te σ3 H6 fun y H7 => ∃ acc, H7 D = some (.lst acc) ∧ acc.length < sizeLine ∧ Nx1 (upd H7 D (.lst (acc ++ [y]))) else Nx1 H6) else Nx H3) :=
  lc2_it w (tt := tYes) Pv h0 hG hs hd
theorem lc1_itA {J : It} {n : Nat} {G : Hp → Prop} {Y : Nat → Hp → V → Hp → Prop} (w : Walk J n G Y) {g1 : TG} {te : TE} {vs1 : List Nat} {σ2 : L2.St} {H4 : Hp} {D : Addr} {Qd : Hp → Prop} (Pv : Nat → Hp → Prop) (h0 : Pv 0 H4) (hG : ∀ i H, i ≤ n → Pv i H → G H)
    (hs : ∀ j x H H', j < n → Pv j H → Y j H x H' → g1 x (wipe σ2 vs1) H' fun σ3 H5 => wipe σ3 vs1 = wipe σ2 vs1 ∧
      te σ3 H5 fun y H7 => ∃ acc, H7 D = some (.lst acc) ∧ acc.length < sizeLine ∧ Pv (j + 1) (upd H7 D (.lst (acc ++ [y])))) (hd : ∀ H, Pv n H → Qd H) :
    ∃ W1 : Nat → Nat → Hp → Prop, (∃ m, W1 0 m H4) ∧ ∀ j k H, W1 j k H →
      (J.stop j H ∧ Qd H) ∨ (J.go j H ∧ ∃ Nx1 : Hp → Prop, (∀ H', Nx1 H' → ∃ k', k' < k ∧ W1 (j + 1) k' H') ∧ ∀ x H', J.yld j H x H' → g1 x (wipe σ2 vs1) H' fun σ3 H5 => wipe σ3 vs1 = wipe σ2 vs1 ∧ tYes σ3 H5 fun b H6 =>
        if b = true then te σ3 H6 fun y H7 => ∃ acc, H7 D = some (.lst acc) ∧ acc.length < sizeLine ∧ Nx1 (upd H7 D (.lst (acc ++ [y]))) else Nx1 H6) :=
  lc1_it w (tt1 := tYes) Pv h0 hG hs hd
/-- a comprehension without tests over a walk -/
theorem lc_itA {J : It} {n : Nat} {G : Hp → Prop} {Y : Nat → Hp → V → Hp → Prop} (w : Walk J n G Y) {g : TG} {te : TE} {vs : List Nat} {σ : L2.St} {H1 : Hp} {D : Addr} {Qd : Hp → Prop} (Pv : Nat → Hp → Prop) (h0 : Pv 0 (upd H1 D (.lst []))) (hG : ∀ i H, i ≤ n → Pv i H → G H)
    (hs : ∀ i x H H', i < n → Pv i H → Y i H x H' → g x (wipe σ vs) H' fun σ2 H2 => wipe σ2 vs = wipe σ vs ∧
      te σ2 H2 fun y H4 => ∃ acc, H4 D = some (.lst acc) ∧ acc.length < sizeLine ∧ Pv (i + 1) (upd H4 D (.lst (acc ++ [y])))) (hd : ∀ H, Pv n H → Qd H) :
    ∃ W : Nat → Nat → Hp → Prop, (∃ m, W 0 m (upd H1 D (.lst []))) ∧ ∀ i m H, W i m H →
      (J.stop i H ∧ Qd H) ∨ (J.go i H ∧ ∃ Nx : Hp → Prop, (∀ H', Nx H' → ∃ m', m' < m ∧ W (i + 1) m' H') ∧ ∀ x H', J.yld i H x H' → g x (wipe σ vs) H' fun σ2 H2 => wipe σ2 vs = wipe σ vs ∧ tYes σ2 H2 fun b H3 =>
        if b = true then te σ2 H3 fun y H4 => ∃ acc, H4 D = some (.lst acc) ∧ acc.length < sizeLine ∧ Nx (upd H4 D (.lst (acc ++ [y]))) else Nx H3) :=
  lc_it w (tt := tYes) Pv h0 hG hs hd
end BX

set_option linter.all false
namespace BM
theorem cum_snoc_le (x : List Int) (a : Int) {k : Nat} (h : k ≤ x.length) : cum (x ++ [a]) k = cum x k := by
  unfold cum; rw [List.take_append_of_le_length h]
/-- where the j-th stands -/
theorem ticks_at {x : List Int} (hx : ∀ a ∈ x, 0 ≤ a) (j : Nat) (hj : j < (ticksL x).length) : ∃ k : Nat, k < x.length ∧ (ticksL x)[j] = (k : Int) ∧ cum x k ≤ j ∧ (j : Int) < cum x (k + 1) := by
  have main : ∀ ys : List Int, (∀ a ∈ ys.reverse, 0 ≤ a) → ∀ j (hj : j < (ticksL ys.reverse).length), ∃ k : Nat, k < ys.reverse.length ∧ (ticksL ys.reverse)[j] = (k : Int) ∧ cum ys.reverse k ≤ j ∧ (j : Int) < cum ys.reverse (k + 1) := by
    intro ys
    induction ys with
    | nil => intro _ j hj; simp [ticksL, ticksFrom] at hj
    | cons b r ih =>
      intro h j hj
      rw [List.reverse_cons] at h
      have h1 : ∀ a ∈ r.reverse, 0 ≤ a := fun a ha => h a (List.mem_append_left _ ha)
      have hb : 0 ≤ b := h b (by simp)
      have hl : ((ticksL r.reverse).length : Int) = r.reverse.sum := ticks_len h1 0
      have e : ticksL (b :: r).reverse = ticksL r.reverse ++ List.replicate b.toNat ((r.reverse.length : Nat) : Int) := by rw [List.reverse_cons]; exact ticks_snoc _ _
      by_cases hjr : j < (ticksL r.reverse).length
      · obtain ⟨k, k1, k2, k3, k4⟩ := ih h1 j hjr
        refine ⟨k, by rw [List.reverse_cons, List.length_append]; omega, ?_, ?_, ?_⟩
        · have : (ticksL (b :: r).reverse)[j]? = some (k : Int) := by rw [e, List.getElem?_append_left hjr, List.getElem?_eq_getElem hjr, k2]
          rw [List.getElem?_eq_getElem hj] at this
          exact Option.some.inj this
        · rw [List.reverse_cons, cum_snoc_le _ _ (by omega)]; exact k3
        · rw [List.reverse_cons, cum_snoc_le _ _ (by omega)]; exact k4
      · have hj2 : j < (ticksL r.reverse).length + b.toNat := by rw [e, List.length_append, List.length_replicate] at hj; exact hj
        refine ⟨r.reverse.length, by rw [List.reverse_cons, List.length_append]; simp, ?_, ?_, ?_⟩
        · have : (ticksL (b :: r).reverse)[j]? = some ((r.reverse.length : Nat) : Int) := by
            rw [e, List.getElem?_append_right (by omega), List.getElem?_replicate, if_pos (by omega)]
          rw [List.getElem?_eq_getElem hj] at this
          exact Option.some.inj this
        · rw [List.reverse_cons, cum_snoc_le _ _ (Nat.le_refl _), cum_full (Nat.le_refl _)]; omega
        · rw [List.reverse_cons, cum_full (by simp), sum_append]
          have : ([b] : List Int).sum = b := by simp
          omega
  have := main x.reverse (by rw [List.reverse_reverse]; exact hx) j (by rw [List.reverse_reverse]; exact hj)
  simpa only [List.reverse_reverse] using this
theorem ticks_mono {x : List Int} (hx : ∀ a ∈ x, 0 ≤ a) {i j : Nat} (hij : i ≤ j) (hj : j < (ticksL x).length) : (ticksL x)[i]'(by omega) ≤ (ticksL x)[j] := by
  obtain ⟨k, k1, k2, k3, k4⟩ := ticks_at hx i (by omega)
  obtain ⟨l, l1, l2, l3, l4⟩ := ticks_at hx j hj
  rw [k2, l2]
  by_cases h : k ≤ l
  · omega
  · have := cum_mono hx (show l + 1 ≤ k by omega)
    omega
section
variable {P : List Pr} {c : List Int} {a : Int}
/-- a row that goes on: what passed of the old requests -/
theorem R_more (h : Good P) (hr : RowOk (c ++ [a])) (k : Nat) : min (R P (c ++ [a]) k) c.sum = R P c k := by
  have hc : RowOk c := by
    have h2 := hr.2
    have h0 := hr.1 a (by simp)
    rw [sum_append] at h2
    have e : ([a] : List Int).sum = a := by simp
    exact ⟨fun b hb => hr.1 b (List.mem_append_left _ hb), by omega⟩
  have ha := hr.1 a (by simp)
  have hcum : ∀ k, cum c k ≤ cum (c ++ [a]) k := fun k => by
    by_cases hk : k ≤ c.length
    · rw [cum_snoc_le _ _ hk]; exact Int.le_refl _
    · rw [cum_full (by omega), cum_full (n := k) (x := c ++ [a]) (by rw [List.length_append]; simp; omega), sum_append]
      have e : ([a] : List Int).sum = a := by simp
      omega
  have hcumT : ∀ k, min (cum (c ++ [a]) k) c.sum ≤ cum c k := fun k => by
    by_cases hk : k ≤ c.length
    · rw [cum_snoc_le _ _ hk]; omega
    · rw [cum_full (x := c) (by omega)]; omega
  have g := h.gate c
  have g' := h.gate (c ++ [a])
  have lo : R P c k ≤ R P (c ++ [a]) k := g.mono_in h.g g' (fun p hp => hp) hcum k
  have lt : R P c k ≤ c.sum := Int.le_trans (R_le h c k) (cum_le_sum hc.1 k)
  have hi : min (R P (c ++ [a]) k) c.sum ≤ R P c k := by
    refine g.best h.g (B := fun k => min (R P (c ++ [a]) k) c.sum) ?_ (fun k => ?_) (fun k p hp => ?_) k
    · show min (R P (c ++ [a]) 0) c.sum ≤ 0
      rw [R_zero]; omega
    · have b1 := R_le h (c ++ [a]) (k + 1)
      have b2 := hcumT (k + 1)
      show min (R P (c ++ [a]) (k + 1)) c.sum ≤ cum c (k + 1)
      omega
    · have b1 := g'.lim k p hp
      have b2 := (h.g p hp).2.2.1
      show min (R P (c ++ [a]) (k + 1)) c.sum ≤ p.2 + min (R P (c ++ [a]) (k + 1 - p.1.toNat)) c.sum
      omega
  omega
theorem row_of_snoc (hr : RowOk (c ++ [a])) : RowOk c ∧ 0 ≤ a := by
  have h2 := hr.2
  have h0 := hr.1 a (by simp)
  rw [sum_append] at h2
  have e : ([a] : List Int).sum = a := by simp
  exact ⟨⟨fun b hb => hr.1 b (List.mem_append_left _ hb), by omega⟩, h0⟩
/-- the old requests wait as long as before -/
theorem waits_old (h : Good P) (hr : RowOk (c ++ [a])) (j : Nat) (hj : j < (waitsL P c).length) : (waitsL P (c ++ [a]))[j]? = (waitsL P c)[j]? := by
  obtain ⟨hc, ha⟩ := row_of_snoc hr
  have l1 := waits_len h hc
  have t1 : ((ticksL c).length : Int) = c.sum := ticks_len hc.1 0
  have t2 : ((ticksL (c ++ [a])).length : Int) = (c ++ [a]).sum := ticks_len hr.1 0
  have t3 := ticks_same h hc
  have t4 := ticks_same h hr
  have s1 : (c ++ [a]).sum = c.sum + a := by rw [sum_append]; simp
  have hj1 : j < (ticksL c).length := by omega
  have hj2 : j < (ticksL (c ++ [a])).length := by omega
  have hj3 : j < (ticksL (passedL P c)).length := by omega
  have hj4 : j < (ticksL (passedL P (c ++ [a]))).length := by omega
  unfold waitsL
  rw [List.getElem?_zipWith, List.getElem?_zipWith, List.getElem?_eq_getElem hj1, List.getElem?_eq_getElem hj2, List.getElem?_eq_getElem hj3, List.getElem?_eq_getElem hj4]
  have e1 : (ticksL (c ++ [a]))[j] = (ticksL c)[j] := by
    have : (ticksL (c ++ [a]))[j]? = (ticksL c)[j]? := by rw [ticks_snoc, List.getElem?_append_left hj1]
    rw [List.getElem?_eq_getElem hj1, List.getElem?_eq_getElem hj2] at this
    exact Option.some.inj this
  have e2 : (ticksL (passedL P (c ++ [a])))[j] = (ticksL (passedL P c))[j] := by
    obtain ⟨k, k1, k2, k3, k4⟩ := ticks_at (passed_ok h hc).1 j hj3
    obtain ⟨l, m1, m2, m3, m4⟩ := ticks_at (passed_ok h hr).1 j hj4
    rw [k2, m2]
    rw [cum_passed h hc] at k3 k4
    rw [cum_passed h hr] at m3 m4
    have r1 := R_more h hr k
    have r2 := R_more h hr (k + 1)
    have r3 := R_more h hr l
    have r4 := R_more h hr (l + 1)
    have hjs : (j : Int) < c.sum := by omega
    by_cases hkl : k < l
    · have := R_mono h hr (show k + 1 ≤ l by omega)
      omega
    · by_cases hlk : l < k
      · have := R_mono h hc (show l + 1 ≤ k by omega)
        omega
      · rw [show k = l by omega]
  rw [e1, e2]
theorem getLastD_eq {l : List Int} (h : l ≠ []) : l.getLastD 0 = l[l.length - 1]'(by have := List.length_pos_iff.mpr h; omega) := by
  rcases List.eq_nil_or_concat l with rfl | ⟨l0, x, rfl⟩
  · exact absurd rfl h
  · simp
/-- none of the new ones waits longer than the last -/
theorem waits_new (h : Good P) (hr : RowOk (c ++ [a])) (ha : 0 < a) : ∀ (j : Nat) (hj : j < (waitsL P (c ++ [a])).length), (waitsL P c).length ≤ j → (waitsL P (c ++ [a]))[j] ≤ (waitsL P (c ++ [a])).getLastD 0 := by
  obtain ⟨hc, _⟩ := row_of_snoc hr
  intro j hj hl
  have l1 := waits_len h hc
  have l2 := waits_len h hr
  have t1 : ((ticksL c).length : Int) = c.sum := ticks_len hc.1 0
  have t2 : ((ticksL (c ++ [a])).length : Int) = (c ++ [a]).sum := ticks_len hr.1 0
  have t4 := ticks_same h hr
  have s1 : (c ++ [a]).sum = c.sum + a := by rw [sum_append]; simp
  have hne : waitsL P (c ++ [a]) ≠ [] := fun z => by rw [z] at hj; simp at hj
  rw [getLastD_eq hne]
  have hb : ∀ i (hi : i < (waitsL P (c ++ [a])).length), (waitsL P c).length ≤ i → (waitsL P (c ++ [a]))[i] = (ticksL (passedL P (c ++ [a])))[i]'(by omega) - c.length := fun i hi hl => by
    have e1 : (ticksL (c ++ [a]))[i]'(by omega) = (c.length : Int) := by
      have : (ticksL (c ++ [a]))[i]? = some ((c.length : Nat) : Int) := by
        rw [ticks_snoc, List.getElem?_append_right (by omega), List.getElem?_replicate, if_pos (by omega)]
      rw [List.getElem?_eq_getElem (by omega)] at this
      exact Option.some.inj this
    have e2 : (waitsL P (c ++ [a]))[i]? = some ((ticksL (passedL P (c ++ [a])))[i]'(by omega) - c.length) := by
      unfold waitsL
      rw [List.getElem?_zipWith, List.getElem?_eq_getElem (show i < (ticksL (c ++ [a])).length by omega), List.getElem?_eq_getElem (show i < (ticksL (passedL P (c ++ [a]))).length by omega), e1]
    rw [List.getElem?_eq_getElem hi] at e2
    exact Option.some.inj e2
  rw [hb j hj hl, hb _ (by omega) (by omega)]
  have := ticks_mono (passed_ok h hr).1 (show j ≤ (waitsL P (c ++ [a])).length - 1 by omega) (by omega)
  omega
/-- nothing came: they wait as before -/
theorem waits_same (h : Good P) (hr : RowOk (c ++ [0])) : waitsL P (c ++ [0]) = waitsL P c := by
  obtain ⟨hc, _⟩ := row_of_snoc hr
  have l1 := waits_len h hc
  have l2 := waits_len h hr
  have s1 : (c ++ [(0 : Int)]).sum = c.sum := by rw [sum_append]; simp
  refine List.ext_getElem? fun j => ?_
  by_cases hj : j < (waitsL P c).length
  · exact waits_old h hr j hj
  · rw [List.getElem?_eq_none (by omega), List.getElem?_eq_none (by omega)]
/-- all waits within: iff the last one is -/
theorem waits_all (h : Good P) (hr : RowOk (c ++ [a])) {m : Int} (hold : ∀ x ∈ waitsL P c, x ≤ m) (hlast : 0 < a → (waitsL P (c ++ [a])).getLastD 0 ≤ m) : ∀ x ∈ waitsL P (c ++ [a]), x ≤ m := by
  obtain ⟨hc, ha⟩ := row_of_snoc hr
  by_cases h0 : a = 0
  · subst h0
    rw [waits_same h hr]; exact hold
  · have hp : 0 < a := by omega
    intro x hx
    obtain ⟨j, hj, rfl⟩ := List.mem_iff_getElem.mp hx
    by_cases hjo : j < (waitsL P c).length
    · have := waits_old h hr j hjo
      rw [List.getElem?_eq_getElem hj, List.getElem?_eq_getElem hjo] at this
      rw [Option.some.inj this]
      exact hold _ (List.getElem_mem hjo)
    · exact Int.le_trans (waits_new h hr hp j hj (by omega)) (hlast hp)
end
/-- how many wait behind the last tick -/
theorem waiting_last {P : List Pr} {xs : List Int} (h : Good P) (hx : RowOk xs) (hne : xs ≠ []) : (waitingL P xs)[xs.length - 1]? = some (xs.sum - R P xs xs.length) := by
  have hpos := List.length_pos_iff.mpr hne
  have hl := len_le_passed h hx
  unfold waitingL
  rw [List.getElem?_map, List.getElem?_range (by omega)]
  show some (cum xs (xs.length - 1 + 1) - cum (passedL P xs) (xs.length - 1 + 1)) = _
  rw [show xs.length - 1 + 1 = xs.length by omega, cum_passed h hx, cum_full (Nat.le_refl _)]
/-! ### the slowest limit -/
theorem slow_R : ∀ k, k ≤ 1200 → R [(20, 1)] [58, 0, 2] k = (((k + 19) / 20 : Nat) : Int) := by
  have hG : Good [(20, 1)] := ⟨fun p hp => by
    have e : p = (20, 1) := by simpa using hp
    subst e; decide, by simp⟩
  have g := hG.gate [58, 0, 2]
  have hcum : ∀ k, 1 ≤ k → 58 ≤ cum [58, 0, 2] k ∧ (3 ≤ k → cum [58, 0, 2] k = 60) := fun k hk => by
    have c1 : cum [58, 0, 2] 1 = 58 := by decide
    have c2 : cum [58, 0, 2] 2 = 58 := by decide
    refine ⟨?_, fun h3 => cum_full h3⟩
    by_cases h3 : 3 ≤ k
    · rw [cum_full (x := [58, 0, 2]) h3]; decide
    · by_cases h1 : k = 1
      · subst h1; omega
      · have : k = 2 := by omega
        subst this; omega
  intro k
  induction k using Nat.strongRecOn with
  | _ k ih =>
    intro hk
    cases k with
    | zero => rfl
    | succ k =>
      obtain ⟨h1, h2⟩ := hcum (k + 1) (by omega)
      have hl := g.lim k (20, 1) (by simp)
      have ih2 := ih (k + 1 - 20) (by omega) (by omega)
      have e20 : ((20 : Int), (1 : Int)).1.toNat = 20 := rfl
      have hb : R [(20, 1)] [58, 0, 2] (k + 1) ≤ 1 + R [(20, 1)] [58, 0, 2] (k + 1 - 20) := hl
      rw [ih2] at hb
      rcases g.hit k with e | ⟨p, hp, e⟩
      · by_cases h3 : 3 ≤ k + 1
        · rw [h2 h3] at e
          omega
        · omega
      · have ep : p = (20, 1) := by simpa using hp
        subst ep
        have e' : R [(20, 1)] [58, 0, 2] (k + 1) = 1 + R [(20, 1)] [58, 0, 2] (k + 1 - 20) := e
        rw [ih2] at e'
        omega
theorem slow_stop : stop [(20, 1)] [58, 0, 2] = 1181 := by
  have hG : Good [(20, 1)] := ⟨fun p hp => by
    have e : p = (20, 1) := by simpa using hp
    subst e; decide, by simp⟩
  have hr : RowOk [58, 0, 2] := ⟨by decide, by decide⟩
  refine (stop_unique hG hr (isEnd_iff.mpr ⟨by decide, ?_⟩) fun i hi => ?_).symm
  · rw [slow_R _ (by decide)]; decide
  · cases z : isEnd [(20, 1)] [58, 0, 2] i with
    | false => rfl
    | true =>
      have := (isEnd_iff.mp z).2
      rw [slow_R _ (by omega)] at this
      have e : ([58, 0, 2] : List Int).sum = 60 := by decide
      omega
end BM

set_option Elab.async false
set_option linter.all false
set_option maxRecDepth 100000
set_option maxHeartbeats 2000000
/-! Attributes as targets, an own __len__, a property that is set, max of a tuple. -/
namespace BX
open PySem PySem.Spec PyProof.Rows L2
/-! ### o.f as a target -/
def gFld (K : PySem.W.Frag) (ta : TE) (f : Str) : TG := fun y σ H Q => ta σ H fun x H2 => ∃ a C dx fs, x = .ref a ∧ H2 a = some (.ins C dx fs) ∧ Cls K C ∧ NoAttr K C f ∧ fs.length < 1000 ∧ Q σ (upd H2 a (.ins C dx (putF f y fs)))
theorem pg_fld {X : Cx} {o : Expr} {f : Str} {pos : Pos} {ta : TE} (ha : PE X o ta) : PG X (.Attribute o f pos) (gFld X.K ta f) := by
  refine ⟨fun pins s σ H y u Q I ry h => ?_⟩
  rw [arm_assign_Attribute]
  refine wpAny_bind (wpAny_holding (thn (ha.run pins s σ H _ I h) fun ov s2 ⟨x, H2, I2, rx, a, C, dx, fs, ex, ea, c, n, l, q2⟩ => ?_))
  subst ex
  obtain rfl : ov = Value.ref a := rx
  refine wpAny_bind (wpAny_standAt ?_)
  refine wpAny_bind (wpAny_holding (setattr_ok I2 ea c n l ry fun s3 I3 => ?_))
  exact wpAny_release ⟨σ, _, I3, q2⟩

/-! ### max of a tuple of ints -/
section
variable {prog : Program} {w : World} {A : Around} {E : Value → Shared → Prop} {s : Shared}
theorem max_rawT {l : Addr} {its : List Value} {ns : List Int} {Q : Value → Shared → Prop} (hh : A.handled = none) (hl : s.heap.IsTuple l its.toArray) (hi : IntsAre its ns) (hne : 0 < ns.length)
    (h : ∀ h' tk M t', (∀ b o, s.heap.get? b = some o → h'.get? b = some o) → M ∈ ns → (∀ a, a ∈ ns → a ≤ M) → Q (.int M t') { s with heap := h', toks := tk }) : wpAny (model prog w) A (call (.builtin "max") [.ref l]) Q E s := by
  obtain ⟨xs, e⟩ := hi.allInts.items
  have hn : numsOf (intItems xs).toList = ns := by rw [← e]; exact hi.numsOf
  rw [nums_intItems] at hn
  subst hn
  rw [e] at hl
  have hsz : 0 < xs.size := by simpa using hne
  have hll : l < s.heap.objs.size := by obtain ⟨o, ho, _⟩ := hl; exact Heap.lt_size ho
  refine call_max_walk (wpAny_pyIter_tuple hl ?_)
  refine ⟨_, _, _, _, _, _, _, rfl, Walks.tuple (A := A.in1) hh s.heap.objs.size l (Nat.ne_of_lt hll) (intItems xs), ⟨⟨_, Heap.get?_push_size _ rfl, rfl, rfl⟩, hl.at fun o e => Heap.get?_push_of_some _ e⟩, fun b hb => ?_, by simpa [intItems] using hsz, CmpOf.ints_gt (numAt xs) (fun _ _ => intItems_at), fun v h' tk hP hk => ?_⟩
  · rw [Heap.size_push]
    have e' : b = s.heap.objs.size ∨ b = l := by simpa using hb
    rcases e' with z | z
    · rw [z]; exact Nat.lt_succ_self _
    · rw [z]; exact Nat.lt_succ_of_lt hll
  · have hv : (intItems xs)[argBest (fun i j => decide (numAt xs i > numAt xs j)) (xs.size - 1)]? = some v := by simpa [intItems] using hP
    obtain ⟨t, rfl⟩ := intItems_at hv
    obtain ⟨h1, h2⟩ := argBest_gt (numAt xs) (xs.size - 1)
    refine h h' tk _ t (fun b o e => hk b o (by simpa using Nat.ne_of_lt (Heap.lt_size e)) (Heap.get?_push_of_some _ e)) ?_ fun a ha => ?_
    · rw [numAt_eq]; exact PySem.getD_mem (by rw [List.length_map, Array.length_toList]; omega)
    · obtain ⟨j, hj, rfl⟩ := mem_getD ha
      rw [List.length_map, Array.length_toList] at hj
      rw [← numAt_eq]; exact h2 j (by omega)
end
def rMaxT (K : PySem.W.Frag) : List V → Hp → VK → Prop := fun vs H Q => ∃ (a : Addr) (ns : List Int), vs = [V.ref a] ∧ SqT K H a (ns.map V.int) ∧ 0 < ns.length ∧ ∀ m, m ∈ ns → (∀ y, y ∈ ns → y ≤ m) → Q (.int m) H
theorem cr_maxT {X : Cx} (hc : X.calm = true) : CallR X (.builtin "max") (rMaxT X.K) := by
  intro pins s σ H vs us Q I r h
  obtain ⟨a, ns, rfl, hs, hne, q⟩ := h
  obtain ⟨its, rv, hl, _⟩ := I.tuple hs
  rw [Vals.ref1 r]
  exact max_rawT (I.ok.hd hc) hl rv.ints hne fun h' tk M t' hk h1 h2 => ⟨.int _, H, I.kept hk, ⟨_, rfl⟩, q M h1 h2⟩

/-! ### len(o) by an own __len__ -/
structure LenOwn (K : PySem.W.Frag) (C f : Addr) : Prop where
  at_ : PySem.W.findIn K (.ref C) "__len__" = some (some (.ref f))
  fn : PySem.W.isFn K (.ref f) = true
def rLenOwn (C : Addr) (sp : Sp) (E : XK) : List V → Hp → VK → Prop := fun vs H Q => ∃ a dx fs, vs = [.ref a] ∧ H a = some (.ins C dx fs) ∧ sp [.ref a] H (fun v H' => ∃ n : Int, v = .int n ∧ 0 ≤ n ∧ n < 2 ^ 63 ∧ Q (.int n) H') E
theorem cr_lenOwn {X : Cx} {CX : CXT} {k : Nat} {f C : Addr} {sp : Sp} {E : XK} (W : LenOwn X.K C f) (F : FnR X.prog X.w X.K X.mg X.base CX k f sp) (hr : Room (k + 1) X.A) (hx : Passes CX X.nox E) : CallR X (.builtin "len") (rLenOwn C sp E) := by
  intro pins s σ H vs us Q I r h
  obtain ⟨a, dx, fs, rfl, ha, q⟩ := h
  rw [Vals.ref1 r]
  obtain ⟨mA, O, _⟩ := ins_get I.hok ha
  obtain ⟨od, J, _⟩ := O.look
  obtain ⟨m, Fm⟩ := I.fr
  refine PySem.W.len_K Fm I.ok.mod.kin J W.at_ W.fn ?_
  refine wpAny_call (codeAny_mono (F X.A.in1 X.stack s H [.ref a] [.ref a] _ E hr.in1 I.env0.in1 (.cons rfl .nil) q) fun r s' hq => ?_)
  cases r with
  | error er => exact False.elim (hx pins σ H s er s' (I.wish _) hq)
  | ok fl =>
    cases fl with
    | ret u =>
      obtain ⟨v, H', I', rv, n, rfl, h0, h1, qv⟩ := I.after hq
      obtain ⟨t, rfl⟩ := rv
      exact ⟨⟨h0, h1⟩, .int n, H', I'.tok _, ⟨_, rfl⟩, qv⟩
    | next => exact False.elim hq
    | brk => exact False.elim hq
    | cont => exact False.elim hq

/-! ### o.f = e, f a property with a setter -/
structure PropSet (K : PySem.W.Frag) (C : Addr) (f : Str) (p g : Addr) : Prop where
  tk : PySem.W.takerIn K C f = some (some (.ref p))
  ty : PySem.W.typeIn K (.ref p) = some (.type "property")
  rc : ∃ a rest, PySem.W.recIn K p "property" = some (a :: .ref g :: rest)
def sPropSet (C : Addr) (sp : Sp) (E : XK) (ta tv : TE) : TS := fun D σ H => tv σ H fun y H1 => ta σ H1 fun x H2 => ∃ a dx fs, x = .ref a ∧ H2 a = some (.ins C dx fs) ∧ sp [.ref a, y] H2 (fun _ H' => D.nx σ H') E
theorem ps_propset {X : Cx} {CX : CXT} {k : Nat} {p g C : Addr} {sp : Sp} {E : XK} {o value : Expr} {f : Str} {pos pos' : Pos} {ta tv : TE} (c : Cls X.K C) (W : PropSet X.K C f p g) (F : FnR X.prog X.w X.K X.mg X.base CX k g sp) (hr : Room (k + 2) X.A) (hx : Passes CX X.nox E)
    (ha : PE X o ta) (hv : PE X value tv) (hs : swapsWith value (some (.Attribute o f pos')) pos.line X.env = pure false) : PS X (.Assign [.Attribute o f pos'] value pos) (sPropSet C sp E ta tv) := by
  refine ⟨fun pins s σ H D I h => ?_⟩
  refine plainObj_wpAny_Assign_Attribute (thn (hv.run pins s σ H _ I h) fun u s1 ⟨y, H1, I1, ry, q⟩ => thn (ha.run pins s1 σ H1 _ I1 q) fun ov s2 ⟨x, H2, I2, rx, a, dx, fs, ex, ea, q2⟩ => ?_) hs
  subst ex
  obtain rfl : ov = Value.ref a := rx
  obtain ⟨mA, O, _⟩ := ins_get I2.hok ea
  obtain ⟨od, J, _⟩ := O.look
  obtain ⟨a0, rest, hrec⟩ := W.rc
  have I3 := I2.tok (s2.toks + 1)
  refine PySem.W.set_plain I2.kIn J c.sa ?_
  refine PySem.W.osa_descr (s := { s2 with toks := s2.toks + 1 }) PySem.W.KF.slot_pset I2.kIn J c.po W.tk W.ty ?_
  refine PySem.W.prop_set (s := { s2 with toks := s2.toks + 1 }) I2.kIn hrec ?_
  refine codeAny_mono (F X.A.in1.in1 X.stack { s2 with toks := s2.toks + 1 } H2 [.ref a, u] [.ref a, y] _ E hr.in1.in1 I3.env0.in1.in1 (.cons rfl (.cons ry .nil)) q2) fun r s' hq => ?_
  cases r with
  | error er => exact False.elim (hx pins σ H2 { s2 with toks := s2.toks + 1 } er s' (I3.wish _) hq)
  | ok fl =>
    cases fl with
    | ret u =>
      obtain ⟨v, H', I', rv, qv⟩ := I3.after hq
      exact ⟨σ, H', I', qv⟩
    | next => exact False.elim hq
    | brk => exact False.elim hq
    | cont => exact False.elim hq
end BX

set_option Elab.async false
set_option linter.all false
set_option maxRecDepth 100000
set_option maxHeartbeats 2000000
/-! with over an own class; super() in a def's own statements. -/
namespace BX
open PySem PySem.Spec PyProof.Rows L2
/-! ### with o: body (no exception in the body) -/
structure WithOwn (K : PySem.W.Frag) (C fe fx : Addr) : Prop where
  e : PySem.W.findIn K (.ref C) "__enter__" = some (some (.ref fe))
  ef : PySem.W.isFn K (.ref fe) = true
  x : PySem.W.findIn K (.ref C) "__exit__" = some (some (.ref fx))
  xf : PySem.W.isFn K (.ref fx) = true
def tWith (C : Addr) (spe spx : Sp) (E : XK) (ta : TE) (tb : TS) : TS := fun D σ H => ta σ H fun x H1 => ∃ a dx fs, x = .ref a ∧ H1 a = some (.ins C dx fs) ∧
  spe [.ref a] H1 (fun _ H2 => tb { nx := fun σ3 H3 => spx [.ref a, .non, .non, .non] H3 (fun _ H4 => D.nx σ3 H4) E, rt := fun _ _ => False } σ H2) E
theorem ps_with {X : Cx} {CX : CXT} {k : Nat} {C fe fx : Addr} {spe spx : Sp} {E : XK} {ctx : Expr} {body : List Stmt} {pos : Pos} {ta : TE} {tb : TS} (W : WithOwn X.K C fe fx) (FE : FnR X.prog X.w X.K X.mg X.base CX k fe spe) (FX : FnR X.prog X.w X.K X.mg X.base CX k fx spx) (hr : Room k X.A) (hx : Passes CX X E)
    (ha : PE X ctx ta) (hb : PSs X.nox body tb) : PS X (.With [⟨ctx, none⟩] body pos) (tWith C spe spx E ta tb) := by
  refine ⟨fun pins s σ H D I h => ?_⟩
  refine PySem.W.kw_exec0 (thn (ha.run pins s σ H _ I h) fun u s1 ⟨x, H1, I1, rx, a, dx, fs, ex, ea, q⟩ => ?_)
  subst ex
  obtain rfl : u = Value.ref a := rx
  obtain ⟨mA, O, _⟩ := ins_get I1.hok ea
  obtain ⟨od, J, _⟩ := O.look
  obtain ⟨m, Fm⟩ := I1.fr
  refine PySem.W.kw_in0 Fm I1.ok.mod.kin J W.e W.ef W.x W.xf ?_
  have z1 : wpAny (model X.prog X.w) X.A (call (.ref fe) [.ref a]) (EP X pins σ _) X.xe s1 := wpAny_call (run_fnR (us := [.ref a]) (vs := [.ref a]) FE hr hx I1 (.cons rfl .nil) q)
  refine thn z1 fun _ s2 ⟨v2, H2, I2, r2, q2⟩ => ?_
  refine wpAny_mono (hb.run pins s2 σ H2 _ (I2.wish _) q2) (fun f s3 hs => ?_) fun e s3 z => z
  cases f with
  | next =>
    obtain ⟨σ3, H3, I3, q3⟩ := hs
    have I3' : Inv X pins σ3 H3 s3 := I3.wish X.xe
    have z3 : wpAny (model X.prog X.w) X.A (call (.ref fx) [.ref a, .none, .none, .none]) (EP X pins σ3 _) X.xe s3 := wpAny_call (run_fnR (us := [.ref a, .none, .none, .none]) (vs := [.ref a, .non, .non, .non]) FX hr hx I3' (.cons rfl (.cons rfl (.cons rfl (.cons rfl .nil)))) q3)
    exact thn z3 fun _ s4 ⟨v4, H4, I4, r4, q4⟩ => ⟨σ3, H4, I4, q4⟩
  | cont => obtain ⟨_, _, _, q⟩ := hs; exact q.elim
  | brk => obtain ⟨_, _, _, q⟩ := hs; exact q.elim
  | ret v => obtain ⟨_, _, _, _, _, q⟩ := hs; exact q.elim
end BX

set_option Elab.async false
set_option linter.all false
set_option maxRecDepth 100000
set_option maxHeartbeats 2000000
/-! super() in a def's own statements. -/
namespace BX
open PySem PySem.Spec PyProof.Rows L2
/-! ### statements of a known activation -/
structure PSA (X : Cx) (c : Code) (st : Stmt) (t : TS) : Prop where
  run : ∀ (pins : List (Addr × Obj)) (s : Shared) (σ : L2.St) (H : Hp) (D : Ends), Inv X pins σ H s → t D σ H → _root_.PySem.wpAt (model X.prog X.w) X.A c (exec st X.env) (SP X pins D) X.xe s
structure PSAs (X : Cx) (c : Code) (st : List Stmt) (t : TS) : Prop where
  run : ∀ (pins : List (Addr × Obj)) (s : Shared) (σ : L2.St) (H : Hp) (D : Ends), Inv X pins σ H s → t D σ H → _root_.PySem.wpAt (model X.prog X.w) X.A c (execs st X.env) (SP X pins D) X.xe s
section
variable {X : Cx} {c : Code} {st : Stmt} {rest : List Stmt} {t u : TS}
theorem psa_of (h : PS X st t) : PSA X c st t := ⟨fun pins s σ H D I q => wpAt_of_wpAny (h.run pins s σ H D I q)⟩
theorem psas_of (h : PSs X rest t) : PSAs X c rest t := ⟨fun pins s σ H D I q => wpAt_of_wpAny (h.run pins s σ H D I q)⟩
theorem psas_cons (h1 : PSA X c st t) (h2 : PSAs X c rest u) : PSAs X c (st :: rest) (tSeq t u) := by
  refine ⟨fun pins s σ H D I h => ?_⟩
  refine ks_wpAt_execs_cons (ks_wpAt_mono (h1.run pins s σ H _ I h) (fun f s' hs => ?_) fun _ _ z => z)
  cases f with
  | next => obtain ⟨σ', H', I', q⟩ := hs; exact h2.run pins s' σ' H' D I' q
  | cont => exact hs
  | brk => exact hs
  | ret v => exact hs
end
/-! ### super().m(e, ..) -/
structure SuperAt (P : Program) (K : PySem.W.Frag) (f : Addr) (fd : FuncData) (C D g2 cc cda : Addr) (name : Str) : Prop where
  fn : ∃ oc od osl, K.lookup f = some ⟨oc, od, .func fd, osl⟩
  code : ∃ ccl cdd ccs vs file tf, K.lookup cda = some ⟨ccl, cdd, .fields vs, ccs⟩ ∧ vs[2]? = some (.str file tf) ∧ ((P.main.file : Str) == file) = true
  cell : ∃ cl cld csl, K.lookup cc = some ⟨cl, cld, .cell (some (.ref D)), csl⟩
  cls : ∃ cdD, PySem.W.clsIn K D = some cdD
  sub : PySem.W.mroIn K C (.ref D) = some true
  met : PySem.W.ks_superIn K C D name = some (some (.ref g2))
  fty : PySem.W.typeIn K (.ref g2) = some (.type "function")
  ffn : PySem.W.fnIn K g2 = true
  opq : PySem.W.nsIn K PySem.cStatics "thirdparty.any" = some none
  top : (P.main.scope.names.lookup ("super" : Str)).isSome = false
def tSuper (C : Addr) (sp : Sp) (E : XK) (t : TA) : TS := fun D σ H => ∃ a dx fs, σ[0]? = some (some (.ref a)) ∧ H a = some (.ins C dx fs) ∧ t σ H fun vs H2 => (∃ dx fs, H2 a = some (.ins C dx fs)) ∧ sp (.ref a :: vs) H2 (fun _ H' => D.nx σ H') E
section
variable {X : Cx} {CX : CXT} {k : Nat} {f C D g2 cc cda : Addr} {fd : FuncData} {name x0 : Str} {sp : Sp} {E : XK} {e : Expr} {es : List Expr} {t : TA} {p0 p1 apos pos spos : Pos} {body : List Stmt} {ar : Arg} {pl : Sem Bool}
theorem psa_super (W : SuperAt X.prog X.K f fd C D g2 cc cda name) (F : FnR X.prog X.w X.K X.mg X.base CX k g2 sp) (hr : Room k X.A) (hx : Passes CX X E)
    (hfu : X.env.func = some f) (hco : X.env.code = .ref cda) (hcl : X.env.cells.lookup ("__class__" : Str) = some cc) (hks : X.env.kindOf "super" = some .globalImplicit) (hkc : X.env.kindOf "__class__" = some .free)
    (hp : (fd.params.posonlyargs ++ fd.params.args).head? = some ar) (hN : X.N[0]? = some ar.arg) (hka : X.env.kindOf ar.arg = some .local) (hm : X.mg "super" = none) (ha : PA X (e :: es) t)
    (hat : (name == ("__class__" : Str)) = false := by decide)
    (hst : starEach (e :: es) X.env = (false, eval e X.env) :: starEach es X.env := by rfl) (hpl : (backTo pos (starEach es X.env)).any (·.1) = false := by rfl)
    (he : eval (.Call (.Attribute (.Call (.Name "super" p0) [] [] p1) name apos) (e :: es) [] pos) X.env = (do
      let ov ← attributeBase (.Call (.Name "super" p0) [] [] p1) name X.env (eval (.Call (.Name "super" p0) [] [] p1) X.env)
      standAt apos.atName
      let (f, first) ← holding [ov] (getMethod ov name pl)
      callWith pos f first (backTo pos (starEach (e :: es) X.env)) []) := by rfl)
    (hi : interactive X.env = false := by rfl) (hs : swapsWith (.Call (.Attribute (.Call (.Name "super" p0) [] [] p1) name apos) (e :: es) [] pos) none spos.line X.env = pure false := by rfl) :
    PSA X (.func body X.env) (.Expr (.Call (.Attribute (.Call (.Name "super" p0) [] [] p1) name apos) (e :: es) [] pos) spos) (tSuper C sp E t) := by
  refine ⟨fun pins s σ H D0 I h => ?_⟩
  obtain ⟨a, dx, fs, hσ, hHa, h⟩ := h
  obtain ⟨oc, od, osl, hf⟩ := W.fn
  obtain ⟨ccl, cdd, ccs, vs2, file, tf, hcode, hvs, hfile⟩ := W.code
  obtain ⟨cl, cld, csl, hcell⟩ := W.cell
  obtain ⟨cdD, hD⟩ := W.cls
  have XK := I.kIn
  obtain ⟨oD, hD1, hD2⟩ : ∃ oD, s.heap.get? D = some oD ∧ oD.data = .cls cdD := by
    unfold PySem.W.clsIn at hD
    split at hD
    · rename_i c d cd' sl ho
      cases hD
      exact ⟨_, XK _ _ ho, rfl⟩
    · cases hD
  obtain ⟨mA, O, _⟩ := ins_get I.hok hHa
  obtain ⟨odx, J, _⟩ := O.look
  obtain ⟨mL, hns, hloc⟩ := I.loc
  obtain ⟨uself, rself, look⟩ := hloc 0 ar.arg (.ref a) hN hσ (.inl hka)
  obtain rfl : uself = Value.ref a := rself
  have hv : mL ar.arg = some (.ref a) := by
    rcases look with ⟨_, z⟩ | ⟨z, _⟩
    · exact z
    · rw [hka] at z; rcases z with z | z <;> cases z
  refine ks_wpAt_Expr_any ?_ hi hs
  refine ks_wpAt_MethodCall (pl := pl) ?_ he
  refine ks_wpAt_super_base hks hkc hat hfu (XK _ _ hf) rfl hp hco (XK _ _ hcode) rfl hvs hfile W.top ?_
  obtain ⟨mb, h1, h2⟩ := I.mod.blt
  refine PySem.W.ks_loadName_global I.ok.kind hks (Calls.loadGlobal_builtin (by rw [I.ok.glob]; exact I.mod.glob.keeps I.bk) hm (by rw [I.ok.blt]; exact h1.keeps I.bk) ((h2 _ (by decide)).trans (show bootBuiltins "super" = some (.type "super") by decide +kernel)) ⟨rfl, ?_⟩)
  refine wpAny_loadName_free I.ok.kind hkc hcl ⟨_, XK _ _ hcell, rfl⟩ ?_
  refine wpAny_loadName_local I.ok.kind hka hns hv ?_
  refine ks_wpAny_isType_cls hD1 hD2 ⟨rfl, ?_⟩
  have hnc : ∀ c, (_ : Obj).data ≠ .cls c := fun c e => by
    have := J.no
    unfold PySem.W.notCls at this
    rw [e] at this
    exact Bool.noConfusion this
  cases hcC : PySem.W.clsIn X.K C with
  | none =>
    have z := W.met
    unfold PySem.W.ks_superIn at z
    rw [hcC] at z; cases z
  | some cdC =>
    have hme : PySem.W.alongIn X.K name ((cdC.mro.dropWhile (· != .ref D)).drop 1) = some (some (.ref g2)) := by
      have z := W.met
      unfold PySem.W.ks_superIn at z
      rw [hcC] at z; exact z
    have hxC : a ≠ C := PySem.W.ks_ne XK J hcC
    obtain ⟨of, hof, hofc⟩ : ∃ of, X.K.lookup g2 = some of ∧ of.cls = .type "function" := by
      have ht' : (X.K.lookup g2).map (·.cls) = some (.type "function") := W.fty
      cases z : X.K.lookup g2 with
      | none => rw [z] at ht'; cases ht'
      | some of => rw [z] at ht'; exact ⟨of, rfl, Option.some.inj ht'⟩
    obtain ⟨hh, g, d, tt, os⟩ := s
    refine ks_wpAny_call_super hD1 hD2 J.at_ J.cls hnc (PySem.W.looks_mroIn XK W.sub) (fun h' e1 k1 => ?_)
    have I1 : Inv X ((hh.objs.size, PySem.W.ks_superObj D a C) :: pins) σ H ⟨h', g, d, tt, os⟩ := ClX.pin_new (t' := tt) I k1 (Nat.le_refl _) e1 fun v z => by cases z
    have XK1 := I1.kIn
    refine ks_wpAny_getMethod_super (so := hh.objs.size) (l₀ := cdC.mro) (ClX.pin_at I1) (PySem.W.looks_opaque XK1 W.opq) (fun A Q E s k q => wpAny_bind ((PySem.W.looks_clsIn XK1 hcC) A _ E s k (wpAny_pure q))) rfl XK1 hme (XK1 _ _ hof) hofc hxC hat ?_
    have I2 : Inv X ((h'.objs.size, PySem.W.methodObj (.ref g2) (.ref a)) :: (hh.objs.size, PySem.W.ks_superObj D a C) :: pins) σ H ⟨h'.push (PySem.W.methodObj (.ref g2) (.ref a)), g, d, tt + 1, os⟩ :=
      ClX.pin_new (t' := tt + 1) I1 (fun _ _ z => Heap.get?_push_of_some _ z) (Nat.le_refl _) (Heap.get?_push_size h' rfl) fun v z => by cases z
    have hL : h'.objs.size ≠ X.env.locals := (I2.pin (h'.objs.size, PySem.W.methodObj (.ref g2) (.ref a)) (List.mem_append_right _ List.mem_cons_self)).2.2.1
    have hbase : X.base.get? h'.objs.size = none := ClX.base_none I1 (Nat.le_refl _)
    refine PySem.W.callWith_M (K := X.K) (h₀ := X.base) (first := []) I2.ok.mod.kin (news_at hL hbase (ClX.pin_at I2)) List.mem_cons_self W.ffn ?_ hst hpl
    refine thn (ha.run pos _ _ σ H _ I2 h) fun us s3 ⟨vs, H2, I3, rv, ⟨dx3, fs3, hH3⟩, q2⟩ => ⟨⟨ClX.pin_at I3, I3.kIn⟩, ?_⟩
    have z : wpAny (model X.prog X.w) X.A (call (.ref h'.objs.size) us) (EP X ((h'.objs.size, PySem.W.methodObj (.ref g2) (.ref a)) :: (hh.objs.size, PySem.W.ks_superObj D a C) :: pins) σ _) X.xe s3 :=
      wpAny_call (PySem.W.method_call (ClX.pin_at I3) (run_fnR (us := .ref a :: us) (vs := .ref a :: vs) F hr hx I3 (.cons rfl rv) q2))
    refine thn z fun u4 s4 y => ?_
    obtain ⟨v4, H4, I4, r4, q4⟩ := ClX.unpinE (ClX.unpinE y)
    exact ⟨σ, H4, I4, q4⟩
end
/-! ### a def that closes over its class -/
structure FunC (K : PySem.W.Frag) (x qual : Str) (st : Stmt) (f : Addr) (fd : FuncData) (D cc cda : Addr) : Prop where
  ex : ∃ oc od kV doc pm an ct osl, fd = PySem.W.fnX x qual (defArgs st) (defBody st) (defScope st) [("__class__", cc)] .none kV doc pm an (.ref cda) ct ∧ K.lookup f = some ⟨oc, od, .func fd, osl⟩ ∧ PySem.W.codeIn K (.ref cda) qual = true
  kp : PySem.W.keepIn K (.ref f) = true
  cell : ∃ cl cld csl, K.lookup cc = some ⟨cl, cld, .cell (some (.ref D)), csl⟩
/-- its words -/
abbrev nfOf (x qual : Str) (st : Stmt) (cc cda : Addr) : NdefX.NF := ⟨x, qual, defArgs st, defBody st, defScope st, [("__class__", cc)], cda⟩
theorem fn_cloOk {CX : CXT} {P : Program} {w : World} {K : PySem.W.Frag} {mg : Str → Option Value} {base : Heap} {x qual : Str} {st : Stmt} {f : Addr} {fd : FuncData} {D cc cda : Addr} {N ps : List Str} {k : Nat} {sp : Sp} (F : FunC K x qual st f fd D cc cda) (S : NdefX.NScope N ps ["__class__"] (defScope st))
    (len : ∀ vs H Q E, sp vs H Q E → vs.length = ps.length)
    (hbody : ∀ (A : Around) (outer : List Env) (s : Shared) (H : Hp) (vs : List V) (Q : VK) (E : XK), Room k (A.deeper (NdefX.envF (nfOf x qual st cc cda) f s.heap.objs.size)) → sp vs H Q E →
      ∃ t, PSAs (NdefX.ncx CX P w K mg base N (nfOf x qual st cc cda) f A outer s H E) (.func (defBody st) (NdefX.envF (nfOf x qual st cc cda) f s.heap.objs.size)) (defBody st) t ∧ t { nx := fun _ H' => Q .non H', rt := Q } (NdefX.startF N vs [some (.ref D)]) H) :
    FnOk P w K mg base CX (k + 1) f fd ps sp := by
  refine ⟨len, fun A outer s H args us vs Q E hr e0 hbd r hsp => ?_⟩
  obtain ⟨oc, od, kV, doc, pm, an, ct, osl, rfl, lk, hcd⟩ := F.ex
  obtain ⟨cl, cld, csl, hcell⟩ := F.cell
  have KX : K.In s.heap := e0.mod.kin.keeps fun b o e => (e0.bs b o e).1
  have hl := len _ _ _ _ hsp
  have lim : s.heap.NoLimit := e0.mod.nolimit.keeps fun b o e => (e0.bs b o e).1
  have C : NdefX.CellsAt (nfOf x qual st cc cda).cl ["__class__"] [some (.ref D)] s.heap H := by
    refine ⟨rfl, fun y c e => ?_, fun y z c e1 e2 => ?_, fun i y e => ?_⟩
    · obtain rfl : cc = c := by
        have e : ([(("__class__" : Str), cc)] : List (Str × Addr)).lookup y = some c := e
        rw [List.lookup_cons] at e
        split at e
        · exact Option.some.inj e
        · cases e
      exact ⟨(e0.bs cc _ (e0.mod.kin _ _ hcell)).2, _, _, KX _ _ hcell, rfl⟩
    · have one : ∀ {y : Str} {c : Addr}, ([(("__class__" : Str), cc)] : List (Str × Addr)).lookup y = some c → y = "__class__" := fun {y c} e => by
        rw [List.lookup_cons] at e
        split at e
        · rename_i h; exact beq_iff_eq.mp h
        · cases e
      rw [one e1, one e2]
    · cases i with
      | zero =>
        obtain rfl : ("__class__" : Str) = y := Option.some.inj e
        refine ⟨cc, by simp [List.lookup], fun v ev => ?_⟩
        obtain rfl : V.ref D = v := Option.some.inj (Option.some.inj ev)
        exact ⟨.ref D, rfl, _, KX _ _ hcell, rfl⟩
      | succ i => cases e
  refine codeAny_call_function hr.depth (KX _ _ lk) rfl S.co S.gen rfl (PySem.W.codeRec_of KX hcd) ?_
  refine hbd _ _ _ _ (wpAny_newFunctionEnv S.nocell (fun ⟨n, _⟩ hy => S.par n (List.of_mem_zip hy).1) (fun h₁ hns hsb => ⟨lim.fresh _ hsb, ?_⟩) S.kind)
  show codeAny _ _ (.func (defBody st) (NdefX.envF (nfOf x qual st cc cda) f s.heap.objs.size)) _ _
  refine ks_codeAny_funcAt ?_
  have kp : ∀ b o, s.heap.get? b = some o → h₁.get? b = some o := fun b o e => hsb.extBut b o (Nat.ne_of_lt (Heap.lt_size e)) (Heap.get?_push_of_some _ e)
  obtain ⟨t, ht, hq⟩ := hbody A outer s H vs Q E (hr.deeper _) hsp
  have I : Inv (NdefX.ncx CX P w K mg base N (nfOf x qual st cc cda) f A outer s H E) [] (NdefX.startF N vs [some (.ref D)]) H { s with heap := h₁, toks := s.toks + (ps.zip us).length } := NdefX.inv_startN S hr.hd e0 hl r C hns kp
  refine ks_wpAt_mono (ht.run [] _ (NdefX.startF N vs [some (.ref D)]) H _ I hq) (fun fl s' hs => ?_) fun e s' hs => hs
  have fin : ∀ {σ' : L2.St} {H' : Hp} {v : V} {u : Value}, Inv (NdefX.ncx CX P w K mg base N (nfOf x qual st cc cda) f A outer s H E) [] σ' H' s' → L2.RelV v u → Q v H' → CE outer P w H s Q u s' :=
    fun {σ' H' v u} J rv q => ⟨v, H', J.os, J.bare, J.base, J.hok, rv, q⟩
  cases fl with
  | ret u =>
    obtain ⟨v, σ', H', J, rv, q⟩ := hs
    exact fin J rv q
  | next =>
    obtain ⟨σ', H', J, q⟩ := hs
    exact fin (v := V.non) (u := Value.none) J rfl q
  | brk =>
    obtain ⟨_, _, _, q⟩ := hs
    exact False.elim q
  | cont =>
    obtain ⟨_, _, _, q⟩ := hs
    exact False.elim q
theorem FunC.binds {K : PySem.W.Frag} {x qual : Str} {st : Stmt} {f : Addr} {fd : FuncData} {D cc cda : Addr} {ps : List Str} (F : FunC K x qual st f fd D cc cda)
    (hb : ∀ (kV doc pm : Value) (an : Option Addr) (ct : Value) (us : List Value), us.length = ps.length → bindArgs (PySem.W.fnX x qual (defArgs st) (defBody st) (defScope st) [("__class__", cc)] .none kV doc pm an (.ref cda) ct) ⟨us, []⟩ = pure (ps.zip us)) : Binds K fd ps [] := by
  obtain ⟨oc, od, kV, doc, pm, an, ct, osl, rfl, _⟩ := F.ex
  exact Binds.all fun us hl => hb kV doc pm an ct us hl
theorem fn_clo {CX : CXT} {P : Program} {w : World} {K : PySem.W.Frag} {mg : Str → Option Value} {base : Heap} {x qual : Str} {st : Stmt} {f : Addr} {fd : FuncData} {D cc cda : Addr} {N ps : List Str} {k : Nat} {sp : Sp} (F : FunC K x qual st f fd D cc cda) (S : NdefX.NScope N ps ["__class__"] (defScope st))
    (len : ∀ vs H Q E, sp vs H Q E → vs.length = ps.length)
    (hb : ∀ (kV doc pm : Value) (an : Option Addr) (ct : Value) (us : List Value), us.length = ps.length → bindArgs (PySem.W.fnX x qual (defArgs st) (defBody st) (defScope st) [("__class__", cc)] .none kV doc pm an (.ref cda) ct) ⟨us, []⟩ = pure (ps.zip us))
    (hbody : ∀ (A : Around) (outer : List Env) (s : Shared) (H : Hp) (vs : List V) (Q : VK) (E : XK), Room k (A.deeper (NdefX.envF (nfOf x qual st cc cda) f s.heap.objs.size)) → sp vs H Q E →
      ∃ t, PSAs (NdefX.ncx CX P w K mg base N (nfOf x qual st cc cda) f A outer s H E) (.func (defBody st) (NdefX.envF (nfOf x qual st cc cda) f s.heap.objs.size)) (defBody st) t ∧ t { nx := fun _ H' => Q .non H', rt := Q } (NdefX.startF N vs [some (.ref D)]) H) :
    FnR P w K mg base CX (k + 1) f sp := by
  have F2 := (fn_cloOk F S len hbody).raw (F.binds hb) .nil
  exact F2.imp fun vs H Q E h => by rw [List.append_nil]; exact h
/-! ### super().__init__(e, ..) in an own exception that is being made -/
structure SuperExc (P : Program) (K : PySem.W.Frag) (f : Addr) (fd : FuncData) (C cc cda : Addr) : Prop where
  fn : ∃ oc od osl, K.lookup f = some ⟨oc, od, .func fd, osl⟩
  code : ∃ ccl cdd ccs vs file tf, K.lookup cda = some ⟨ccl, cdd, .fields vs, ccs⟩ ∧ vs[2]? = some (.str file tf) ∧ ((P.main.file : Str) == file) = true
  cell : ∃ cl cld csl, K.lookup cc = some ⟨cl, cld, .cell (some (.ref C)), csl⟩
  oex : OexC K C
  sub : PySem.W.mroIn K C (.ref C) = some true
  met : PySem.W.ks_superIn K C C "__init__" = some (some (.builtin "ValueError.__init__"))
  sve : PySem.W.subIn K (.ref C) (.type "ValueError") = some true
  opq : PySem.W.nsIn K PySem.cStatics "thirdparty.any" = some none
  top : (P.main.scope.names.lookup ("super" : Str)).isSome = false
def tSuperI (C : Addr) (t : TA) : TS := fun D σ H => ∃ a, σ[0]? = some (some (.ref a)) ∧ H a = some (exo a C none) ∧ t σ H fun vs H2 => vs.length ≤ 1000 ∧ H2 a = some (exo a C none) ∧ D.nx σ H2
section
variable {X : Cx} {f C cc cda : Addr} {fd : FuncData} {x0 : Str} {e : Expr} {es : List Expr} {t : TA} {p0 p1 apos pos spos : Pos} {body : List Stmt} {ar : Arg} {pl : Sem Bool}
theorem psa_superInit (W : SuperExc X.prog X.K f fd C cc cda)
    (hfu : X.env.func = some f) (hco : X.env.code = .ref cda) (hcl : X.env.cells.lookup ("__class__" : Str) = some cc) (hks : X.env.kindOf "super" = some .globalImplicit) (hkc : X.env.kindOf "__class__" = some .free)
    (hp : (fd.params.posonlyargs ++ fd.params.args).head? = some ar) (hN : X.N[0]? = some ar.arg) (hka : X.env.kindOf ar.arg = some .local) (hm : X.mg "super" = none) (ha : PA X (e :: es) t)
    (hst : starEach (e :: es) X.env = (false, eval e X.env) :: starEach es X.env := by rfl) (hpl : (backTo pos (starEach es X.env)).any (·.1) = false := by rfl)
    (he : eval (.Call (.Attribute (.Call (.Name "super" p0) [] [] p1) "__init__" apos) (e :: es) [] pos) X.env = (do
      let ov ← attributeBase (.Call (.Name "super" p0) [] [] p1) "__init__" X.env (eval (.Call (.Name "super" p0) [] [] p1) X.env)
      standAt apos.atName
      let (f, first) ← holding [ov] (getMethod ov "__init__" pl)
      callWith pos f first (backTo pos (starEach (e :: es) X.env)) []) := by rfl)
    (hi : interactive X.env = false := by rfl) (hs : swapsWith (.Call (.Attribute (.Call (.Name "super" p0) [] [] p1) "__init__" apos) (e :: es) [] pos) none spos.line X.env = pure false := by rfl) :
    PSA X (.func body X.env) (.Expr (.Call (.Attribute (.Call (.Name "super" p0) [] [] p1) "__init__" apos) (e :: es) [] pos) spos) (tSuperI C t) := by
  refine ⟨fun pins s σ H D0 I h => ?_⟩
  obtain ⟨a, hσ, hHa, h⟩ := h
  obtain ⟨oc, od, osl, hf⟩ := W.fn
  obtain ⟨ccl, cdd, ccs, vs2, file, tf, hcode, hvs, hfile⟩ := W.code
  obtain ⟨cl, cld, csl, hcell⟩ := W.cell
  obtain ⟨nm, q, N, bs, bm, sn, sub, ab, col, dd, k0, k1, k2, k3, k5, hC, hbm⟩ := W.oex.cls
  have XK := I.kIn
  obtain ⟨t1, hx⟩ := exo_at I.hok hHa
  have J : PySem.W.InstAt s.heap a { cls := .ref C, dict := none, data := .fields #[.ref t1, .none, .none, .none, .bool false, .none] } C none := ⟨hx, rfl, rfl, trivial⟩
  obtain ⟨mL, hns, hloc⟩ := I.loc
  obtain ⟨uself, rself, look⟩ := hloc 0 ar.arg (.ref a) hN hσ (.inl hka)
  obtain rfl : uself = Value.ref a := rself
  have hv : mL ar.arg = some (.ref a) := by
    rcases look with ⟨_, z⟩ | ⟨z, _⟩
    · exact z
    · rw [hka] at z; rcases z with z | z <;> cases z
  refine ks_wpAt_Expr_any ?_ hi hs
  refine ks_wpAt_MethodCall (pl := pl) ?_ he
  refine ks_wpAt_super_base hks hkc (by decide) hfu (XK _ _ hf) rfl hp hco (XK _ _ hcode) rfl hvs hfile W.top ?_
  obtain ⟨mb, h1, h2⟩ := I.mod.blt
  refine PySem.W.ks_loadName_global I.ok.kind hks (Calls.loadGlobal_builtin (by rw [I.ok.glob]; exact I.mod.glob.keeps I.bk) hm (by rw [I.ok.blt]; exact h1.keeps I.bk) ((h2 _ (by decide)).trans (show bootBuiltins "super" = some (.type "super") by decide +kernel)) ⟨rfl, ?_⟩)
  refine wpAny_loadName_free I.ok.kind hkc hcl ⟨_, XK _ _ hcell, rfl⟩ ?_
  refine wpAny_loadName_local I.ok.kind hka hns hv ?_
  refine ks_wpAny_isType_cls (XK _ _ hC) rfl ⟨rfl, ?_⟩
  have hcC : PySem.W.clsIn X.K C = some { name := nm, bases := bs, mro := .ref C :: bm, ns := N, qualname := q, hasDict := true, slotNames := sn, subclasses := sub, abstract := ab, collection := col, hasDel := false } := by unfold PySem.W.clsIn; rw [hC] <;> rfl
  have hme : PySem.W.alongIn X.K "__init__" (((Value.ref C :: bm).dropWhile (· != .ref C)).drop 1) = some (some (.builtin "ValueError.__init__")) := by
    have z := W.met
    unfold PySem.W.ks_superIn at z
    rw [hcC] at z; exact z
  have hxC : a ≠ C := PySem.W.ks_ne XK J hcC
  obtain ⟨hh, g, d, tt, os⟩ := s
  refine ks_wpAny_call_super (XK _ _ hC) rfl J.at_ J.cls (fun c e => by cases e) (PySem.W.looks_mroIn XK W.sub) (fun h' e1 k1 => ?_)
  have I1 : Inv X ((hh.objs.size, PySem.W.ks_superObj C a C) :: pins) σ H ⟨h', g, d, tt, os⟩ := ClX.pin_new (t' := tt) I k1 (Nat.le_refl _) e1 fun v z => by cases z
  have XK1 := I1.kIn
  have J1 : PySem.W.InstAt h' a { cls := .ref C, dict := none, data := .fields #[.ref t1, .none, .none, .none, .bool false, .none] } C none := ⟨k1 _ _ hx, rfl, rfl, trivial⟩
  have hI : PySem.W.Looks (model X.prog X.w) h' (isInstance (.ref a) (.type "ValueError")) true := J1.type.andThen (PySem.W.looks_subIn XK1 W.sve)
  refine PySem.W.kxs_getMethod PySem.W.kxs_ValueError (so := hh.objs.size) (l₀ := .ref C :: bm) (ClX.pin_at I1) (PySem.W.looks_opaque XK1 W.opq) (fun A Q E s k q => wpAny_bind ((PySem.W.looks_clsIn XK1 hcC) A _ E s k (wpAny_pure q))) rfl XK1 hme hI hxC (by decide) ?_
  have I2 : Inv X ((h'.objs.size, PySem.W.kxs_mw "ValueError.__init__" a) :: (hh.objs.size, PySem.W.ks_superObj C a C) :: pins) σ H ⟨h'.push (PySem.W.kxs_mw "ValueError.__init__" a), g, d, tt + 1, os⟩ :=
    ClX.pin_new (t' := tt + 1) I1 (fun _ _ z => Heap.get?_push_of_some _ z) (Nat.le_refl _) (Heap.get?_push_size h' rfl) fun v z => by cases z
  have hL : h'.objs.size ≠ X.env.locals := (I2.pin (h'.objs.size, PySem.W.kxs_mw "ValueError.__init__" a) (List.mem_append_right _ List.mem_cons_self)).2.2.1
  have hbase : X.base.get? h'.objs.size = none := ClX.base_none I1 (Nat.le_refl _)
  refine PySem.W.kxs_callWith1 (h₀ := X.base) (i := "ValueError.__init__") (x := a) (news_at hL hbase (ClX.pin_at I2)) List.mem_cons_self ?_ hst hpl
  refine thn (ha.run pos _ _ σ H _ I2 h) fun us s3 ⟨vs, H2, I3, rv, hlen, hH3, q2⟩ => ⟨ClX.pin_at I3, ?_⟩
  have hus : us.length ≤ sizeLine := by rw [← rv.length, sizeLine_eq]; omega
  obtain ⟨t3, hx3⟩ := exo_at I3.hok hH3
  have hC3 := I3.kIn _ _ hC
  have hu3 := ClX.pin_at I3
  have fin : ∀ (t' : Nat) (h4 : Heap), (∀ b o, b ≠ a → s3.heap.get? b = some o → h4.get? b = some o) → (∃ t4 : Addr, h4.get? a = some ({ cls := .ref C, dict := none, data := .fields #[.ref t4, .none, .none, .none, .bool false, .none] } : Obj)) → SP X pins D0 .next { s3 with heap := h4, toks := t' } := fun t' h4 k4 ⟨t4, hx4⟩ => by
    have J4 := I3.write (t' := t') (x := a) (e := a) (o := exo a C none) (by rw [hH3]; exact True.intro) (.inl rfl) k4 ⟨_, hx4⟩ (exo_ok hx4)
    have eu : upd H2 a (exo a C none) = H2 := by
      funext b
      by_cases hb : b = a
      · rw [hb, upd_same, hH3]
      · rw [upd_ne hb]
    rw [eu] at J4
    exact ⟨σ, H2, ClX.unpin (ClX.unpin J4), q2⟩
  obtain ⟨hp3, g3, d3, tk3, os3⟩ := s3
  have isM : (Value.type "method-wrapper" == Value.type "method" || Value.type "method-wrapper" == Value.type "builtin_function_or_method" || Value.type "method-wrapper" == Value.type "method-wrapper") = true := by decide
  refine wpAny_call (codeAny_of_tree ?_)
  show wpAny _ X.A.in1 (callAny (.ref h'.objs.size) ⟨us, []⟩) _ _ _
  simp only [callAny]
  refine wpAny_bind (wpAny_load hu3 ?_)
  simp only [PySem.W.kxs_mw, isM, if_true]
  refine PySem.W.KFB.if_so (by decide) (wpAny_bind (PySem.W.check_bound_init PySem.F.excBase_ValueError.toExcCallFacts hC3 hx3 rfl (wpAny_bind (wpAny_pure (wpAny_pure ⟨plainId_quiet PySem.F.excBase_ValueError.init.plain _, codeAny_builtin PySem.F.excBase_ValueError.initEntry ?_⟩)))))
  exact PySem.W.exc_init_tree (cls := .ref C) (t0 := t3) (dv := none) (c2 := .none) (c3 := .none) (b4 := .bool false) hx3 hus fun h4 k4 e4 _ => fin tk3 h4 k4 ⟨_, e4⟩
end
end BX

set_option Elab.async false
set_option linter.all false
set_option maxRecDepth 100000
set_option maxHeartbeats 2000000
/-! An instance called, within a try. -/
namespace BX
open PySem PySem.Spec PyProof.Rows L2
def tCallOS (C : Addr) (sp : Sp) (E : L2.St → XK) (tf : TE) (t : TA) : TE := fun σ H Q => tf σ H fun y H1 => ∃ a, y = V.ref a ∧ t σ H1 fun vs H2 => (∃ dx fs, H2 a = some (.ins C dx fs)) ∧ sp (V.ref a :: vs) H2 Q (E σ)
theorem pe_callOS {X : Cx} {CX : CXT} {k : Nat} {C g : Addr} {sp : Sp} {E : L2.St → XK} {fe e : Expr} {es : List Expr} {tf : TE} {t : TA} {pos : Pos} (hf : PE X fe tf) (c : StX.CallO X.K C g) (F : FnR X.prog X.w X.K X.mg X.base CX k g sp) (hr : Room k X.A) (hx : ∀ σ, PassesAt CX X σ (E σ)) (ha : PA X (e :: es) t)
    (ht : eval (.Call fe (e :: es) [] pos) X.env = (do callWith pos (← eval fe X.env) [] (backTo pos (starEach (e :: es) X.env)) (backToKw pos (keywordEach [] X.env))) := by rfl)
    (he : starEach (e :: es) X.env = (false, eval e X.env) :: starEach es X.env := by rfl) (hpl : (backTo pos (starEach es X.env)).any (·.1) = false := by rfl) : PE X (.Call fe (e :: es) [] pos) (tCallOS C sp E tf t) := by
  refine ⟨fun pins s σ H Q I h => Call_ (thn (hf.run pins s σ H _ I h) fun u s1 ⟨y, H1, I1, ry, a, ey, q⟩ => ?_) ht⟩
  subst ey
  obtain rfl : u = Value.ref a := ry
  refine StX.callO_with (thn (ha.run pos pins s1 σ H1 _ I1 q) fun us s2 ⟨vs, H2, I2, r, ⟨dx, fs, hi⟩, q2⟩ => ?_) he hpl
  obtain ⟨ox, od, J, hd⟩ := StX.insC_at I2 (C := C) (.inr ⟨dx, fs, hi⟩)
  refine ⟨⟨C, ox, od, J, hd⟩, wpAny_call (PySem.W.kco_code I2.kIn J hd c.at_ c.fn c.fi ?_)⟩
  refine codeAny_mono (F X.A X.stack s2 H2 (.ref a :: us) (.ref a :: vs) Q (E σ) hr I2.env0 (.cons rfl r) q2) fun r s' hq => ?_
  cases r with
  | error er => exact hx σ pins H2 s2 er s' I2 hq
  | ok fl => cases fl with
    | ret u => exact I2.after hq
    | next => exact False.elim hq
    | brk => exact False.elim hq
    | cont => exact False.elim hq
end BX

set_option Elab.async false
set_option linter.all false
set_option maxRecDepth 100000
set_option maxHeartbeats 4000000
/-! The walk's ground: the text by places, what is asked of the top, what a def promises. -/
namespace B50
open PySem PySem.Spec PyProof.Rows L2 BX
/-! ### the text -/
def topS (i : Nat) : Stmt := PySem.Challenge.pw_burstlimits_k50_whole_gates_and_rows.main.body.getD i (.Pass ⟨0, 0, 0, 0⟩)
abbrev sIsInteger : Stmt := topS 18
abbrev sIsBetween : Stmt := topS 19
abbrev sIsPair : Stmt := topS 20
abbrev sIsRow : Stmt := topS 21
abbrev sStretch : Stmt := topS 22
abbrev sArePairs : Stmt := topS 30
abbrev sLimInit : Stmt := inClass (topS 31) 0
abbrev sSingle : Stmt := inClass (topS 31) 2
abbrev sPairs : Stmt := inClass (topS 31) 5
abbrev sLimAdd : Stmt := inClass (topS 31) 11
abbrev sNeedLimits : Stmt := topS 32
abbrev sNeedRow : Stmt := topS 37
abbrev sFirstBroken : Stmt := topS 38
abbrev sVerdict : Stmt := topS 39
abbrev sAllowed : Stmt := topS 41
abbrev sLetThrough : Stmt := topS 42
abbrev sPassed : Stmt := topS 43
abbrev sTicksOf : Stmt := topS 44
abbrev sWaitsOf : Stmt := topS 45
abbrev sWaits : Stmt := topS 46
abbrev sWaiting : Stmt := topS 47
abbrev sCell : Stmt := topS 55
abbrev sPen : Stmt := topS 56
abbrev sDraw : Stmt := topS 57
abbrev sLawPairs : Stmt := topS 58
abbrev sLawLimits : Stmt := topS 59
abbrev sLawRow : Stmt := topS 60
abbrev sRight : Stmt := topS 64
abbrev sLaw : Stmt := topS 66

/-! ### what the walk asks of the top -/
/-- a def of the module -/
structure GF (K : PySem.W.Frag) (mg : Str → Option Value) (x : Str) (st : Stmt) : Prop where
  ex : ∃ f fd, Fun K x x st f fd ∧ mg x = some (.ref f)
structure Txt (K : PySem.W.Frag) (mg : Str → Option Value) (C : Addr) : Prop where
  cl : Cls K C
  nK : NoAttr K C "kept"
  mgC : mg "Limits" = some (.ref C)
  z_isinstance : mg "isinstance" = none
  z_int : mg "int" = none
  z_bool : mg "bool" = none
  z_tuple : mg "tuple" = none
  z_list : mg "list" = none
  z_len : mg "len" = none
  z_all : mg "all" = none
  z_sum : mg "sum" = none
  z_set : mg "set" = none
  z_range : mg "range" = none
  z_enumerate : mg "enumerate" = none
  z_min : mg "min" = none
  z_max : mg "max" = none
  z_zip : mg "zip" = none
  i_length : ∃ t, mg "MOST_LENGTH" = some (.int 20 t)
  i_number : ∃ t, mg "MOST_NUMBER" = some (.int 20 t)
  i_requests : ∃ t, mg "MOST_REQUESTS" = some (.int 60 t)
  i_limits : ∃ t, mg "MOST_LIMITS" = some (.int 6 t)
  t_kept : ∃ t, mg "KEPT" = some (.str "kept" t)
  t_broken : ∃ t, mg "BROKEN" = some (.str "broken" t)
  g_is_integer : GF K mg "is_integer" sIsInteger
  g_is_between : GF K mg "is_between" sIsBetween
  g_is_pair : GF K mg "is_pair" sIsPair
  g_is_row : GF K mg "is_row" sIsRow
  g_stretch : GF K mg "stretch_sum" sStretch
  g_are_pairs : GF K mg "are_pairs" sArePairs
  g_need_limits : GF K mg "need_limits" sNeedLimits
  g_need_row : GF K mg "need_row" sNeedRow
  g_first_broken : GF K mg "first_broken" sFirstBroken
  g_verdict : GF K mg "verdict" sVerdict
  g_allowed : GF K mg "allowed_now" sAllowed
  g_let_through : GF K mg "let_through" sLetThrough
  g_passed : GF K mg "passed" sPassed
  g_ticks_of : GF K mg "ticks_of" sTicksOf
  g_waits_of : GF K mg "waits_of" sWaitsOf
  g_waits : GF K mg "waits" sWaits
  g_waiting : GF K mg "waiting" sWaiting
  g_cell : GF K mg "_law_cell" sCell
  g_pen : GF K mg "_law_pen" sPen
  g_draw : GF K mg "_law_draw" sDraw
  g_pairs : GF K mg "_law_pairs" sLawPairs
  g_limits : GF K mg "_law_limits" sLawLimits
  g_row : GF K mg "_law_row" sLawRow
  g_right : GF K mg "_law_right" sRight
  /- the class Limits -/
  isC : PySem.W.kitOne K (.ref C) (.ref C) = some true
  ty : ∀ (H : Hp) (a dx : Addr) (fs : List (Str × V)), H a = some (.ins C dx fs) → TyOf K H (.ref a) (.ref C)
  ini : ∃ f fd, Fun K "__init__" "Limits.__init__" sLimInit f fd ∧ Mk K C f
  sgl : ∃ f fd p mc, Fun K "single" "Limits.single" sSingle f fd ∧ ClX.CRead K C mc ∧ ClX.CMet K C mc "single" p f
  prs : ∃ f fd p, Fun K "pairs" "Limits.pairs" sPairs f fd ∧ PropOf K C "pairs" p f
  add : ∃ f fd, Fun K "__add__" "Limits.__add__" sLimAdd f fd ∧ AddOwn K C f

/-! ### a def's promise, by its name -/
structure D0 (P : Program) (w : World) (K : PySem.W.Frag) (mg : Str → Option Value) (base : Heap) (x : Str) (k : Nat) (sp : Sp) : Prop where
  ex : ∃ f, FnR P w K mg base (L2.CX P w) k f sp ∧ mg x = some (.ref f) ∧ PySem.W.keepIn K (.ref f) = true
section
variable {P : Program} {w : World} {K : PySem.W.Frag} {mg : Str → Option Value} {base : Heap}
/-- the body of a def that lets nothing out -/
theorem okN {x qual : Str} {st : Stmt} {f : Addr} {fd : FuncData} {N ps : List Str} {k : Nat} {sp : Sp} (F : Fun K x qual st f fd) (S : FnScope N ps (defScope st)) (len : ∀ vs H Q E, sp vs H Q E → vs.length = ps.length)
    (hb : ∀ (kV doc pm : Value) (an : Option Addr) (cdv ct : Value) (us : List Value), us.length = ps.length → bindArgs (PySem.W.fnOf x qual (defArgs st) (defBody st) (defScope st) .none kV doc pm an cdv ct) ⟨us, []⟩ = pure (ps.zip us))
    (hbody : ∀ (cdv : Value) (A : Around) (outer : List Env) (s : Shared) (H : Hp) (vs : List V) (Q : VK) (E : XK), Room k (A.deeper (envOfC qual (defScope st) s.heap.objs.size f cdv)) → sp vs H Q E →
      ∃ t, PSs (cxOf (L2.CX P w) P w K mg base N qual (defScope st) f cdv A outer s H E).nox (defBody st) t ∧ t { nx := fun _ H' => Q .non H', rt := Q } (start N vs) H) : FnR P w K mg base (L2.CX P w) (k + 1) f sp := by
  have F2 : FnOk P w K mg base (L2.CX P w) (k + 1) f fd ps sp := F.okX S len fun cdv A outer s H vs Q E hr h => by
    obtain ⟨t, ht, q⟩ := hbody cdv A outer s H vs Q E hr h
    exact ⟨t, ht.nox, q⟩
  have F3 := F2.raw (F.binds hb) .nil
  exact F3.imp fun vs H Q E h => by rw [List.append_nil]; exact h
theorem D0.ofN {x : Str} {st : Stmt} {N ps : List Str} {k : Nat} {sp : Sp} (G : GF K mg x st) (S : FnScope N ps (defScope st)) (len : ∀ vs H Q E, sp vs H Q E → vs.length = ps.length)
    (hb : ∀ (kV doc pm : Value) (an : Option Addr) (cdv ct : Value) (us : List Value), us.length = ps.length → bindArgs (PySem.W.fnOf x x (defArgs st) (defBody st) (defScope st) .none kV doc pm an cdv ct) ⟨us, []⟩ = pure (ps.zip us))
    (hbody : ∀ (f : Addr) (cdv : Value) (A : Around) (outer : List Env) (s : Shared) (H : Hp) (vs : List V) (Q : VK) (E : XK), Room k (A.deeper (envOfC x (defScope st) s.heap.objs.size f cdv)) → sp vs H Q E →
      ∃ t, PSs (cxOf (L2.CX P w) P w K mg base N x (defScope st) f cdv A outer s H E).nox (defBody st) t ∧ t { nx := fun _ H' => Q .non H', rt := Q } (start N vs) H) : D0 P w K mg base x (k + 1) sp := by
  obtain ⟨f, fd, F, hm⟩ := G.ex
  exact ⟨f, okN F S len hb (hbody f), hm, F.kp⟩
theorem D0.mono {x : Str} {j k : Nat} {sp : Sp} (D : D0 P w K mg base x j sp) (h : j ≤ k) : D0 P w K mg base x k sp := by
  obtain ⟨f, F, a, b⟩ := D.ex
  exact ⟨f, F.mono h, a, b⟩
end
/-- a call of such a def -/
def tD (sp : Sp) (t : TA) : TE := fun σ H Q => t σ H fun vs H1 => sp vs H1 Q E0
theorem pe_D {X : Cx} {x : Str} {j k : Nat} {sp : Sp} {e : Expr} {es : List Expr} {t : TA} {p pos : Pos} (D : D0 X.prog X.w X.K X.mg X.base x j sp) (hr : Room k X.A) (hg : Gl X x) (ha : PA X (e :: es) t) (hj : j ≤ k := by decide) (hd : (x == ("__debug__" : Str)) = false := by decide)
    (he : starEach (e :: es) X.env = (false, eval e X.env) :: starEach es X.env := by rfl) (hpl : (backTo pos (starEach es X.env)).any (·.1) = false := by rfl) : PE X (.Call (.Name x p) (e :: es) [] pos) (tD sp t) := by
  refine ⟨fun pins s σ H Q I h => ?_⟩
  obtain ⟨f, F, hm, hk⟩ := D.ex
  refine wpAny_Call_Name_kw (ld_glob I hg hm ?_ hd)
  refine PySem.W.callWith_K (h₀ := X.base) I.ok.mod.kin hk (thn (ha.run pos pins s σ H _ I h) fun us s1 ⟨vs, H1, I1, r, q⟩ => ⟨I1.kIn, ?_⟩) he hpl
  exact wpAny_call (run_fnR F (hr.mono hj) passL I1 r q)

/-- an int, a text of the module -/
theorem pe_gint {X : Cx} {x : Str} {i : Int} {t : Tok} {pos : Pos} (hg : Gl X x) (hm : X.mg x = some (.int i t)) (hd : (x == ("__debug__" : Str)) = false := by decide) : PE X (.Name x pos) (tC (.int i)) := pe_glob hg hm ⟨t, rfl⟩ hd
theorem pe_gstr {X : Cx} {x z : Str} {t : Tok} {pos : Pos} (hg : Gl X x) (hm : X.mg x = some (.str z t)) (hd : (x == ("__debug__" : Str)) = false := by decide) : PE X (.Name x pos) (tC (.str z)) := pe_glob hg hm ⟨t, rfl⟩ hd

theorem units65 {k : Nat} {A : Around} (hr : Room k A) : A.units + 65 < cLine := by have := hr.un; omega

/-! ### what stands in the heap -/
/-- a tuple, a list of ints -/
abbrev TI (K : PySem.W.Frag) (H : Hp) (p : Addr) (xs : List Int) : Prop := SqT K H p (xs.map V.int)
theorem sameT {K : PySem.W.Frag} {H H' : Hp} {p : Addr} {xs : List V} (e : Same H H') (h : SqT K H p xs) : SqT K H' p xs := by
  rcases h with (h | ⟨o, h⟩) | h
  · exact .inl (.inl (e _ _ h))
  · exact .inl (.inr ⟨o, e _ _ h⟩)
  · exact .inr h
theorem sameN {H : Hp} {p : Addr} {o : HO} (h : H p = none) : Same H (upd H p o) := fun b u e => by
  rw [upd_ne (ne_of_none e h)]; exact e
/-- an object that was not there may change -/
theorem sameM {H H' : Hp} {p : Addr} {o : HO} (e : Same H H') (h : H p = none) : Same H (upd H' p o) := fun b u eb => by
  rw [upd_ne (ne_of_none eb h)]; exact e b u eb
/-- the pairs of limits: a tuple of pairs -/
def PairsAt (K : PySem.W.Frag) (H : Hp) (t : Addr) (P : List BM.Pr) : Prop := ∃ as : List Addr, SqT K H t (as.map V.ref) ∧ as.length = P.length ∧ ∀ (i : Nat) (a : Addr) (p : BM.Pr), as[i]? = some a → P[i]? = some p → SqT K H a [V.int p.1, V.int p.2]
theorem PairsAt.same {K : PySem.W.Frag} {H H' : Hp} {t : Addr} {P : List BM.Pr} (e : Same H H') (h : PairsAt K H t P) : PairsAt K H' t P := by
  obtain ⟨as, h1, h2, h3⟩ := h
  exact ⟨as, sameT e h1, h2, fun i a p x y => sameT e (h3 i a p x y)⟩
/-- a Limits -/
def LimAt (K : PySem.W.Frag) (C : Addr) (H : Hp) (x : Addr) (P : List BM.Pr) : Prop := ∃ dx t, H x = some (.ins C dx [("kept", .ref t)]) ∧ PairsAt K H t P
theorem LimAt.same {K : PySem.W.Frag} {C : Addr} {H H' : Hp} {x : Addr} {P : List BM.Pr} (e : Same H H') (h : LimAt K C H x P) : LimAt K C H' x P := by
  obtain ⟨dx, t, h1, h2⟩ := h
  exact ⟨dx, t, e _ _ h1, h2.same e⟩
/-- promises' ends: a value; a tuple of ints -/
abbrev RetV (H : Hp) (Q : VK) (v : V) : Prop := ∀ H', Same H H' → Q v H'
abbrev RetT (K : PySem.W.Frag) (H : Hp) (Q : VK) (xs : List V) : Prop := ∀ p H', Same H H' → SqT K H' p xs → Q (.ref p) H'
abbrev RetL (H : Hp) (Q : VK) (xs : List V) : Prop := ∀ p H', Same H H' → H p = none → H' p = some (.lst xs) → Q (.ref p) H'

/-! ### integers -/
section
variable {P : Program} {w : World} {K : PySem.W.Frag} {mg : Str → Option Value} {base : Heap} {C : Addr}
theorem kit_int_int : PySem.W.kitOne K (.type "int") (.type "int") = some true := kit_ty (by decide +kernel)
theorem kit_int_bool : PySem.W.kitOne K (.type "int") (.type "bool") = some false := kit_ty (by decide +kernel)
theorem kit_tuple : PySem.W.kitOne K (.type "tuple") (.type "tuple") = some true := kit_ty (by decide +kernel)
def sp_is_integer : Sp := fun vs H Q _ => ∃ i : Int, vs = [.int i] ∧ Q (.bl true) H
theorem d_is_integer (T : Txt K mg C) : D0 P w K mg base "is_integer" 1 sp_is_integer := by
  refine D0.ofN (N := ["thing"]) (ps := ["thing"]) T.g_is_integer ⟨rfl, rfl, rfl, by decide +kernel, rfl, by decide +kernel, by decide +kernel⟩ (fun vs H Q E h => ?_) (fun _ _ _ _ _ _ us hl => match us, hl with | [_], _ => rfl) (fun f cdv A outer s H vs Q E hr h => ?_)
  · obtain ⟨i, rfl, _⟩ := h; rfl
  · obtain ⟨i, rfl, q⟩ := h
    refine ⟨_, pss_one (ps_ret (pe_and (pe_callB call_isi (by rfl) T.z_isinstance (by decide +kernel) (pa_cons (pv 0) (pa_cons (pe_bltn (v := .ty "int") (by rfl) T.z_int (by decide +kernel) rfl) pa_nil)))
      (pe_one (pe_not (pe_callB call_isi (by rfl) T.z_isinstance (by decide +kernel) (pa_cons (pv 0) (pa_cons (pe_bltn (v := .ty "bool") (by rfl) T.z_bool (by decide +kernel) rfl) pa_nil))))))), ?_⟩
    refine ⟨_, rfl, .int i, .ty "int", .type "int", .type "int", true, rfl, .ty _, .base (.int i), kit_int_int, true, rfl, ?_⟩
    rw [if_pos rfl]
    exact ⟨_, rfl, .int i, .ty "bool", .type "int", .type "bool", false, rfl, .ty _, .base (.int i), kit_int_bool, false, rfl, q⟩
def sp_is_between : Sp := fun vs H Q _ => ∃ i l m : Int, vs = [.int i, .int l, .int m] ∧ Q (.bl (decide (l ≤ i) && decide (i ≤ m))) H
theorem d_is_between (T : Txt K mg C) : D0 P w K mg base "is_between" 2 sp_is_between := by
  refine D0.ofN (N := ["thing", "least", "most"]) (ps := ["thing", "least", "most"]) T.g_is_between ⟨rfl, rfl, rfl, by decide +kernel, rfl, by decide +kernel, by decide +kernel⟩ (fun vs H Q E h => ?_) (fun _ _ _ _ _ _ us hl => match us, hl with | [_, _, _], _ => rfl) (fun f cdv A outer s H vs Q E hr h => ?_)
  · obtain ⟨i, l, m, rfl, _⟩ := h; rfl
  · obtain ⟨i, l, m, rfl, q⟩ := h
    refine ⟨_, pss_one (ps_ret (pe_and (pe_D (d_is_integer T) hr (by rfl) (pa_cons (pv 0) pa_nil)) (pe_one (pe_chain op_le op_le (pv 1) (pv 0) (pv 2))))), ?_⟩
    refine ⟨_, rfl, i, rfl, true, rfl, ?_⟩
    rw [if_pos rfl]
    refine ⟨_, rfl, _, rfl, l, i, rfl, rfl, _, rfl, ?_⟩
    by_cases hli : l ≤ i
    · rw [decide_eq_true hli] at q ⊢
      rw [if_pos rfl]
      exact ⟨_, rfl, i, m, rfl, rfl, q⟩
    · rw [decide_eq_false hli] at q ⊢
      rw [if_neg Bool.false_ne_true]
      exact q
end
end B50

set_option Elab.async false
set_option linter.all false
set_option maxRecDepth 100000
set_option maxHeartbeats 4000000
/-! values.py, and what refuses. -/
namespace B50
open PySem PySem.Spec PyProof.Rows L2 BX BM
section
variable {P : Program} {w : World} {K : PySem.W.Frag} {mg : Str → Option Value} {base : Heap} {C : Addr}
theorem btw {i l m : Int} (h1 : l ≤ i) (h2 : i ≤ m) : (decide (l ≤ i) && decide (i ≤ m)) = true := by
  rw [decide_eq_true h1, decide_eq_true h2]; rfl
/-- a limit -/
def sp_isPair (K : PySem.W.Frag) : Sp := fun vs H Q _ => ∃ (a : Addr) (p : Pr), vs = [.ref a] ∧ SqT K H a [V.int p.1, V.int p.2] ∧ (1 ≤ p.1 ∧ p.1 ≤ 20 ∧ 1 ≤ p.2 ∧ p.2 ≤ 20) ∧ Q (.bl true) H
theorem d_is_pair (T : Txt K mg C) : D0 P w K mg base "is_pair" 3 (sp_isPair K) := by
  refine D0.ofN (N := ["thing"]) (ps := ["thing"]) T.g_is_pair ⟨rfl, rfl, rfl, by decide +kernel, rfl, by decide +kernel, by decide +kernel⟩ (fun vs H Q E h => ?_) (fun _ _ _ _ _ _ us hl => match us, hl with | [_], _ => rfl) (fun f cdv A outer s H vs Q E hr h => ?_)
  · obtain ⟨a, p, rfl, _⟩ := h; rfl
  · obtain ⟨a, p, rfl, hT, hp, q⟩ := h
    obtain ⟨t1, m1⟩ := T.i_length
    obtain ⟨t2, m2⟩ := T.i_number
    refine ⟨_, pss_cons (ps_if (PW.pt (pw_or (pt_not (pt_val (pe_callB call_isi (by rfl) T.z_isinstance (by decide +kernel) (pa_cons (pv 0) (pa_cons (pe_bltn (v := .ty "tuple") (by rfl) T.z_tuple (by decide +kernel) rfl) pa_nil)))))
        (pw_or1 (pt_cmpR op_ne (pe_callB call_len_seq (by rfl) T.z_len PySem.boot_len (pa_cons (pv 0) pa_nil)) pe_int (nomark _))))) (pss_one (ps_ret pe_bl)) pss_nil)
      (pss_one (ps_ret (pe_and (pe_D (d_is_between T) hr (by rfl) (pa_cons (pe_ix ix_tup (pv 0) pe_int (fun _ _ => rfl)) (pa_cons pe_int (pa_cons (pe_gint (by rfl) m1) pa_nil))))
        (pe_one (pe_D (d_is_between T) hr (by rfl) (pa_cons (pe_ix ix_tup (pv 0) pe_int (fun _ _ => rfl)) (pa_cons pe_int (pa_cons (pe_gint (by rfl) m2) pa_nil)))))))), ?_⟩
    refine ⟨_, rfl, .ref a, .ty "tuple", .type "tuple", .type "tuple", true, rfl, .ty _, tyx_tup hT, kit_tuple, true, rfl, ?_⟩
    refine iteF ?_
    refine ⟨_, rfl, a, _, rfl, .inr hT, rfl, _, rfl, ?_⟩
    refine iteNS rfl ?_
    refine ⟨_, rfl, a, _, 0, _, rfl, rfl, hT, atI_nat (j := 0) rfl, p.1, 1, 20, rfl, ?_⟩
    rw [btw hp.1 hp.2.1]
    refine ⟨true, rfl, iteT ?_⟩
    refine ⟨_, rfl, a, _, 1, _, rfl, rfl, hT, atI_nat (j := 1) rfl, p.2, 1, 20, rfl, ?_⟩
    rw [btw hp.2.2.1 hp.2.2.2]
    exact q
/-- a row -/
def sp_isRow (K : PySem.W.Frag) : Sp := fun vs H Q _ => ∃ (a : Addr) (xs : List Int), vs = [.ref a] ∧ TI K H a xs ∧ RowOk xs ∧ xs.length ≤ 100000 ∧ RetV H Q (.bl true)
theorem d_is_row (T : Txt K mg C) : D0 P w K mg base "is_row" 3 (sp_isRow K) := by
  have nd : (["thing", "one"] : List Str).Nodup := by decide +kernel
  refine D0.ofN (N := ["thing", "one"]) (ps := ["thing"]) T.g_is_row ⟨rfl, rfl, rfl, nd, rfl, by decide +kernel, by decide +kernel⟩ (fun vs H Q E h => ?_) (fun _ _ _ _ _ _ us hl => match us, hl with | [_], _ => rfl) (fun f cdv A outer s H vs Q E hr h => ?_)
  · obtain ⟨a, p, rfl, _⟩ := h; rfl
  · obtain ⟨a, xs, rfl, hT, hx, hz, q⟩ := h
    obtain ⟨t3, m3⟩ := T.i_requests
    refine ⟨_, pss_cons (ps_if (PW.pt (pw_or (pt_not (pt_val (pe_callB call_isi (by rfl) T.z_isinstance (by decide +kernel) (pa_cons (pv 0) (pa_cons (pe_bltn (v := .ty "tuple") (by rfl) T.z_tuple (by decide +kernel) rfl) pa_nil)))))
        (pw_or1 (pt_not (pt_val (pe_callB (cr_all rfl) (by rfl) T.z_all (by decide +kernel) (pa_cons (pe_lc (own := [("one", 1)]) (g := gName 1) (by rfl) nd (pi_tup (pv 0)) (blkOk_by (own := [("one", 1)]) (N := ["thing", "one"]) (sc := defScope sIsRow) (by decide +kernel)) (fun _ _ _ _ _ => pg_name (i := 1) nd rfl (Or.inl rfl)) (fun _ _ _ _ _ => pts_nil)
          (fun _ _ _ _ _ => pe_D (d_is_between T) hr (by rfl) (pa_cons (pv 1) (pa_cons pe_int (pa_cons (pe_gint (by rfl) m3) pa_nil))))) pa_nil))))))) (pss_one (ps_ret pe_bl)) pss_nil)
      (pss_one (ps_ret (pe_cmpR op_le (pe_callB (cr_sumT rfl) (by rfl) T.z_sum (by decide +kernel) (pa_cons (pv 0) pa_nil)) (pe_gint (by rfl) m3) (nomark _)))), ?_⟩
    refine ⟨_, rfl, .ref a, .ty "tuple", .type "tuple", .type "tuple", true, rfl, .ty _, tyx_tup hT, kit_tuple, true, rfl, ?_⟩
    refine iteF ?_
    refine ⟨_, rfl, a, rfl, ⟨_, hT⟩, fun D hD => ?_⟩
    refine lc_pureA walk_tup (fun _ => .bl true) hD (by rw [List.length_map]; exact hz) (fun H' s' => sameT s' hT) (fun i x H' H2 k hi s1 y hk => ?_) (fun H' s' hl => ?_)
    · obtain ⟨rfl, hy⟩ := y
      rw [List.getElem?_map] at hy
      cases e : xs[i]? with
      | none => rw [e] at hy; cases hy
      | some z =>
        rw [e] at hy
        obtain rfl : V.int z = x := Option.some.inj hy
        refine hk _ _ (Same.refl _) rfl fun H3 Q' s3 hq => ?_
        refine ⟨_, rfl, z, 0, 60, rfl, ?_⟩
        have hz0 := hx.1 z (List.mem_of_getElem? e)
        have hz1 := mem_le_sum hx.1 z (List.mem_of_getElem? e)
        rw [btw hz0 (by have := hx.2; omega)]
        exact hq _ s3
    · refine ⟨D, (List.range (xs.map V.int).length).map fun _ => true, rfl, .inl (.inl (by rw [hl, List.map_map]; rfl)), ?_⟩
      have : ((List.range (xs.map V.int).length).map fun _ => true).all id = true := by
        rw [List.all_eq_true]; intro b hb; obtain ⟨_, _, rfl⟩ := List.mem_map.mp hb; rfl
      rw [this]
      refine ⟨true, rfl, iteF ?_⟩
      refine ⟨_, rfl, a, xs, rfl, sameT s' hT, xs.sum, 60, rfl, rfl, ?_⟩
      show Q (.bl (decide (xs.sum ≤ 60))) H'
      rw [decide_eq_true hx.2]
      exact q _ s'
/-- a stretch's sum -/
def sp_stretch (K : PySem.W.Frag) : Sp := fun vs H Q _ => ∃ (a : Addr) (xs : List Int) (s L : Nat), vs = [.ref a, .int s, .int L] ∧ TI K H a xs ∧ xs.length ≤ 100000 ∧ RetV H Q (.int ((xs.drop s).take L).sum)
theorem d_stretch (T : Txt K mg C) : D0 P w K mg base "stretch_sum" 1 (sp_stretch K) := by
  refine D0.ofN (N := ["row", "start", "length"]) (ps := ["row", "start", "length"]) T.g_stretch ⟨rfl, rfl, rfl, by decide +kernel, rfl, by decide +kernel, by decide +kernel⟩ (fun vs H Q E h => ?_) (fun _ _ _ _ _ _ us hl => match us, hl with | [_, _, _], _ => rfl) (fun f cdv A outer s H vs Q E hr h => ?_)
  · obtain ⟨a, xs, s, L, rfl, _⟩ := h; rfl
  · obtain ⟨a, xs, s, L, rfl, hT, hz, q⟩ := h
    refine ⟨_, pss_one (ps_ret (pe_callB (cr_sumT rfl) (by rfl) T.z_sum (by decide +kernel) (pa_cons (pe_slice sl_tupA (pv 0) (po_some (pv 1)) (po_some (pe_op op_add (pv 1) (pv 2)))) pa_nil))), ?_⟩
    refine ⟨.ref a, rfl, .int s, rfl, (s : Int), rfl, .int s, rfl, .int L, rfl, (s : Int), (L : Int), rfl, rfl, (s : Int) + (L : Int), rfl, ?_⟩
    refine slA_to hT fun p H' s' hp => ?_
    rw [show (s : Int) + (L : Int) = ((s + L : Nat) : Int) by omega, cutV_nn, Nat.add_sub_cancel_left, ← List.map_drop, ← List.map_take] at hp
    exact ⟨p, _, rfl, hp, q _ s'⟩
end
end B50

set_option Elab.async false
set_option linter.all false
set_option maxRecDepth 100000
set_option maxHeartbeats 4000000
/-! The class Limits. -/
namespace B50
open PySem PySem.Spec PyProof.Rows L2 BX BM
/-- limits that may be made -/
structure LimOk (P : List Pr) : Prop where
  g : Good P
  nd : P.Nodup
  few : P.length ≤ 6
def bothP (P Q : List Pr) : List Pr := P ++ Q.filter fun q => !decide (q ∈ P)
theorem mem_both {P Q : List Pr} (p : Pr) : p ∈ bothP P Q ↔ p ∈ P ∨ p ∈ Q := by
  unfold bothP
  rw [List.mem_append, List.mem_filter]
  constructor
  · rintro (h | h)
    · exact .inl h
    · exact .inr h.1
  · rintro (h | h)
    · exact .inl h
    · by_cases hp : p ∈ P
      · exact .inl hp
      · exact .inr ⟨h, by rw [decide_eq_false hp]; rfl⟩
theorem both_len (P Q : List Pr) : (bothP P Q).length ≤ P.length + Q.length := by
  unfold bothP
  rw [List.length_append]
  have := List.length_filter_le (fun q => !decide (q ∈ P)) Q
  omega
theorem both_ok {P Q : List Pr} (hP : LimOk P) (hQ : LimOk Q) (h : P.length + Q.length ≤ 6) : LimOk (bothP P Q) := by
  refine ⟨⟨fun p hp => ?_, fun e => hP.g.ne ?_⟩, ?_, Nat.le_trans (both_len P Q) h⟩
  · rcases (mem_both p).mp hp with z | z
    · exact hP.g.g p z
    · exact hQ.g.g p z
  · exact (List.append_eq_nil_iff.mp e).1
  · refine List.nodup_append.mpr ⟨hP.nd, hQ.nd.filter _, fun a ha b hb e => ?_⟩
    subst e
    have := (List.mem_filter.mp hb).2
    rw [decide_eq_true ha] at this
    cases this
theorem range_getD {α : Type} (l : List α) (d : α) : (List.range l.length).map (fun i => l.getD i d) = l := by
  refine List.ext_getElem? fun i => ?_
  rw [List.getElem?_map]
  by_cases h : i < l.length
  · rw [List.getElem?_range h, List.getElem?_eq_getElem h]
    simp [h]
  · rw [List.getElem?_eq_none (by simpa using h), List.getElem?_eq_none (by omega)]
    rfl
theorem filter_range {α : Type} (l : List α) (d : α) (p : α → Bool) : l.filter p = ((List.range l.length).filter fun i => p (l.getD i d)).map fun i => l.getD i d := by
  have h := range_getD l d
  conv => lhs; rw [← h]
  rw [List.filter_map]; rfl
section
variable {P : Program} {w : World} {K : PySem.W.Frag} {mg : Str → Option Value} {base : Heap} {C : Addr}
theorem pairs_of {H : Hp} {t : Addr} {as : List Addr} {PP : List Pr} (h1 : SqT K H t (as.map V.ref)) (h2 : as.length = PP.length) (h3 : ∀ (i : Nat) (a : Addr) (p : Pr), as[i]? = some a → PP[i]? = some p → SqT K H a [V.int p.1, V.int p.2]) : PairsAt K H t PP := ⟨as, h1, h2, h3⟩
/-- are_pairs -/
def sp_are_pairs (K : PySem.W.Frag) : Sp := fun vs H Q _ => ∃ (t : Addr) (PP : List Pr), vs = [.ref t] ∧ PairsAt K H t PP ∧ LimOk PP ∧ RetV H Q (.bl true)
theorem d_are_pairs (T : Txt K mg C) : D0 P w K mg base "are_pairs" 4 (sp_are_pairs K) := by
  have nd : (["things", "thing"] : List Str).Nodup := by decide +kernel
  refine D0.ofN (N := ["things", "thing"]) (ps := ["things"]) T.g_are_pairs ⟨rfl, rfl, rfl, nd, rfl, by decide +kernel, by decide +kernel⟩ (fun vs H Q E h => ?_) (fun _ _ _ _ _ _ us hl => match us, hl with | [_], _ => rfl) (fun f cdv A outer s H vs Q E hr h => ?_)
  · obtain ⟨t, PP, rfl, _⟩ := h; rfl
  · obtain ⟨t, PP, rfl, hP, ok, q⟩ := h
    obtain ⟨as, h1, h2, h3⟩ := id hP
    have hlen : (as.map V.ref).length = PP.length := by rw [List.length_map]; exact h2
    have hpos : 0 < PP.length := List.length_pos_iff.mpr ok.g.ne
    refine ⟨_, pss_one (ps_ret (pe_and (pe_cmpR op_gt (pe_callB call_len_seq (by rfl) T.z_len PySem.boot_len (pa_cons (pv 0) pa_nil)) pe_int (nomark _))
      (pe_and (pe_callB (cr_all rfl) (by rfl) T.z_all (by decide +kernel) (pa_cons (pe_lc (own := [("thing", 1)]) (g := gName 1) (by rfl) nd (pi_tup (pv 0)) (blkOk_by (own := [("thing", 1)]) (N := ["things", "thing"]) (sc := defScope sArePairs) (by decide +kernel)) (fun _ _ _ _ _ => pg_name (i := 1) nd rfl (Or.inl rfl)) (fun _ _ _ _ _ => pts_nil)
          (fun _ _ _ _ _ => pe_D (d_is_pair T) hr (by rfl) (pa_cons (pv 1) pa_nil))) pa_nil))
        (pe_one (pe_cmpR op_eq (pe_lenSetT rfl hr.units (by rfl) T.z_len (by rfl) T.z_set (pv 0)) (pe_callB call_len_seq (by rfl) T.z_len PySem.boot_len (pa_cons (pv 0) pa_nil)) (nomark _)))))), ?_⟩
    refine ⟨.ref t, rfl, t, _, rfl, .inr h1, _, _, rfl, rfl, _, rfl, ?_⟩
    rw [decide_eq_true (show (0 : Int) < ((as.map V.ref).length : Int) by rw [hlen]; omega)]
    refine iteT ?_
    refine ⟨_, rfl, t, rfl, ⟨_, h1⟩, fun D hD => ?_⟩
    refine lc_pureA walk_tup (fun _ => .bl true) hD (by rw [hlen]; have := ok.few; omega) (fun H' s' => sameT s' h1) (fun i x H' H2 k hi s1 y hk => ?_) (fun H' s' hl => ?_)
    · obtain ⟨rfl, hy⟩ := y
      have hi2 : i < PP.length := by rw [← hlen]; exact hi
      rw [List.getElem?_map] at hy
      cases e : as[i]? with
      | none => rw [e] at hy; cases hy
      | some z =>
        rw [e] at hy
        obtain rfl : V.ref z = x := Option.some.inj hy
        refine hk _ _ (Same.refl _) rfl fun H3 Q' s3 hq => ?_
        exact ⟨_, rfl, z, PP[i], rfl, sameT (s1.trans s3) (h3 i z PP[i] e (List.getElem?_eq_getElem hi2)), ok.g.g _ (List.getElem_mem hi2), hq _ s3⟩
    · refine ⟨D, (List.range (as.map V.ref).length).map fun _ => true, rfl, .inl (.inl (by rw [hl, List.map_map]; rfl)), ?_⟩
      have : ((List.range (as.map V.ref).length).map fun _ => true).all id = true := by
        rw [List.all_eq_true]; intro b hb; obtain ⟨_, _, rfl⟩ := List.mem_map.mp hb; rfl
      rw [this]
      refine ⟨true, rfl, iteT ?_⟩
      have hz1 : (as.zip (PP.map fun p => [p.1, p.2])).map (fun p => V.ref p.1) = as.map V.ref := by
        have : (as.zip (PP.map fun p => [p.1, p.2])).map Prod.fst = as := List.map_fst_zip (by rw [List.length_map]; omega)
        conv => rhs; rw [← this]
        rw [List.map_map]; rfl
      have hz2 : (as.zip (PP.map fun p => [p.1, p.2])).map (·.2) = PP.map fun p => [p.1, p.2] := List.map_snd_zip (by rw [List.length_map]; omega)
      have hz3 : (as.zip (PP.map fun p => [p.1, p.2])).length = PP.length := by rw [List.length_zip, List.length_map]; omega
      refine ⟨_, rfl, t, as.zip (PP.map fun p => [p.1, p.2]), rfl, by rw [hz1]; exact sameT s' h1, fun p hp => ?_, by rw [hz3]; have := ok.few; omega, ?_, ?_⟩
      · obtain ⟨i, hi⟩ := List.mem_iff_getElem?.mp hp
        rw [List.getElem?_zip_eq_some, List.getElem?_map] at hi
        obtain ⟨ha, hb⟩ := hi
        cases e : PP[i]? with
        | none => rw [e] at hb; cases hb
        | some pr =>
          rw [e] at hb
          have e2 : [pr.1, pr.2] = p.2 := Option.some.inj hb
          rw [← e2]
          exact sameT s' (h3 i p.1 pr ha e)
      · rw [hz2]
        refine List.pairwise_map.mpr (ok.nd.imp fun {a b} hne e => hne ?_)
        exact Prod.ext (List.cons.inj e).1 (List.cons.inj (List.cons.inj e).2).1
      · refine ⟨_, rfl, t, _, rfl, .inr (sameT s' h1), rfl, ?_⟩
        rw [hz3, hlen, decide_eq_true rfl]
        exact q _ s'
/-- Limits.__init__, the pairs handed in a tuple -/
def sp_init0 (K : PySem.W.Frag) (C : Addr) : Sp := fun vs H Q _ => ∃ (x t dx : Addr) (PP : List Pr), vs = [.ref x, .ref t] ∧ H x = some (.ins C dx []) ∧ PairsAt K H t PP ∧ LimOk PP ∧ ∀ H1, Same H H1 → Q .non (upd H1 x (.ins C dx [("kept", .ref t)]))
/-- .. one by one -/
def sp_init (K : PySem.W.Frag) (C : Addr) : Sp := fun vs H Q _ => ∃ (x dx : Addr) (as : List Addr) (PP : List Pr), vs = .ref x :: as.map V.ref ∧ H x = some (.ins C dx []) ∧ as.length = PP.length ∧ (∀ (i : Nat) (a : Addr) (p : Pr), as[i]? = some a → PP[i]? = some p → SqT K H a [V.int p.1, V.int p.2]) ∧ LimOk PP ∧
  ∀ t H2, (∀ b o, H b = some o → b ≠ x → H2 b = some o) → H2 x = some (.ins C dx [("kept", .ref t)]) → PairsAt K H2 t PP → Q .non H2
theorem f_init (T : Txt K mg C) {f : Addr} {fd : FuncData} (F : Fun K "__init__" "Limits.__init__" sLimInit f fd) : FnR P w K mg base (L2.CX P w) 5 f (sp_init K C) := by
  obtain ⟨oc, od, kV, doc, pm, an, cdv, ct, osl, rfl, lk, hcd⟩ := F.ex
  have nd : (["self", "pairs"] : List Str).Nodup := by decide +kernel
  obtain ⟨t6, m6⟩ := T.i_limits
  have S : FnScope ["self", "pairs"] ((["self"] : List Str) ++ (["pairs"] : List Str)) (defScope sLimInit) := ⟨rfl, rfl, rfl, nd, rfl, by decide +kernel, by decide +kernel⟩
  have z := StX.fn_star (P := P) (w := w) (mg := mg) (base := base) (CX := L2.CX P w) (k := 4) (sp := sp_init0 K C) (pv := "pairs") (ps := ["self"]) lk hcd S StX.cxUp (StX.bind_star1 (B := fun us => bindArgs (PySem.W.fnOf "__init__" "Limits.__init__" (defArgs sLimInit) (defBody sLimInit) (defScope sLimInit) .none kV doc pm an cdv ct) ⟨us, []⟩) (p1 := "self") (pv := "pairs") (fun a => rfl) (fun a r rs => rfl)) (fun A outer s H vs Q E hr h => by
    obtain ⟨x, t, dx, PP, rfl, hx, hP, ok, q⟩ := h
    obtain ⟨as, h1, h2, h3⟩ := id hP
    have hlen : (as.map V.ref).length = PP.length := by rw [List.length_map]; exact h2
    refine ⟨_, PSs.nox (pss_cons (ps_if (pt_not (pt_val (pe_D (d_are_pairs T) hr (by rfl) (pa_cons (pv 1) pa_nil)))) (pss_one ps_never) pss_nil)
      (pss_cons (ps_if (pt_cmpR op_gt (pe_callB call_len_seq (by rfl) T.z_len PySem.boot_len (pa_cons (pv 1) pa_nil)) (pe_gint (by rfl) m6) (nomark _)) (pss_one ps_never) pss_nil)
      (pss_one (ps_fld (pv 0) (pv 1) rfl)))), ?_⟩
    refine ⟨_, rfl, t, PP, rfl, hP, ok, fun H1 s1 => ⟨true, rfl, iteF ?_⟩⟩
    refine ⟨.ref t, rfl, t, _, rfl, .inr (sameT s1 h1), _, _, rfl, rfl, _, rfl, ?_⟩
    rw [decide_eq_false (show ¬ (6 : Int) < ((as.map V.ref).length : Int) by rw [hlen]; have := ok.few; omega)]
    refine iteF ?_
    exact ⟨.ref t, rfl, .ref x, rfl, x, C, dx, [], rfl, s1 _ _ hx, T.cl, T.nK, by decide, q H1 s1⟩)
  refine z.imp fun vs H Q E h => ?_
  obtain ⟨x, dx, as, PP, rfl, hx, h2, h3, ok, q⟩ := h
  refine ⟨[.ref x], as.map V.ref, rfl, rfl, ?_, fun p hp => ?_⟩
  · rw [List.length_map, h2, sizeLine_eq]; have := ok.few; omega
  · have s0 : Same H (upd H p (.tup (as.map V.ref))) := sameW hp
    refine ⟨x, p, dx, PP, rfl, s0 _ _ hx, ⟨as, .inl (.inl upd_same), h2, fun i a pr e1 e2 => sameT s0 (h3 i a pr e1 e2)⟩, ok, fun H1 s1 => ?_⟩
    have npx : p ≠ x := (ne_of_none hx hp).symm
    have s2 : ∀ b o, H b = some o → b ≠ x → (upd H1 x (.ins C dx [("kept", .ref p)])) b = some o := fun b o e hb => by
      rw [upd_ne hb]; exact s1 _ _ (s0 _ _ e)
    have hxi : ∀ xs : List V, H x ≠ some (.tup xs) := fun xs e => by rw [hx] at e; cases e
    have hxf : ∀ o u, H x ≠ some (.frz o u) := fun o u e => by rw [hx] at e; cases e
    refine q p _ s2 upd_same ⟨as, .inl (.inl ?_), h2, fun i a pr e1 e2 => ?_⟩
    · rw [upd_ne npx]; exact s1 _ _ upd_same
    · rcases h3 i a pr e1 e2 with (z | ⟨o, z⟩) | z
      · exact .inl (.inl (s2 _ _ z fun e => by subst e; exact hxi _ z))
      · exact .inl (.inr ⟨o, s2 _ _ z fun e => by subst e; exact hxf _ _ z⟩)
      · exact .inr z
/-- what a new instance's making leaves -/
theorem made_lim {H H2 : Hp} {x dx t : Addr} {PP : List Pr} (nx : H x = none) (ndx : H dx = none) (s2 : ∀ b o, (upd (upd H dx (.own x)) x (.ins C dx [])) b = some o → b ≠ x → H2 b = some o) : Same H H2 := fun b o e =>
  s2 b o (by rw [upd_ne (ne_of_none e nx), upd_ne (ne_of_none e ndx)]; exact e) (ne_of_none e nx)
/-- Limits.single -/
def sp_single (K : PySem.W.Frag) (C : Addr) : Sp := fun vs H Q _ => ∃ (l m : Int), vs = [.ref C, .int l, .int m] ∧ LimOk [(l, m)] ∧ ∀ x H', Same H H' → LimAt K C H' x [(l, m)] → Q (.ref x) H'
theorem f_single (T : Txt K mg C) {f : Addr} {fd : FuncData} (F : Fun K "single" "Limits.single" sSingle f fd) : FnR P w K mg base (L2.CX P w) 7 f (sp_single K C) := by
  obtain ⟨fi, fdi, FI, M⟩ := T.ini
  refine okN (N := ["cls", "length", "most"]) (ps := ["cls", "length", "most"]) F ⟨rfl, rfl, rfl, by decide +kernel, rfl, by decide +kernel, by decide +kernel⟩ (fun vs H Q E h => ?_) (fun _ _ _ _ _ _ us hl => match us, hl with | [_, _, _], _ => rfl) (fun cdv A outer s H vs Q E hr h => ?_)
  · obtain ⟨l, m, rfl, _⟩ := h; rfl
  · obtain ⟨l, m, rfl, ok, q⟩ := h
    refine ⟨_, pss_one (ps_ret (pe_makeL M (f_init T FI) hr (i := 0) rfl (.inl rfl) passL (pa_cons (pe_tup (pa_cons (pv 1) (pa_cons (pv 2) pa_nil))) pa_nil))), ?_⟩
    refine ⟨rfl, .int l, rfl, .int m, rfl, (by show 2 ≤ sizeLine; decide), fun a ha => ?_⟩
    intro x dx nx ndx nex
    have sa : Same H (upd H a (.tup [.int l, .int m])) := sameW ha
    have nax : a ≠ x := fun e => by rw [e, upd_same] at nx; cases nx
    have nad : a ≠ dx := fun e => by rw [e, upd_same] at ndx; cases ndx
    refine ⟨x, dx, [a], [(l, m)], rfl, upd_same, rfl, fun i b p e1 e2 => ?_, ok, fun t H2 s2 hx hp => ⟨rfl, ?_⟩⟩
    · cases i with
      | zero =>
        obtain rfl : a = b := Option.some.inj e1
        obtain rfl : (l, m) = p := Option.some.inj e2
        exact .inl (.inl (by rw [upd_ne nax, upd_ne nad, upd_same]))
      | succ i => cases e1
    · exact q x H2 (sa.trans (made_lim (PP := []) (t := t) nx ndx s2)) ⟨dx, t, hx, hp⟩
/-- need_limits -/
def sp_need_limits (K : PySem.W.Frag) (C : Addr) : Sp := fun vs H Q _ => ∃ (x : Addr) (PP : List Pr), vs = [.ref x] ∧ LimAt K C H x PP ∧ Q .non H
theorem d_need_limits (T : Txt K mg C) : D0 P w K mg base "need_limits" 1 (sp_need_limits K C) := by
  refine D0.ofN (N := ["thing"]) (ps := ["thing"]) T.g_need_limits ⟨rfl, rfl, rfl, by decide +kernel, rfl, by decide +kernel, by decide +kernel⟩ (fun vs H Q E h => ?_) (fun _ _ _ _ _ _ us hl => match us, hl with | [_], _ => rfl) (fun f cdv A outer s H vs Q E hr h => ?_)
  · obtain ⟨i, PP, rfl, _⟩ := h; rfl
  · obtain ⟨x, PP, rfl, hL, q⟩ := h
    obtain ⟨dx, t, hx, hp⟩ := hL
    refine ⟨_, pss_one (ps_if (pt_not (pt_val (pe_callB call_isi (by rfl) T.z_isinstance (by decide +kernel) (pa_cons (pv 0) (pa_cons (pe_glob (v := .ref C) (by rfl) T.mgC rfl) pa_nil))))) (pss_one ps_never) pss_nil), ?_⟩
    exact ⟨_, rfl, .ref x, .ref C, .ref C, .ref C, true, rfl, .own C, .base (T.ty _ _ _ _ hx), T.isC, true, rfl, iteF q⟩
/-- need_row -/
def sp_need_row (K : PySem.W.Frag) : Sp := fun vs H Q _ => ∃ (a : Addr) (xs : List Int), vs = [.ref a] ∧ TI K H a xs ∧ RowOk xs ∧ xs.length ≤ 100000 ∧ RetV H Q .non
theorem d_need_row (T : Txt K mg C) : D0 P w K mg base "need_row" 4 (sp_need_row K) := by
  refine D0.ofN (N := ["thing"]) (ps := ["thing"]) T.g_need_row ⟨rfl, rfl, rfl, by decide +kernel, rfl, by decide +kernel, by decide +kernel⟩ (fun vs H Q E h => ?_) (fun _ _ _ _ _ _ us hl => match us, hl with | [_], _ => rfl) (fun f cdv A outer s H vs Q E hr h => ?_)
  · obtain ⟨i, PP, rfl, _⟩ := h; rfl
  · obtain ⟨a, xs, rfl, hT, hx, hz, q⟩ := h
    refine ⟨_, pss_one (ps_if (pt_not (pt_val (pe_D (d_is_row T) hr (by rfl) (pa_cons (pv 0) pa_nil)))) (pss_one ps_never) pss_nil), ?_⟩
    exact ⟨_, rfl, a, xs, rfl, hT, hx, hz, fun H' s' => ⟨true, rfl, iteF (q _ s')⟩⟩
end
end B50

set_option Elab.async false
set_option linter.all false
set_option maxRecDepth 100000
set_option maxHeartbeats 4000000
/-! one + other. -/
namespace B50
open PySem PySem.Spec PyProof.Rows L2 BX BM
section
variable {P : Program} {w : World} {K : PySem.W.Frag} {mg : Str → Option Value} {base : Heap} {C : Addr}
theorem kept_look (v : V) : ([(("kept" : Str), v)] : List (Str × V)).lookup ("kept" : Str) = some v := by
  simp [List.lookup]
/-- the property pairs -/
theorem f_pairs (T : Txt K mg C) {f : Addr} {fd : FuncData} (F : Fun K "pairs" "Limits.pairs" sPairs f fd) : FnOk P w K mg base (L2.CX P w) 1 f fd ["self"] (getSp C "kept") ∧ Binds K fd ["self"] [] := by
  refine ⟨?_, F.binds (ps := ["self"]) fun _ _ _ _ _ _ us hl => match us, hl with | [_], _ => rfl⟩
  obtain ⟨oc, od, kV, doc, pm, an, cdv, ct, osl, rfl, lk, hcd⟩ := F.ex
  exact fn_getter lk hcd (N := ["self"]) ⟨rfl, rfl, rfl, by decide +kernel, rfl, by decide +kernel, by decide +kernel⟩ rfl rfl T.cl T.nK
/-- a property's name of a Limits -/
theorem pe_pairs {X : Cx} {e : Expr} {ta : TE} {pos : Pos} {k : Nat} {f p : Addr} {fd : FuncData} (T : Txt X.K X.mg C) (F : Fun X.K "pairs" "Limits.pairs" sPairs f fd) (hp : PropOf X.K C "pairs" p f) (hr : Room (k + 2) X.A) (he : PE X e ta) (hab : attributeBase e "pairs" X.env (eval e X.env) = eval e X.env := by rfl) :
    PE X (.Attribute e "pairs" pos) (tProp C (getSp C "kept") [] E0 ta) :=
  pe_prop he T.cl hp (f_pairs T F).1 (hr.mono (by omega)) (f_pairs (P := X.prog) (w := X.w) (base := X.base) T F).2 .nil passL hab
/-- __add__ -/
def sp_add (K : PySem.W.Frag) (C : Addr) : Sp := fun vs H Q _ => ∃ (a b : Addr) (PP QQ : List Pr), vs = [.ref a, .ref b] ∧ LimAt K C H a PP ∧ LimAt K C H b QQ ∧ LimOk PP ∧ LimOk QQ ∧ PP.length + QQ.length ≤ 6 ∧ ∀ x H', Same H H' → LimAt K C H' x (bothP PP QQ) → Q (.ref x) H'
theorem f_add (T : Txt K mg C) {f : Addr} {fd : FuncData} (F : Fun K "__add__" "Limits.__add__" sLimAdd f fd) : FnR P w K mg base (L2.CX P w) 7 f (sp_add K C) := by
  obtain ⟨fi, fdi, FI, M⟩ := T.ini
  obtain ⟨fp, fdp, pp, FP, hpp⟩ := T.prs
  obtain ⟨t6, m6⟩ := T.i_limits
  have nd : (["self", "other", "found", "pair"] : List Str).Nodup := by decide +kernel
  refine okN (N := ["self", "other", "found", "pair"]) (ps := ["self", "other"]) F ⟨rfl, rfl, rfl, nd, rfl, by decide +kernel, by decide +kernel⟩ (fun vs H Q E h => ?_) (fun _ _ _ _ _ _ us hl => match us, hl with | [_, _], _ => rfl) (fun cdv A outer s H vs Q E hr h => ?_)
  · obtain ⟨a, b, PP, QQ, rfl, _⟩ := h; rfl
  · obtain ⟨a, b, PP, QQ, rfl, hLa, hLb, okP, okQ, hlen, q⟩ := h
    obtain ⟨dxa, ta, hxa, as, ha1, ha2, ha3⟩ := id hLa
    obtain ⟨dxb, tb, hxb, bs, hb1, hb2, hb3⟩ := id hLb
    have hlb : (bs.map V.ref).length = QQ.length := by rw [List.length_map]; exact hb2
    refine ⟨_, pss_cons (ps_expr (pe_D (d_need_limits T) hr (by rfl) (pa_cons (pv 1) pa_nil)))
      (pss_cons (ps_set (i := 2) nd rfl (.inl rfl) (pe_lst (StX.pa_star (pe_fld (pv 0) rfl) (StX.pa_star (pe_lc (own := [("pair", 3)]) (g := gName 3) (tt := tTest (tOp (rNotInT K) (tVar 3) (tFld K (tVar 0) "kept"))) (by rfl) nd (pi_tup (pe_pairs (k := 0) T FP hpp (hr.mono (by decide)) (pv 1))) (blkOk_by (own := [("pair", 3)]) (N := ["self", "other", "found", "pair"]) (sc := defScope sLimAdd) (by decide +kernel))
          (fun _ _ _ _ _ => pg_name (i := 3) nd rfl (Or.inl rfl)) (fun _ _ _ _ _ => pts_one (pt_cmpR (op_notInT (units65 hr)) (pv 3) (pe_fld (pv 0) (by rfl)) (by rfl))) (fun _ _ _ _ _ => pv 3)) pa_nil))))
      (pss_cons (ps_if (pt_cmpR op_gt (pe_callB call_len_seq (by rfl) T.z_len PySem.boot_len (pa_cons (pv 2) pa_nil)) (pe_gint (by rfl) m6) (nomark _)) (pss_one ps_never) pss_nil)
      (pss_one (ps_ret (pe_makeS1 M (f_init T FI) hr (by rfl) T.mgC passL (pv 2)))))), ?_⟩
    refine ⟨_, rfl, b, QQ, rfl, hLb, ?_⟩
    refine ⟨.ref a, rfl, a, C, dxa, _, .ref ta, rfl, hxa, T.cl, T.nK, kept_look _, ta, _, rfl, .inl ha1, ?_⟩
    refine ⟨.ref b, rfl, b, dxb, _, rfl, hxb, b, dxb, _, .ref tb, rfl, hxb, kept_look _, tb, rfl, ⟨_, hb1⟩, fun D hD => ?_⟩
    refine lc_pure walk_tup (fun i => !decide (QQ.getD i (0, 0) ∈ PP)) (fun i => .ref (bs.getD i 0)) hD (by rw [hlb]; have := okQ.few; omega) (fun H' s' => sameT s' hb1) (fun i x H' H2 k hi s1 y hk => ?_) (fun H' s' hl => ?_)
    · obtain ⟨rfl, hy⟩ := y
      have hiQ : i < QQ.length := by rw [← hlb]; exact hi
      have hib : i < bs.length := by rw [hb2]; exact hiQ
      rw [List.getElem?_map, List.getElem?_eq_getElem hib] at hy
      obtain rfl : V.ref bs[i] = x := Option.some.inj hy
      have eb : bs.getD i 0 = bs[i] := by simp [hib]
      have eq : QQ.getD i (0, 0) = QQ[i] := by simp [hiQ]
      refine hk _ _ (Same.refl _) rfl (fun Qb hq => ?_) (fun hf H3 Q' s3 hq => ?_)
      · refine ⟨_, rfl, .ref a, rfl, a, C, dxa, _, .ref ta, rfl, s1 _ _ hxa, T.cl, T.nK, kept_look _, dPr QQ[i], PP.map dPr, ?_, .tup (sameT s1 ha1) (dp_prs as PP ha2 fun j c p e1 e2 => sameT s1 (ha3 j c p e1 e2)), dPr_shaped _, tPrs_shaped _, _, rfl, ?_⟩
        · exact dp_row (xs := [QQ[i].1, QQ[i].2]) (sameT s1 (hb3 i _ _ (List.getElem?_eq_getElem hib) (List.getElem?_eq_getElem hiQ)))
        · rw [prs_any, ← eq]
          exact hq _ (Same.refl _)
      · refine ⟨_, rfl, ?_⟩
        show Q' (.ref bs[i]) H3
        rw [← eb]
        exact hq _ s3
    · refine ⟨D, _, rfl, .inr (.inl (.inl hl)), ?_⟩
      have ecs : as.map V.ref ++ (given (bs.map V.ref).length (fun i => !decide (QQ.getD i (0, 0) ∈ PP)) (fun i => .ref (bs.getD i 0)) ++ []) = (as ++ ((List.range QQ.length).filter fun i => !decide (QQ.getD i (0, 0) ∈ PP)).map fun i => bs.getD i 0).map V.ref := by
        rw [List.append_nil, List.map_append, List.map_map, hlb]; rfl
      have eQ : QQ.filter (fun q => !decide (q ∈ PP)) = ((List.range QQ.length).filter fun i => !decide (QQ.getD i (0, 0) ∈ PP)).map fun i => QQ.getD i (0, 0) := filter_range QQ (0, 0) fun q => !decide (q ∈ PP)
      generalize hcs : as ++ ((List.range QQ.length).filter fun i => !decide (QQ.getD i (0, 0) ∈ PP)).map (fun i => bs.getD i 0) = cs at ecs
      have hl : cs.length = (bothP PP QQ).length := by
        rw [← hcs]; unfold bothP
        rw [eQ, List.length_append, List.length_append, List.length_map, List.length_map, ha2]
      have ok := both_ok okP okQ hlen
      have h3 : ∀ (i : Nat) (c : Addr) (p : Pr), cs[i]? = some c → (bothP PP QQ)[i]? = some p → SqT K H' c [V.int p.1, V.int p.2] := fun i c p e1 e2 => by
        rw [← hcs] at e1
        unfold bothP at e2
        rw [eQ] at e2
        by_cases hi : i < as.length
        · rw [List.getElem?_append_left hi] at e1
          rw [List.getElem?_append_left (by omega)] at e2
          exact sameT s' (ha3 i c p e1 e2)
        · rw [List.getElem?_append_right (by omega), List.getElem?_map] at e1
          rw [List.getElem?_append_right (by omega), List.getElem?_map, ← ha2] at e2
          cases e : ((List.range QQ.length).filter fun i => !decide (QQ.getD i (0, 0) ∈ PP))[i - as.length]? with
          | none => rw [e] at e1; cases e1
          | some j =>
            rw [e] at e1 e2
            have e3 : bs.getD j 0 = c := Option.some.inj e1
            have e4 : QQ.getD j (0, 0) = p := Option.some.inj e2
            have hj : j < QQ.length := List.mem_range.mp (List.mem_filter.mp (List.mem_of_getElem? e)).1
            have hjb : j < bs.length := by rw [hb2]; exact hj
            refine sameT s' (hb3 j c p ?_ ?_)
            · rw [← e3, List.getElem?_eq_getElem hjb]; simp [hjb]
            · rw [← e4, List.getElem?_eq_getElem hj]; simp [hj]
      show (as.map V.ref ++ (given _ _ _ ++ [])).length ≤ sizeLine ∧ _
      rw [ecs]
      have hfew := ok.few
      refine ⟨by rw [List.length_map, hl, sizeLine_eq]; omega, fun p hp => ?_⟩
      have s2 : Same H' (upd H' p (.lst (cs.map V.ref))) := sameW hp
      refine ⟨.ref p, rfl, p, cs.map V.ref, rfl, .inl (.inl (.inl upd_same)), _, _, rfl, rfl, _, rfl, ?_⟩
      rw [decide_eq_false (show ¬ (6 : Int) < ((cs.map V.ref).length : Int) by rw [List.length_map, hl]; omega)]
      refine iteF ?_
      refine ⟨.ref p, rfl, p, cs.map V.ref, rfl, .inr (.inl (.inl upd_same)), fun x dx nx ndx nex => ?_⟩
      have s3 : Same H (upd H' p (.lst (cs.map V.ref))) := s'.trans s2
      refine ⟨x, dx, cs, bothP PP QQ, rfl, upd_same, hl, fun i c pr e1 e2 => ?_, ok, fun t H2 s4 hx hp2 => ⟨rfl, ?_⟩⟩
      · refine sameT ?_ (h3 i c pr e1 e2)
        intro b o e
        rw [upd_ne (ne_of_none (s2 b o e) nx), upd_ne (ne_of_none (s2 b o e) ndx)]
        exact s2 b o e
      · exact q x H2 (s3.trans (made_lim (PP := []) (t := t) nx ndx s4)) ⟨dx, t, hx, hp2⟩
end
end B50

set_option Elab.async false
set_option linter.all false
set_option maxRecDepth 100000
set_option maxHeartbeats 4000000
/-! verdict. -/
namespace B50
open PySem PySem.Spec PyProof.Rows L2 BX BM
section
variable {P : Program} {w : World} {K : PySem.W.Frag} {mg : Str → Option Value} {base : Heap} {C : Addr}
theorem ltLine {n : Nat} (h : n ≤ 100000) : -(2 ^ 62) ≤ (n : Int) ∧ (n : Int) < 2 ^ 62 := by omega
/-- every stretch from s on is within all limits -/
def OkAt (PP : List Pr) (xs : List Int) (s : Nat) : Prop := ∀ p ∈ PP, ((xs.drop s).take p.1.toNat).sum ≤ p.2
theorem kept_of_all {PP : List Pr} {xs : List Int} (h : ∀ s, s < xs.length → OkAt PP xs s) : keptB PP xs = true := by
  unfold keptB
  rw [List.all_eq_true]
  intro s hs
  rw [List.all_eq_true]
  intro p hp
  exact decide_eq_true (h s (List.mem_range.mp hs) p hp)
theorem not_kept {PP : List Pr} {xs : List Int} {s : Nat} {p : Pr} (hs : s < xs.length) (hp : p ∈ PP) (h : p.2 < ((xs.drop s).take p.1.toNat).sum) : keptB PP xs = false := by
  cases e : keptB PP xs with
  | false => rfl
  | true =>
    unfold keptB at e
    rw [List.all_eq_true] at e
    have e1 := e s (List.mem_range.mpr hs)
    rw [List.all_eq_true] at e1
    have := of_decide_eq_true (e1 p hp)
    omega
def sp_first_broken (K : PySem.W.Frag) : Sp := fun vs H Q _ => ∃ (t r : Addr) (PP : List Pr) (xs : List Int), vs = [.ref t, .ref r] ∧ PairsAt K H t PP ∧ GoodP PP ∧ TI K H r xs ∧ xs.length ≤ 100000 ∧ (keptB PP xs = true → RetV H Q .non) ∧
  (keptB PP xs = false → ∀ (p : Addr) (H' : Hp) (i j k : Int), Same H H' → SqT K H' p [.int i, .int j, .int k] → Q (.ref p) H')
theorem d_first_broken (T : Txt K mg C) : D0 P w K mg base "first_broken" 2 (sp_first_broken K) := by
  have nd : (["pairs", "row", "start", "number", "length", "most", "amount"] : List Str).Nodup := by decide +kernel
  refine D0.ofN (N := ["pairs", "row", "start", "number", "length", "most", "amount"]) (ps := ["pairs", "row"]) T.g_first_broken ⟨rfl, rfl, rfl, nd, rfl, by decide +kernel, by decide +kernel⟩ (fun vs H Q E h => ?_) (fun _ _ _ _ _ _ us hl => match us, hl with | [_, _], _ => rfl) (fun f cdv A outer s H vs Q E hr h => ?_)
  · obtain ⟨t, r, PP, xs, rfl, _⟩ := h; rfl
  · obtain ⟨t, r, PP, xs, rfl, hP, hg, hT, hz, q1, q2⟩ := h
    obtain ⟨as, h1, h2, h3⟩ := id hP
    have hlr : (xs.map V.int).length = xs.length := List.length_map ..
    refine ⟨_, pss_cons (ps_for PassesOwn.never rfl (pi_range1 (by rfl) T.z_range (pa_cons (pe_callB call_len_seq (by rfl) T.z_len PySem.boot_len (pa_cons (pv 1) pa_nil)) pa_nil)) (pg_name (i := 2) nd rfl (.inl rfl))
        (pss_one (ps_for PassesOwn.never rfl (pi_enumT (by rfl) T.z_enumerate (pa_cons (pv 0) pa_nil)) (pg_tup rfl (pgs_cons (pg_name (i := 3) nd rfl (.inl rfl)) (pgs_cons (pg_tup rfl (pgs_cons (pg_name (i := 4) nd rfl (.inl rfl)) (pgs_cons (pg_name (i := 5) nd rfl (.inl rfl)) pgs_nil))) pgs_nil)))
          (pss_cons (ps_set (i := 6) nd rfl (.inl rfl) (pe_D (d_stretch T) hr (by rfl) (pa_cons (pv 1) (pa_cons (pv 2) (pa_cons (pv 4) pa_nil)))))
          (pss_one (ps_if (pt_cmpR op_gt (pv 6) (pv 5) (nomark _)) (pss_one (ps_ret (pe_tup (pa_cons (pv 2) (pa_cons (pv 3) (pa_cons (pv 6) pa_nil)))))) pss_nil))))))
      (pss_one (ps_ret pe_non)), ?_⟩
    refine ⟨.ref r, rfl, r, _, rfl, .inr hT, ((xs.map V.int).length : Int), rfl, (ltLine (by rw [hlr]; exact hz)).1, (ltLine (by rw [hlr]; exact hz)).2, ?_⟩
    rw [Int.toNat_natCast, hlr]
    refine for_it walk_range (fun i σ H2 => (∃ y2 y3 y4 y5 y6, σ = [some (.ref t), some (.ref r), y2, y3, y4, y5, y6]) ∧ Same H H2 ∧ ∀ s', s' < i → OkAt PP xs s') ⟨⟨_, _, _, _, _, rfl⟩, Same.refl H, fun s' hs => absurd hs (Nat.not_lt_zero _)⟩ (fun _ _ _ _ _ => trivial) (fun i x σ H2 H2' hi pvi y => ?_) (fun σ H2 pvn => ?_)
    · obtain ⟨⟨y2, y3, y4, y5, y6, rfl⟩, s2, hok⟩ := pvi
      obtain ⟨rfl, rfl⟩ := y
      -- for number, (length, most) in enumerate(pairs)
      refine ⟨.ref t, rfl, t, _, rfl, sameT s2 h1, ?_⟩
      refine for_it (walk_enumT (xs := as.map V.ref)) (fun j σ H3 => (∃ y3 y4 y5 y6, σ = [some (.ref t), some (.ref r), some (.int ((0 : Int) + i)), y3, y4, y5, y6]) ∧ Same H H3 ∧ ∀ p ∈ PP.take j, ((xs.drop i).take p.1.toNat).sum ≤ p.2) ⟨⟨_, _, _, _, rfl⟩, s2, fun p hp => by simp at hp⟩ (fun j σ H3 _ pvj => sameT pvj.2.1 h1) (fun j x σ H3 H3' hj pvj y => ?_) (fun σ H3 pvn => ?_)
      · obtain ⟨⟨y3, y4, y5, y6, rfl⟩, s3, hok2⟩ := pvj
        obtain ⟨TT, x1, x2, rfl, nT, rfl, e1, e2⟩ := y
        have hj2 : j < PP.length := by rw [← h2]; simpa using hj
        have hja : j < as.length := by rw [h2]; exact hj2
        have e2' : (as.map V.ref)[j]? = some x2 := e2
        rw [List.getElem?_map, List.getElem?_eq_getElem hja] at e2'
        obtain rfl : V.ref as[j] = x2 := Option.some.inj e2'
        have e1' : (some (V.int ((j : Nat) : Int)) : Option V) = some x1 := e1
        obtain rfl : V.int ((j : Nat) : Int) = x1 := Option.some.inj e1'
        have s4 : Same H (upd H3 TT (.tup [.int (j : Nat), .ref as[j]])) := s3.trans (sameW nT)
        have hpr := sameT s4 (h3 j as[j] PP[j] (List.getElem?_eq_getElem hja) (List.getElem?_eq_getElem hj2))
        have hp1 := (hg PP[j] (List.getElem_mem hj2)).1
        refine ⟨TT, _, rfl, .inl (.inl upd_same), rfl, _, _, rfl, _, _, rfl, ⟨as[j], _, rfl, hpr, rfl, _, _, rfl, _, _, rfl, rfl, rfl, ?_⟩⟩
        -- amount = stretch_sum(row, start, length)
        refine ⟨.ref r, rfl, .int ((0 : Int) + i), rfl, .int PP[j].1, rfl, r, xs, i, PP[j].1.toNat, by rw [Int.zero_add, Int.toNat_of_nonneg (by omega)], sameT s4 hT, hz, fun H5 s5 => ?_⟩
        refine ⟨_, rfl, _, rfl, ((xs.drop i).take PP[j].1.toNat).sum, PP[j].2, rfl, rfl, _, rfl, ?_⟩
        by_cases hb : PP[j].2 < ((xs.drop i).take PP[j].1.toNat).sum
        · rw [decide_eq_true hb]
          refine iteT ?_
          refine ⟨.int ((0 : Int) + i), rfl, .int (j : Nat), rfl, _, rfl, (by show 3 ≤ sizeLine; decide), fun p hp => ?_⟩
          exact q2 (not_kept hi (List.getElem_mem hj2) hb) p _ _ _ _ ((s4.trans s5).trans (sameW hp)) (.inl (.inl upd_same))
        · rw [decide_eq_false hb]
          refine iteF ?_
          refine ⟨⟨_, _, _, _, rfl⟩, s4.trans s5, fun p hp => ?_⟩
          rw [List.take_add_one, List.getElem?_eq_getElem hj2] at hp
          rcases List.mem_append.mp hp with z | z
          · exact hok2 p z
          · have : p = PP[j] := by simpa using z
            subst this
            omega
      · obtain ⟨⟨y3, y4, y5, y6, rfl⟩, s3, hok2⟩ := pvn
        refine ⟨⟨_, _, _, _, _, rfl⟩, s3, fun s' hs => ?_⟩
        by_cases e : s' = i
        · subst e
          intro p hp
          refine hok2 p ?_
          rw [List.take_of_length_le (by rw [List.length_map, h2]; exact Nat.le_refl _)]
          exact hp
        · exact hok s' (by omega)
    · obtain ⟨⟨y2, y3, y4, y5, y6, rfl⟩, s2, hok⟩ := pvn
      exact q1 (kept_of_all hok) _ s2
/-- verdict -/
def sp_verdict (K : PySem.W.Frag) (C : Addr) : Sp := fun vs H Q _ => ∃ (x r : Addr) (PP : List Pr) (xs : List Int), vs = [.ref x, .ref r] ∧ LimAt K C H x PP ∧ LimOk PP ∧ TI K H r xs ∧ RowOk xs ∧ xs.length ≤ 100000 ∧
  ∀ (p : Addr) (H' : Hp), Same H H' → (∃ vs, SqT K H' p vs ∧ ∃ ds, (∀ Hx : Hp, DpAll K Hx vs ds) ∧ SeqAt.shaped (.tuple ds) = true ∧ PyData.eqv (.tuple ds) (.tuple [.str "kept"]) = keptB PP xs) → Q (.ref p) H'
theorem d_verdict (T : Txt K mg C) : D0 P w K mg base "verdict" 5 (sp_verdict K C) := by
  obtain ⟨fp, fdp, pp, FP, hpp⟩ := T.prs
  obtain ⟨tk, mk⟩ := T.t_kept
  obtain ⟨tb, mb⟩ := T.t_broken
  have nd : (["limits", "row", "found"] : List Str).Nodup := by decide +kernel
  refine D0.ofN (N := ["limits", "row", "found"]) (ps := ["limits", "row"]) T.g_verdict ⟨rfl, rfl, rfl, nd, rfl, by decide +kernel, by decide +kernel⟩ (fun vs H Q E h => ?_) (fun _ _ _ _ _ _ us hl => match us, hl with | [_, _], _ => rfl) (fun f cdv A outer s H vs Q E hr h => ?_)
  · obtain ⟨x, r, PP, xs, rfl, _⟩ := h; rfl
  · obtain ⟨x, r, PP, xs, rfl, hL, ok, hT, hx, hz, q⟩ := h
    obtain ⟨dx, t, hxo, hP⟩ := id hL
    refine ⟨_, pss_cons (ps_expr (pe_D (d_need_limits T) hr (by rfl) (pa_cons (pv 0) pa_nil)))
      (pss_cons (ps_expr (pe_D (d_need_row T) hr (by rfl) (pa_cons (pv 1) pa_nil)))
      (pss_cons (ps_set (i := 2) nd rfl (.inl rfl) (pe_D (d_first_broken T) hr (by rfl) (pa_cons (pe_pairs (k := 2) T FP hpp (hr.mono (by decide)) (pv 0)) (pa_cons (pv 1) pa_nil))))
      (pss_one (ps_ret (pe_ifExp (pt_cmpR op_isN (pv 2) pe_non (nomark _)) (pe_tup (pa_cons (pe_gstr (by rfl) mk) pa_nil)) (pe_tup (pa_cons (pe_gstr (by rfl) mb) (StX.pa_star (pv 2) pa_nil)))))))), ?_⟩
    refine ⟨_, rfl, x, PP, rfl, hL, ?_⟩
    refine ⟨_, rfl, r, xs, rfl, hT, hx, hz, fun H1 s1 => ?_⟩
    refine ⟨_, rfl, x, dx, _, rfl, s1 _ _ hxo, x, dx, _, .ref t, rfl, s1 _ _ hxo, kept_look _, .ref r, rfl, ?_⟩
    refine ⟨t, r, PP, xs, rfl, hP.same s1, ok.g.g, sameT s1 hT, hz, fun hk H2 s2 => ?_, fun hk p H2 i j k s2 hp => ?_⟩
    · refine ⟨_, rfl, rfl, _, rfl, ?_⟩
      rw [decide_eq_true rfl]
      refine iteT ?_
      refine ⟨(by show 1 ≤ sizeLine; decide), fun p hp => q p _ ((s1.trans s2).trans (sameW hp)) ⟨_, .inl (.inl upd_same), [.str "kept"], fun _ => .cons (.str _) .nil, by decide +kernel, ?_⟩⟩
      rw [hk]
      decide +kernel
    · refine ⟨_, rfl, rfl, _, rfl, ?_⟩
      rw [decide_eq_false (fun e => by cases e)]
      refine iteF ?_
      refine ⟨_, rfl, p, _, rfl, .inl hp, (by show 4 ≤ sizeLine; decide), fun p2 hp2 => q p2 _ ((s1.trans s2).trans (sameW hp2)) ⟨_, .inl (.inl upd_same), [.str "broken", .int i, .int j, .int k], fun _ => .cons (.str _) (.cons (.int _) (.cons (.int _) (.cons (.int _) .nil))), ?_, ?_⟩⟩
      · show (PyData.canLay0 _ && decide (PyData.depth _ ≤ 64)) = true
        have e0 : PyData.strOk (Str.ofString "broken") = true := by decide +kernel
        simp [PyData.canLay0, PyData.canLayAll0, PyData.depth, PyData.depthAll, e0]
      · rw [hk]
        simp [PyData.eqv, PyData.eqvAll]
end
end B50

set_option Elab.async false
set_option linter.all false
set_option maxRecDepth 100000
set_option maxHeartbeats 4000000
/-! What is let through. -/
namespace B50
open PySem PySem.Spec PyProof.Rows L2 BX BM
theorem range_map {α : Type} (l : List Pr) (f : Pr → α) : (List.range l.length).map (fun i => f (l.getD i (0, 0))) = l.map f := by
  conv => rhs; rw [← range_getD l (0, 0)]
  rw [List.map_map]; rfl
/-- len -/
abbrev rLen (K : PySem.W.Frag) : List V → Hp → VK → Prop := fun xs H Q => ∃ p ys, xs = [.ref p] ∧ (SqL K H p ys ∨ SqT K H p ys) ∧ Q (.int ys.length) H
section
variable {P : Program} {w : World} {K : PySem.W.Frag} {mg : Str → Option Value} {base : Heap} {C : Addr}
/-- allowed_now -/
def sp_allowed (K : PySem.W.Frag) : Sp := fun vs H Q _ => ∃ (t th : Addr) (PP : List Pr) (xs : List Int), vs = [.ref t, .ref th] ∧ PairsAt K H t PP ∧ LimOk PP ∧ (SqL K H th (xs.map V.int) ∨ TI K H th xs) ∧ xs.length ≤ 100000 ∧ RetV H Q (.int (allowed PP xs))
theorem d_allowed (T : Txt K mg C) : D0 P w K mg base "allowed_now" 1 (sp_allowed K) := by
  have nd : (["pairs", "through", "length", "most"] : List Str).Nodup := by decide +kernel
  refine D0.ofN (N := ["pairs", "through", "length", "most"]) (ps := ["pairs", "through"]) T.g_allowed ⟨rfl, rfl, rfl, nd, rfl, by decide +kernel, by decide +kernel⟩ (fun vs H Q E h => ?_) (fun _ _ _ _ _ _ us hl => match us, hl with | [_, _], _ => rfl) (fun f cdv A outer s H vs Q E hr h => ?_)
  · obtain ⟨t, r, PP, xs, rfl, _⟩ := h; rfl
  · obtain ⟨t, th, PP, xs, rfl, hP, ok, hT, hz, q⟩ := h
    obtain ⟨as, h1, h2, h3⟩ := id hP
    have hlr : (xs.map V.int).length = xs.length := List.length_map ..
    have hlp : (as.map V.ref).length = PP.length := by rw [List.length_map]; exact h2
    refine ⟨_, pss_one (ps_ret (pe_callB (cr_min rfl) (by rfl) T.z_min (by decide +kernel) (pa_cons (pe_lc (own := [("length", 2), ("most", 3)]) (g := gTup K 2 (gCons (gName 2) (gCons (gName 3) gNil)))
        (by rfl) nd (pi_tup (pv 0)) (blkOk_by (own := [("length", 2), ("most", 3)]) (N := ["pairs", "through", "length", "most"]) (sc := defScope sAllowed) (by decide +kernel))
        (fun _ _ _ _ _ => pg_tup rfl (pgs_cons (pg_name (i := 2) nd rfl (Or.inl rfl)) (pgs_cons (pg_name (i := 3) nd rfl (Or.inl rfl)) pgs_nil))) (fun _ _ _ _ _ => pts_nil)
        (fun _ _ _ _ _ => pe_op op_sub (pv 3) (pe_callB (r := fun xs H Q => rSum K xs H Q ∨ rSumT K xs H Q) (CallR.or (cr_sum rfl) (cr_sumT rfl)) (by rfl) T.z_sum (by decide +kernel) (pa_cons (pe_slice (r := fun x lo hi H Q => rSlL K x lo hi H Q ∨ rSlA K x lo hi H Q) (SlR.or sl_list sl_tupA) (pv 1) (po_some (pe_callB (call_max2 rfl) (by rfl) T.z_max (by decide +kernel) (pa_cons pe_int (pa_cons (pe_op op_add (pe_op op_sub (pe_callB (r := rLen K) call_len_seq (by rfl) T.z_len PySem.boot_len (pa_cons (pv 1) pa_nil)) (pv 2)) pe_int) pa_nil)))) po_none) pa_nil)))) pa_nil))), ?_⟩
    refine ⟨.ref t, rfl, t, rfl, ⟨_, h1⟩, fun D hD => ?_⟩
    refine lc_pureA walk_tup (fun i => .int ((PP.getD i (0, 0)).2 - (xs.drop (xs.length + 1 - (PP.getD i (0, 0)).1.toNat)).sum)) hD (by rw [hlp]; have := ok.few; omega) (fun H' s' => sameT s' h1) (fun i x H' H2 k hi s1 y hk => ?_) (fun H' s' hl => ?_)
    · obtain ⟨rfl, hy⟩ := y
      have hiP : i < PP.length := by rw [← hlp]; exact hi
      have hia : i < as.length := by rw [h2]; exact hiP
      rw [List.getElem?_map, List.getElem?_eq_getElem hia] at hy
      obtain rfl : V.ref as[i] = x := Option.some.inj hy
      have hpr := sameT s1 (h3 i as[i] PP[i] (List.getElem?_eq_getElem hia) (List.getElem?_eq_getElem hiP))
      have eq : PP.getD i (0, 0) = PP[i] := by simp [hiP]
      have hp1 := (ok.g.g PP[i] (List.getElem_mem hiP)).1
      refine ⟨as[i], _, rfl, hpr, rfl, _, _, rfl, _, _, rfl, rfl, ?_⟩
      refine hk _ _ (Same.refl _) rfl fun H3 Q' s3 hq => ?_
      have hT3 : SqL K H3 th (xs.map V.int) ∨ TI K H3 th xs := hT.imp (fun z => Same.seq (s1.trans s3) z) fun z => sameT (s1.trans s3) z
      refine ⟨_, rfl, .ref th, rfl, ?_⟩
      refine ⟨.ref th, rfl, th, _, rfl, hT3, .int PP[i].1, rfl, _, _, rfl, rfl, _, _, rfl, rfl, ?_⟩
      have est : (if ((xs.map V.int).length : Int) - PP[i].1 + 1 > 0 then ((xs.map V.int).length : Int) - PP[i].1 + 1 else 0) = ((xs.length + 1 - PP[i].1.toNat : Nat) : Int) := by
        rw [hlr]; split <;> omega
      refine ⟨0, _, rfl, _, rfl, ?_⟩
      rw [est]
      have hq2 := fun H5 (s5 : Same H3 H5) => hq H5 (s3.trans s5)
      rw [eq] at hq2
      rcases hT3 with hT3 | hT3
      · refine .inl ⟨th, _, rfl, hT3, fun p hp => ?_⟩
        refine .inl ⟨p, xs.drop (xs.length + 1 - PP[i].1.toNat), rfl, .inl (.inl ?_), ⟨_, _, rfl, rfl, hq2 _ (sameW hp)⟩⟩
        rw [upd_same, cutV_n0, List.map_drop]
      · refine .inr (slA_to hT3 fun p H5 s5 hp => ?_)
        rw [cutV_n0, ← List.map_drop] at hp
        exact .inr ⟨p, xs.drop (xs.length + 1 - PP[i].1.toNat), rfl, hp, ⟨_, _, rfl, rfl, hq2 _ s5⟩⟩
    · refine ⟨D, alw PP xs, rfl, .inl (.inl ?_), ?_, fun m hm hle => ?_⟩
      · rw [hl, hlp]
        unfold alw
        rw [← range_map PP fun p => p.2 - (xs.drop (xs.length + 1 - p.1.toNat)).sum, List.map_map]
        rfl
      · unfold alw
        rw [List.length_map]
        exact List.length_pos_iff.mpr ok.g.ne
      · show Q (.int m) H'
        rw [minI_eq hm hle]
        exact q _ s'
/-- let_through -/
def sp_let (K : PySem.W.Frag) : Sp := fun vs H Q _ => ∃ (t r : Addr) (PP : List Pr) (xs : List Int), vs = [.ref t, .ref r] ∧ PairsAt K H t PP ∧ LimOk PP ∧ TI K H r xs ∧ RowOk xs ∧ xs.length ≤ 50000 ∧ RetT K H Q ((passedL PP xs).map V.int)
theorem d_let (T : Txt K mg C) : D0 P w K mg base "let_through" 2 (sp_let K) := by
  have nd : (["pairs", "row", "through", "waiting_now", "tick", "amount"] : List Str).Nodup := by decide +kernel
  refine D0.ofN (N := ["pairs", "row", "through", "waiting_now", "tick", "amount"]) (ps := ["pairs", "row"]) T.g_let_through ⟨rfl, rfl, rfl, nd, rfl, by decide +kernel, by decide +kernel⟩ (fun vs H Q E h => ?_) (fun _ _ _ _ _ _ us hl => match us, hl with | [_, _], _ => rfl) (fun f cdv A outer s H vs Q E hr h => ?_)
  · obtain ⟨t, r, PP, xs, rfl, _⟩ := h; rfl
  · obtain ⟨t, r, PP, xs, rfl, hP, ok, hT, hx, hz, q⟩ := h
    have hlr : (xs.map V.int).length = xs.length := List.length_map ..
    obtain ⟨hs1, hs2, hs3, hs4⟩ := stop_spec ok.g hx
    refine ⟨_, pss_cons (ps_par (i := 2) (j := 3) rfl nd rfl rfl (by decide) rfl rfl (pa_cons (pe_lst pa_nil) (pa_cons pe_int pa_nil)) (by rfl))
      (pss_cons (ps_while PassesOwn.never (PW.pt (pw_or (pt_cmpR op_lt (pe_callB call_len_seq (by rfl) T.z_len PySem.boot_len (pa_cons (pv 2) pa_nil)) (pe_callB call_len_seq (by rfl) T.z_len PySem.boot_len (pa_cons (pv 1) pa_nil)) (nomark _)) (pw_or1 (pt_cmpR op_gt (pv 3) pe_int (nomark _)))))
        (pss_cons (ps_set (i := 4) nd rfl (.inl rfl) (pe_callB call_len_seq (by rfl) T.z_len PySem.boot_len (pa_cons (pv 2) pa_nil)))
        (pss_cons (ps_set (i := 3) nd rfl (.inl rfl) (pe_op op_add (pv 3) (pe_ifExp (pt_cmpR op_lt (pv 4) (pe_callB call_len_seq (by rfl) T.z_len PySem.boot_len (pa_cons (pv 1) pa_nil)) (nomark _)) (pe_ix ix_tup (pv 1) (pv 4) (fun _ _ => rfl)) pe_int)))
        (pss_cons (ps_set (i := 5) nd rfl (.inl rfl) (pe_callB (call_min2 rfl) (by rfl) T.z_min (by decide +kernel) (pa_cons (pv 3) (pa_cons (pe_D (d_allowed T) hr (by rfl) (pa_cons (pv 0) (pa_cons (pv 2) pa_nil))) pa_nil))))
        (pss_cons (ps_expr (pe_bm PySem.F.plainAttrs_list PySem.F.slot_list_append PySem.F.type_list_append mt_append (pv 2) (pa_cons (pv 5) pa_nil)))
        (pss_one (ps_set (i := 3) nd rfl (.inl rfl) (pe_op op_sub (pv 3) (pv 5)))))))))
      (pss_one (ps_ret (pe_callTy call_tuple_of (by rfl) T.z_tuple (by decide +kernel) (pa_cons (pv 2) pa_nil))))), ?_⟩
    refine ⟨(by show 0 ≤ sizeLine; decide), fun L hL => ⟨_, _, rfl, ?_⟩⟩
    refine ⟨fun m σ H2 => ∃ k, m + k = stop PP xs ∧ (∃ y4 y5, σ = [some (.ref t), some (.ref r), some (.ref L), some (.int (cum xs k - R PP xs k)), y4, y5]) ∧ Same H H2 ∧ H2 L = some (.lst ((thr PP xs k).map V.int)), ⟨_, 0, rfl, ⟨none, none, ?_⟩, sameW hL, ?_⟩, ?_⟩
    · rw [cum_zero, R_zero]; rfl
    · rw [upd_same]; rfl
    · rintro m σ H2 ⟨k, hk, ⟨y4, y5, rfl⟩, s2, hl⟩
      have hlt : ((thr PP xs k).map V.int).length = k := by rw [List.length_map, thr_len]
      have hT2 := sameT s2 hT
      have hP2 := hP.same s2
      have hks : k ≤ stop PP xs := by omega
      have hL2 : SqL K H2 L ((thr PP xs k).map V.int) := .inl (.inl hl)
      -- the test
      refine ⟨.ref L, rfl, L, _, rfl, .inl hL2, .ref r, rfl, r, _, rfl, .inr hT2, _, _, rfl, rfl, _, rfl, ?_⟩
      rw [hlt, hlr]
      have yes : k < stop PP xs → ∃ N : L2.St → Hp → Prop, (∀ σ' H', N σ' H' → ∃ m', m' < m ∧ ∃ k, m' + k = stop PP xs ∧ (∃ y4 y5, σ' = [some (.ref t), some (.ref r), some (.ref L), some (.int (cum xs k - R PP xs k)), y4, y5]) ∧ Same H H' ∧ H' L = some (.lst ((thr PP xs k).map V.int))) ∧
          ∀ σ' H', (∃ y4 y5, σ' = [some (.ref t), some (.ref r), some (.ref L), some (.int (cum xs (k + 1) - R PP xs (k + 1))), y4, y5]) → Same H H' → H' L = some (.lst ((thr PP xs (k + 1)).map V.int)) → N σ' H' := fun hlk =>
        ⟨fun σ' H' => (∃ y4 y5, σ' = [some (.ref t), some (.ref r), some (.ref L), some (.int (cum xs (k + 1) - R PP xs (k + 1))), y4, y5]) ∧ Same H H' ∧ H' L = some (.lst ((thr PP xs (k + 1)).map V.int)), fun σ' H' h => ⟨m - 1, by omega, k + 1, by omega, h.1, h.2.1, h.2.2⟩, fun σ' H' a b c => ⟨a, b, c⟩⟩
      have hlk : (decide ((k : Int) < (xs.length : Int)) = true ∨ decide (0 < cum xs k - R PP xs k) = true) → k < stop PP xs := fun h => by
        refine Nat.lt_of_le_of_ne hks fun e => ?_
        rw [← e] at hs1 hs2
        rcases h with h | h
        · have := of_decide_eq_true h; omega
        · have := of_decide_eq_true h
          rw [cum_full hs1, hs2] at this; omega
      have hend : decide ((k : Int) < (xs.length : Int)) = false → decide (0 < cum xs k - R PP xs k) = false → k = stop PP xs := fun h1 h2 => by
        have h1 := of_decide_eq_false h1
        have h2 := of_decide_eq_false h2
        have h3 := R_le ok.g xs k
        have h4 : cum xs k = xs.sum := cum_full (by omega)
        rcases Nat.lt_or_ge k (stop PP xs) with z | z
        · have := hs4 k z
          rw [isEnd_iff.mpr ⟨by omega, by omega⟩] at this
          cases this
        · omega
      have hz2 : k ≤ 100000 := by omega
      by_cases hk2 : k < stop PP xs
      · obtain ⟨N, hN1, hN2⟩ := yes hk2
        have hmin : (if allowed PP (thr PP xs k) < cum xs k - R PP xs k + xs.getD k 0 then allowed PP (thr PP xs k) else cum xs k - R PP xs k + xs.getD k 0) = amt PP xs (thr PP xs k) := by
          unfold amt
          rw [thr_len, cum_succ]
          show _ = min (_ - R PP xs k) _
          split <;> omega
        have hR := R_succ PP xs k
        have hC := cum_succ xs k
        cases c1 : decide ((k : Int) < (xs.length : Int))
        case' true => refine iteT (iteT ⟨N, hN1, ?_⟩)
        case' false =>
          refine iteF ⟨_, rfl, _, _, rfl, rfl, _, rfl, ?_⟩
          have c2 : decide (0 < cum xs k - R PP xs k) = true := by
            cases e : decide (0 < cum xs k - R PP xs k) with
            | true => rfl
            | false => have := hend c1 e; omega
          rw [c2]
          refine iteT ⟨N, hN1, ?_⟩
        all_goals
          refine ⟨.ref L, rfl, L, _, rfl, .inl hL2, ?_⟩
          rw [hlt]
          refine ⟨_, rfl, _, rfl, .ref r, rfl, r, _, rfl, .inr hT2, _, _, rfl, rfl, _, rfl, ?_⟩
          rw [hlr, c1]
        case' true =>
          have hkl : k < xs.length := by have := of_decide_eq_true c1; omega
          refine iteT ⟨.ref r, rfl, .int k, rfl, r, _, k, .int (xs.getD k 0), rfl, rfl, hT2, atI_nat (j := k) (by rw [List.getElem?_map, List.getElem?_eq_getElem hkl]; simp [hkl]), ?_⟩
        case' false =>
          have hkl : xs.getD k 0 = 0 := by
            have := of_decide_eq_false c1
            rw [List.getD_eq_getElem?_getD, List.getElem?_eq_none (by omega)]; rfl
          refine iteF ?_
        case' true => refine ⟨_, xs.getD k 0, rfl, rfl, ?_⟩
        case' false => refine ⟨_, xs.getD k 0, rfl, by rw [hkl], ?_⟩
        all_goals
          refine ⟨.int (cum xs k - R PP xs k + xs.getD k 0), rfl, .ref t, rfl, .ref L, rfl, t, L, PP, thr PP xs k, rfl, hP2, ok, .inl hL2, by rw [thr_len]; exact hz2, fun H5 s5 => ?_⟩
          have hl5 := s5 _ _ hl
          refine ⟨_, _, rfl, ?_⟩
          rw [hmin]
          refine ⟨.ref L, rfl, .inl ⟨rfl, _, .inl (.inl hl5)⟩, .int (amt PP xs (thr PP xs k)), rfl, L, _, _, rfl, rfl, hl5, by rw [hlt]; exact smallK hz2, ?_⟩
          refine ⟨.int (cum xs k - R PP xs k + xs.getD k 0), rfl, .int (amt PP xs (thr PP xs k)), rfl, _, _, rfl, rfl, ?_⟩
          refine hN2 _ _ ⟨some (.int k), some (.int (amt PP xs (thr PP xs k))), ?_⟩ (sameM (s2.trans s5) hL) ?_
          · show [some (V.ref t), some (V.ref r), some (V.ref L), some (V.int (cum xs k - R PP xs k + xs.getD k 0 - amt PP xs (thr PP xs k))), some (V.int k), some (V.int (amt PP xs (thr PP xs k)))] = _
            rw [hR, hC]
            congr 6
            omega
          · rw [upd_same]
            show some (HO.lst ((thr PP xs k).map V.int ++ [V.int (amt PP xs (thr PP xs k))])) = some (HO.lst ((thr PP xs k ++ [amt PP xs (thr PP xs k)]).map V.int))
            rw [List.map_append]; rfl
      · have ek : k = stop PP xs := by omega
        have c1 : decide ((k : Int) < (xs.length : Int)) = false := by
          cases e : decide ((k : Int) < (xs.length : Int)) with
          | false => rfl
          | true => exact absurd (hlk (.inl e)) hk2
        have c2 : decide (0 < cum xs k - R PP xs k) = false := by
          cases e : decide (0 < cum xs k - R PP xs k) with
          | false => rfl
          | true => exact absurd (hlk (.inr e)) hk2
        rw [c1]
        refine iteF ⟨_, rfl, _, _, rfl, rfl, _, rfl, ?_⟩
        rw [c2]
        refine iteF ?_
        refine ⟨.ref L, rfl, L, _, rfl, .inl ⟨hL2, fun p hp => ?_⟩⟩
        rw [ek]
        exact q p _ (s2.trans (sameW hp)) (.inl (.inl upd_same))
/-- passed -/
def sp_passed (K : PySem.W.Frag) (C : Addr) : Sp := fun vs H Q _ => ∃ (x r : Addr) (PP : List Pr) (xs : List Int), vs = [.ref x, .ref r] ∧ LimAt K C H x PP ∧ LimOk PP ∧ TI K H r xs ∧ RowOk xs ∧ xs.length ≤ 50000 ∧ RetT K H Q ((passedL PP xs).map V.int)
theorem d_passed (T : Txt K mg C) : D0 P w K mg base "passed" 5 (sp_passed K C) := by
  obtain ⟨fp, fdp, pp, FP, hpp⟩ := T.prs
  refine D0.ofN (N := ["limits", "row"]) (ps := ["limits", "row"]) T.g_passed ⟨rfl, rfl, rfl, by decide +kernel, rfl, by decide +kernel, by decide +kernel⟩ (fun vs H Q E h => ?_) (fun _ _ _ _ _ _ us hl => match us, hl with | [_, _], _ => rfl) (fun f cdv A outer s H vs Q E hr h => ?_)
  · obtain ⟨x, r, PP, xs, rfl, _⟩ := h; rfl
  · obtain ⟨x, r, PP, xs, rfl, hL, ok, hT, hx, hz, q⟩ := h
    obtain ⟨dx, t, hxo, hP⟩ := id hL
    refine ⟨_, pss_cons (ps_expr (pe_D (d_need_limits T) hr (by rfl) (pa_cons (pv 0) pa_nil)))
      (pss_cons (ps_expr (pe_D (d_need_row T) hr (by rfl) (pa_cons (pv 1) pa_nil)))
      (pss_one (ps_ret (pe_D (d_let T) hr (by rfl) (pa_cons (pe_pairs (k := 2) T FP hpp (hr.mono (by decide)) (pv 0)) (pa_cons (pv 1) pa_nil)))))), ?_⟩
    refine ⟨_, rfl, x, PP, rfl, hL, ?_⟩
    refine ⟨_, rfl, r, xs, rfl, hT, hx, by omega, fun H1 s1 => ?_⟩
    refine ⟨_, rfl, x, dx, _, rfl, s1 _ _ hxo, x, dx, _, .ref t, rfl, s1 _ _ hxo, kept_look _, .ref r, rfl, ?_⟩
    exact ⟨t, r, PP, xs, rfl, hP.same s1, ok, sameT s1 hT, hx, hz, fun p H2 s2 hp => q p H2 (s1.trans s2) hp⟩
end
end B50

set_option Elab.async false
set_option linter.all false
set_option maxRecDepth 100000
set_option maxHeartbeats 4000000
/-! How long they wait. -/
namespace B50
open PySem PySem.Spec PyProof.Rows L2 BX BM GenW
theorem ticks_len_le {xs : List Int} (hx : RowOk xs) : (ticksL xs).length ≤ 60 := by
  have := ticks_len hx.1 0
  have := hx.2
  unfold ticksL; omega
theorem rowTake {xs : List Int} (hx : RowOk xs) (i : Nat) : RowOk (xs.take i) := ⟨fun a ha => hx.1 a (List.mem_of_mem_take ha), by have h1 := cum_le_sum hx.1 i; have h2 := hx.2; unfold cum at h1; omega⟩
section
variable {P : Program} {w : World} {K : PySem.W.Frag} {mg : Str → Option Value} {base : Heap} {C : Addr}
/-- ticks_of -/
def sp_ticks (K : PySem.W.Frag) : Sp := fun vs H Q _ => ∃ (r : Addr) (xs : List Int), vs = [.ref r] ∧ TI K H r xs ∧ RowOk xs ∧ xs.length ≤ 100000 ∧ RetL H Q ((ticksL xs).map V.int)
theorem d_ticks (T : Txt K mg C) : D0 P w K mg base "ticks_of" 1 (sp_ticks K) := by
  have nd : (["row", "tick", "amount", "one"] : List Str).Nodup := by decide +kernel
  refine D0.ofN (N := ["row", "tick", "amount", "one"]) (ps := ["row"]) T.g_ticks_of ⟨rfl, rfl, rfl, nd, rfl, by decide +kernel, by decide +kernel⟩ (fun vs H Q E h => ?_) (fun _ _ _ _ _ _ us hl => match us, hl with | [_], _ => rfl) (fun f cdv A outer s H vs Q E hr h => ?_)
  · obtain ⟨r, xs, rfl, _⟩ := h; rfl
  · obtain ⟨r, xs, rfl, hT, hx, hz, q⟩ := h
    have hlr : (xs.map V.int).length = xs.length := List.length_map ..
    refine ⟨_, pss_one (ps_ret (pe_lc2 (own := [("tick", 1), ("amount", 2), ("one", 3)]) (vs1 := [3]) (g := gTup K 2 (gCons (gName 1) (gCons (gName 2) gNil))) (g1 := gName 3)
        (by rfl) nd (pi_enumT (by rfl) T.z_enumerate (pa_cons (pv 0) pa_nil)) (blkOk_by (own := [("tick", 1), ("amount", 2), ("one", 3)]) (N := ["row", "tick", "amount", "one"]) (sc := defScope sTicksOf) (by decide +kernel)) (by decide)
        (fun _ _ _ _ _ => pg_tup rfl (pgs_cons (pg_name (i := 1) nd rfl (Or.inl rfl)) (pgs_cons (pg_name (i := 2) nd rfl (Or.inl rfl)) pgs_nil))) (fun _ _ _ _ _ => pts_nil)
        (fun _ _ _ _ _ => pi_range1 (by rfl) T.z_range (pa_cons (pv 2) pa_nil))
        (fun _ _ _ _ _ => pg_name (i := 3) nd rfl (Or.inl rfl)) (fun _ _ _ _ _ => pts_nil) (fun _ _ _ _ _ => pv 1))), ?_⟩
    refine ⟨.ref r, rfl, r, _, rfl, hT, fun D hD => ?_⟩
    refine lc2_itA (walk_enumT (xs := xs.map V.int)) (fun i H2 => Same H H2 ∧ H2 D = some (.lst ((ticksL (xs.take i)).map V.int))) ⟨sameW hD, upd_same⟩ (fun i H2 _ pv => sameT pv.1 hT) (fun i x H2 H2' hi pvi y => ?_) (fun H2 pvn => ?_)
    · obtain ⟨s2, hd⟩ := pvi
      obtain ⟨TT, x1, x2, rfl, nT, rfl, e1, e2⟩ := y
      have hix : i < xs.length := by rw [← hlr]; exact hi
      have e2' : (xs.map V.int)[i]? = some x2 := e2
      rw [List.getElem?_map, List.getElem?_eq_getElem hix] at e2'
      obtain rfl : V.int xs[i] = x2 := Option.some.inj e2'
      have e1' : (some (V.int ((i : Nat) : Int)) : Option V) = some x1 := e1
      obtain rfl : V.int ((i : Nat) : Int) = x1 := Option.some.inj e1'
      have s4 := sameW (o := .tup [.int (i : Nat), .int xs[i]]) nT
      have h0 := hx.1 xs[i] (List.getElem_mem hix)
      have h6 := mem_le_sum hx.1 xs[i] (List.getElem_mem hix)
      have h7 := hx.2
      refine ⟨TT, _, rfl, .inl (.inl upd_same), rfl, _, _, rfl, _, _, rfl, rfl, rfl, ?_⟩
      refine ⟨_, rfl, xs[i], rfl, by omega, by omega, ?_⟩
      refine lc1_itA walk_range (fun j H3 => Same H H3 ∧ H3 D = some (.lst ((ticksL (xs.take i) ++ List.replicate j (i : Int)).map V.int))) ⟨s2.trans s4, ?_⟩ (fun _ _ _ _ => trivial) (fun j x H3 H3' hj pvj y => ?_) (fun H3 pvj => ?_)
      · rw [s4 _ _ hd, List.replicate_zero, List.append_nil]
      · obtain ⟨s5, hd5⟩ := pvj
        obtain ⟨rfl, rfl⟩ := y
        refine ⟨rfl, .int i, rfl, _, hd5, ?_, sameM s5 hD, ?_⟩
        · rw [List.length_map, List.length_append, List.length_replicate]
          have := ticks_len_le (rowTake hx i)
          exact smallK (by omega)
        · rw [upd_same]
          rw [List.replicate_succ', ← List.append_assoc, List.map_append (l₁ := ticksL (xs.take i) ++ List.replicate j (i : Int))]
          rfl
      · refine ⟨pvj.1, ?_⟩
        rw [pvj.2, List.take_add_one, List.getElem?_eq_getElem hix]
        show _ = some (HO.lst ((ticksL (xs.take i ++ [xs[i]])).map V.int))
        rw [ticks_snoc, List.length_take, show min i xs.length = i by omega]
    · refine q D H2 pvn.1 hD ?_
      rw [pvn.2, hlr, List.take_length]
/-- waits_of -/
def sp_waits_of (K : PySem.W.Frag) : Sp := fun vs H Q _ => ∃ (t r : Addr) (PP : List Pr) (xs : List Int), vs = [.ref t, .ref r] ∧ PairsAt K H t PP ∧ LimOk PP ∧ TI K H r xs ∧ RowOk xs ∧ xs.length ≤ 50000 ∧ RetT K H Q ((waitsL PP xs).map V.int)
theorem d_waits_of (T : Txt K mg C) : D0 P w K mg base "waits_of" 3 (sp_waits_of K) := by
  have nd : (["pairs", "row", "came", "went", "before", "after"] : List Str).Nodup := by decide +kernel
  refine D0.ofN (N := ["pairs", "row", "came", "went", "before", "after"]) (ps := ["pairs", "row"]) T.g_waits_of ⟨rfl, rfl, rfl, nd, rfl, by decide +kernel, by decide +kernel⟩ (fun vs H Q E h => ?_) (fun _ _ _ _ _ _ us hl => match us, hl with | [_, _], _ => rfl) (fun f cdv A outer s H vs Q E hr h => ?_)
  · obtain ⟨t, r, PP, xs, rfl, _⟩ := h; rfl
  · obtain ⟨t, r, PP, xs, rfl, hP, ok, hT, hx, hz, q⟩ := h
    have hp := passed_ok ok.g hx
    have hpl := passed_len_le ok.g hx
    refine ⟨_, pss_cons (ps_par (i := 2) (j := 3) rfl nd rfl rfl (by decide) rfl rfl (pa_cons (pe_D (d_ticks T) hr (by rfl) (pa_cons (pv 1) pa_nil)) (pa_cons (pe_D (d_ticks T) hr (by rfl) (pa_cons (pe_D (d_let T) hr (by rfl) (pa_cons (pv 0) (pa_cons (pv 1) pa_nil))) pa_nil)) pa_nil)) (by rfl))
      (pss_one (ps_ret (pe_callTy call_tuple_of (by rfl) T.z_tuple (by decide +kernel) (pa_cons (pe_lc (own := [("before", 4), ("after", 5)]) (g := gTup K 2 (gCons (gName 4) (gCons (gName 5) gNil))) (by rfl) nd (pi_zip (by rfl) T.z_zip (pa_cons (pv 2) (pa_cons (pv 3) pa_nil))) (blkOk_by (own := [("before", 4), ("after", 5)]) (N := ["pairs", "row", "came", "went", "before", "after"]) (sc := defScope sWaitsOf) (by decide +kernel))
        (fun _ _ _ _ _ => pg_tup rfl (pgs_cons (pg_name (i := 4) nd rfl (Or.inl rfl)) (pgs_cons (pg_name (i := 5) nd rfl (Or.inl rfl)) pgs_nil))) (fun _ _ _ _ _ => pts_nil) (fun _ _ _ _ _ => pe_op op_sub (pv 5) (pv 4))) pa_nil)))), ?_⟩
    refine ⟨.ref r, rfl, r, xs, rfl, hT, hx, by omega, fun L1 H1 s1 n1 e1 => ?_⟩
    refine ⟨.ref t, rfl, .ref r, rfl, t, r, PP, xs, rfl, hP.same s1, ok, sameT s1 hT, hx, hz, fun p H2 s2 hp2 => ?_⟩
    refine ⟨p, passedL PP xs, rfl, hp2, hp, by omega, fun L2 H3 s3 n3 e3 => ⟨_, _, rfl, ?_⟩⟩
    have s03 := (s1.trans s2).trans s3
    have e1' := s3 _ _ (s2 _ _ e1)
    have hl12 := ticks_same ok.g hx
    refine ⟨.ref L1, rfl, .ref L2, rfl, L1, L2, _, _, rfl, .inl (.inl e1'), .inl (.inl e3), fun D hD => ?_⟩
    have hwl : (waitsL PP xs).length = (ticksL xs).length := by unfold waitsL; rw [List.length_zipWith]; omega
    refine lc_pureA (n := (ticksL xs).length) (walk_zip (by rw [List.length_map, List.length_map]; omega)) (fun i => .int ((waitsL PP xs).getD i 0)) hD (by have := ticks_len_le hx; omega) (fun H' s' => ⟨.inl (.inl (s' _ _ e1')), .inl (.inl (s' _ _ e3))⟩) (fun i x H' H2 k hi s1 y hk => ?_) (fun H' s' hl => ?_)
    · obtain ⟨TT, x1, x2, rfl, nT, rfl, f1, f2⟩ := y
      have hi2 : i < (ticksL (passedL PP xs)).length := by omega
      have f1' : ((ticksL xs).map V.int)[i]? = some x1 := f1
      have f2' : ((ticksL (passedL PP xs)).map V.int)[i]? = some x2 := f2
      rw [List.getElem?_map, List.getElem?_eq_getElem hi] at f1'
      rw [List.getElem?_map, List.getElem?_eq_getElem hi2] at f2'
      obtain rfl : V.int (ticksL xs)[i] = x1 := Option.some.inj f1'
      obtain rfl : V.int (ticksL (passedL PP xs))[i] = x2 := Option.some.inj f2'
      refine ⟨TT, _, rfl, .inl (.inl upd_same), rfl, _, _, rfl, _, _, rfl, rfl, ?_⟩
      refine hk _ _ (sameW nT) rfl fun H3 Q' s3 hq => ?_
      refine ⟨_, rfl, _, rfl, _, _, rfl, rfl, ?_⟩
      have ew : (waitsL PP xs).getD i 0 = (ticksL (passedL PP xs))[i] - (ticksL xs)[i] := by
        show (List.zipWith (fun a b => b - a) (ticksL xs) (ticksL (passedL PP xs))).getD i 0 = _
        rw [List.getD_eq_getElem?_getD, List.getElem?_zipWith, List.getElem?_eq_getElem hi, List.getElem?_eq_getElem hi2]; rfl
      have hq2 := hq H3 s3
      rw [ew] at hq2
      exact hq2
    · refine ⟨D, _, rfl, .inl ⟨.inl (.inl hl), fun p hp => ?_⟩⟩
      refine q p _ ((s03.trans s').trans (sameW hp)) (.inl (.inl ?_))
      rw [upd_same]
      conv => rhs; rw [← range_getD (waitsL PP xs) 0, List.map_map]
      rw [hwl]; rfl
/-- waits -/
def sp_waits (K : PySem.W.Frag) (C : Addr) : Sp := fun vs H Q _ => ∃ (x r : Addr) (PP : List Pr) (xs : List Int), vs = [.ref x, .ref r] ∧ LimAt K C H x PP ∧ LimOk PP ∧ TI K H r xs ∧ RowOk xs ∧ xs.length ≤ 50000 ∧ RetT K H Q ((waitsL PP xs).map V.int)
theorem d_waits (T : Txt K mg C) : D0 P w K mg base "waits" 5 (sp_waits K C) := by
  obtain ⟨fp, fdp, pp, FP, hpp⟩ := T.prs
  refine D0.ofN (N := ["limits", "row"]) (ps := ["limits", "row"]) T.g_waits ⟨rfl, rfl, rfl, by decide +kernel, rfl, by decide +kernel, by decide +kernel⟩ (fun vs H Q E h => ?_) (fun _ _ _ _ _ _ us hl => match us, hl with | [_, _], _ => rfl) (fun f cdv A outer s H vs Q E hr h => ?_)
  · obtain ⟨x, r, PP, xs, rfl, _⟩ := h; rfl
  · obtain ⟨x, r, PP, xs, rfl, hL, ok, hT, hx, hz, q⟩ := h
    obtain ⟨dx, t, hxo, hP⟩ := id hL
    refine ⟨_, pss_cons (ps_expr (pe_D (d_need_limits T) hr (by rfl) (pa_cons (pv 0) pa_nil)))
      (pss_cons (ps_expr (pe_D (d_need_row T) hr (by rfl) (pa_cons (pv 1) pa_nil)))
      (pss_one (ps_ret (pe_D (d_waits_of T) hr (by rfl) (pa_cons (pe_pairs (k := 2) T FP hpp (hr.mono (by decide)) (pv 0)) (pa_cons (pv 1) pa_nil)))))), ?_⟩
    refine ⟨_, rfl, x, PP, rfl, hL, ?_⟩
    refine ⟨_, rfl, r, xs, rfl, hT, hx, by omega, fun H1 s1 => ?_⟩
    refine ⟨_, rfl, x, dx, _, rfl, s1 _ _ hxo, x, dx, _, .ref t, rfl, s1 _ _ hxo, kept_look _, .ref r, rfl, ?_⟩
    exact ⟨t, r, PP, xs, rfl, hP.same s1, ok, sameT s1 hT, hx, hz, fun p H2 s2 hp => q p H2 (s1.trans s2) hp⟩
end
end B50

set_option Elab.async false
set_option linter.all false
set_option maxRecDepth 100000
set_option maxHeartbeats 4000000
/-! The generator waiting. -/
namespace B50
open PySem PySem.Spec PyProof.Rows L2 BX BM GenW
section
variable {P : Program} {w : World} {K : PySem.W.Frag} {mg : Str → Option Value} {base : Heap} {C : Addr}
/-- a generator def's promise by its name -/
structure G0 (P : Program) (w : World) (K : PySem.W.Frag) (mg : Str → Option Value) (base : Heap) (x : Str) (k : Nat) (ps : List Str) (sp : SpG) : Prop where
  ex : ∃ f fd, GFn P w K mg base k f fd ps sp ∧ Binds K fd ps [] ∧ mg x = some (.ref f) ∧ PySem.W.keepIn K (.ref f) = true
theorem noStop0 {K : PySem.W.Frag} : NoStop K E0 := fun _ _ _ h => h.elim
def sp_waiting (K : PySem.W.Frag) (C : Addr) : SpG := fun vs H cont _ => ∃ (x r : Addr) (PP : List Pr) (xs : List Int), vs = [.ref x, .ref r] ∧ LimAt K C H x PP ∧ LimOk PP ∧ TI K H r xs ∧ RowOk xs ∧ xs.length ≤ 50000 ∧ ∀ H', Same H H' → cont ((waitingL PP xs).map V.int) H'
theorem d_waiting (T : Txt K mg C) : G0 P w K mg base "waiting" 6 ["limits", "row"] (sp_waiting K C) := by
  obtain ⟨fp, fdp, pp, FP, hpp⟩ := T.prs
  obtain ⟨f, fd, F, hm⟩ := T.g_waiting
  have nd : (["limits", "row", "count", "tick", "amount"] : List Str).Nodup := by decide +kernel
  obtain ⟨oc, od, kV, doc, pm, an, cdv, ct, osl, rfl, lk, hcd⟩ := F.ex
  refine ⟨f, _, ?_, F.binds (ps := ["limits", "row"]) (fun _ _ _ _ _ _ us hl => match us, hl with | [_, _], _ => rfl), hm, F.kp⟩
  refine gfn_of (N := ["limits", "row", "count", "tick", "amount"]) lk hcd ⟨rfl, rfl, rfl, nd, rfl, by decide +kernel, by decide +kernel⟩ (fun vs H Q E h => ?_) (fun A outer s H vs Q E pn hr h => ?_)
  · obtain ⟨x, r, PP, xs, rfl, _⟩ := h; rfl
  · obtain ⟨x, r, PP, xs, rfl, hL, ok, hT, hx, hz, q⟩ := h
    obtain ⟨dx, t, hxo, hP⟩ := id hL
    refine ⟨_, gss_cons (gs_ps (ps_expr (pe_D (d_need_limits T) hr (by rfl) (pa_cons (pv 0) pa_nil))))
      (gss_cons (gs_ps (ps_expr (pe_D (d_need_row T) hr (by rfl) (pa_cons (pv 1) pa_nil))))
      (gss_cons (gs_ps (ps_set (i := 2) nd rfl (.inl rfl) pe_int))
      (gss_cons (gs_for owns_gcx rfl (pi_enumT (by rfl) T.z_enumerate (pa_cons (pe_D (d_let T) hr (by rfl) (pa_cons (pe_pairs (k := 2) T FP hpp (hr.mono (by decide)) (pv 0)) (pa_cons (pv 1) pa_nil))) pa_nil)) (pg_tup rfl (pgs_cons (pg_name (i := 3) nd rfl (.inl rfl)) (pgs_cons (pg_name (i := 4) nd rfl (.inl rfl)) pgs_nil)))
        (gss_cons (gs_ps (ps_set (i := 2) nd rfl (.inl rfl) (pe_op op_sub (pe_op op_add (pv 2) (pe_ifExp (pt_cmpR op_lt (pv 3) (pe_callB call_len_seq (by rfl) T.z_len PySem.boot_len (pa_cons (pv 1) pa_nil)) (nomark _)) (pe_ix ix_tup (pv 1) (pv 3) (fun _ _ => rfl)) pe_int)) (pv 4))))
        (gss_cons (gs_yield (pv 2)) gss_nil))) gss_nil))), ?_⟩
    refine ⟨_, rfl, x, PP, rfl, hL, ?_⟩
    refine ⟨_, rfl, r, xs, rfl, hT, hx, by omega, fun H1 s1 => ?_⟩
    refine ⟨_, rfl, x, dx, _, rfl, s1 _ _ hxo, x, dx, _, .ref t, rfl, s1 _ _ hxo, kept_look _, .ref r, rfl, ?_⟩
    refine ⟨t, r, PP, xs, rfl, hP.same s1, ok, sameT s1 hT, hx, hz, fun p H2 s2 hp => ⟨p, _, rfl, hp, ?_⟩⟩
    have s12 := s1.trans s2
    have hlp : ((passedL PP xs).map V.int).length = (passedL PP xs).length := List.length_map ..
    have hlr : (xs.map V.int).length = xs.length := List.length_map ..
    have hpl := passed_len_le ok.g hx
    have wk := walk_enumT (K := K) (a := p) (xs := (passedL PP xs).map V.int)
    refine ⟨fun i m ys σ H' => m + i = (passedL PP xs).length ∧ (∃ y3 y4, σ = [some (.ref x), some (.ref r), some (.int (cum xs i - cum (passedL PP xs) i)), y3, y4]) ∧ Same H2 H' ∧ ys = ((List.range i).map fun k => cum xs (k + 1) - cum (passedL PP xs) (k + 1)).map V.int, ⟨(passedL PP xs).length, rfl, ⟨none, none, by rw [cum_zero, cum_zero]; rfl⟩, Same.refl _, rfl⟩, ?_⟩
    rintro i m ys σ H3 ⟨hm3, ⟨y3, y4, rfl⟩, s3, rfl⟩
    have hp3 := sameT s3 hp
    by_cases hi : i < (passedL PP xs).length
    · refine .inr ⟨wk.goes i H3 (by rw [hlp]; exact hi) hp3, fun ys σ H' => (∃ y3 y4, σ = [some (.ref x), some (.ref r), some (.int (cum xs (i + 1) - cum (passedL PP xs) (i + 1))), y3, y4]) ∧ Same H2 H' ∧ ys = ((List.range (i + 1)).map fun k => cum xs (k + 1) - cum (passedL PP xs) (k + 1)).map V.int, fun ys' σ' H' h => ⟨m - 1, by omega, by omega, h⟩, fun v H4 y => ?_⟩
      obtain ⟨TT, x1, x2, rfl, nT, rfl, e1, e2⟩ := wk.yields i H3 v H4 (by rw [hlp]; exact hi) hp3 y
      have e2' : ((passedL PP xs).map V.int)[i]? = some x2 := e2
      rw [List.getElem?_map, List.getElem?_eq_getElem hi] at e2'
      obtain rfl : V.int (passedL PP xs)[i] = x2 := Option.some.inj e2'
      have e1' : (some (V.int ((i : Nat) : Int)) : Option V) = some x1 := e1
      obtain rfl : V.int ((i : Nat) : Int) = x1 := Option.some.inj e1'
      have s4 := s3.trans (sameW (o := .tup [.int (i : Nat), .int (passedL PP xs)[i]]) nT)
      have hT4 := sameT (s12.trans s4) hT
      have ec1 := cum_succ xs i
      have ec2 := cum_succ (passedL PP xs) i
      have eg : (passedL PP xs).getD i 0 = (passedL PP xs)[i] := by rw [List.getD_eq_getElem?_getD, List.getElem?_eq_getElem hi]; rfl
      refine ⟨TT, _, rfl, .inl (.inl upd_same), rfl, _, _, rfl, _, _, rfl, rfl, ?_⟩
      refine ⟨.int (cum xs i - cum (passedL PP xs) i), rfl, .int i, rfl, .ref r, rfl, r, _, rfl, .inr hT4, _, _, rfl, rfl, _, rfl, ?_⟩
      rw [hlr]
      cases c1 : decide ((i : Int) < (xs.length : Int))
      case' true =>
        have hkl : i < xs.length := by have := of_decide_eq_true c1; omega
        refine iteT ⟨.ref r, rfl, .int i, rfl, r, _, i, .int (xs.getD i 0), rfl, rfl, hT4, atI_nat (j := i) (by rw [List.getElem?_map, List.getElem?_eq_getElem hkl]; simp [hkl]), ?_⟩
        refine ⟨_, xs.getD i 0, rfl, rfl, ?_⟩
      case' false =>
        have hkl : xs.getD i 0 = 0 := by
          have := of_decide_eq_false c1
          rw [List.getD_eq_getElem?_getD, List.getElem?_eq_none (by omega)]; rfl
        refine iteF ?_
        refine ⟨_, xs.getD i 0, rfl, by rw [hkl], ?_⟩
      all_goals
        refine ⟨.int (passedL PP xs)[i], rfl, _, _, rfl, rfl, ?_⟩
        refine ⟨?_, .int (cum xs i - cum (passedL PP xs) i + xs.getD i 0 - (passedL PP xs)[i]), rfl, ⟨some (.int i), some (.int (passedL PP xs)[i]), ?_⟩, s4, ?_⟩
        · rw [List.length_map, List.length_map, List.length_range]
          exact smallK (by omega)
        · rw [ec1, ec2, eg]
          show [some (V.ref x), some (V.ref r), some (V.int (cum xs i - cum (passedL PP xs) i + xs.getD i 0 - (passedL PP xs)[i])), some (V.int i), some (V.int (passedL PP xs)[i])] = _
          congr 5
          omega
        · rw [List.range_succ, List.map_append, List.map_append]
          show _ ++ [V.int (cum xs i - cum (passedL PP xs) i + xs.getD i 0 - (passedL PP xs)[i])] = _ ++ [V.int (cum xs (i + 1) - cum (passedL PP xs) (i + 1))]
          rw [ec1, ec2, eg]
          congr 3
          omega
    · have ei : i = (passedL PP xs).length := by omega
      subst ei
      exact .inl ⟨hlp ▸ wk.stops H3 hp3, q H3 (s12.trans s3)⟩
end
end B50

set_option Elab.async false
set_option linter.all false
set_option maxRecDepth 100000
set_option maxHeartbeats 4000000
/-! What the law draws. -/
namespace B50
open PySem PySem.Spec PyProof.Rows L2 BX BM
/-- everything but the pen -/
def SameX (p : Addr) (H H' : Hp) : Prop := ∀ b o, H b = some o → b ≠ p → H' b = some o
def PenAt (H : Hp) (p : Addr) : Prop := ∃ a b c : Int, H p = some (.lst [.int a, .int b, .int c])
section
variable {K : PySem.W.Frag} {C : Addr} {p : Addr} {H H' H2 : Hp}
theorem SameX.refl (p : Addr) (H : Hp) : SameX p H H := fun _ _ e _ => e
theorem Same.x (s : Same H H') : SameX p H H' := fun b o e _ => s b o e
theorem SameX.trans (s : SameX p H H') (s2 : SameX p H' H2) : SameX p H H2 := fun b o e n => s2 b o (s b o e n) n
theorem PenAt.same (s : Same H H') (h : PenAt H p) : PenAt H' p := by
  obtain ⟨a, b, c, e⟩ := h
  exact ⟨a, b, c, s _ _ e⟩
theorem PenAt.ne (h : PenAt H p) {b : Addr} {o : HO} (e : H b = some o) (n : ∀ xs, o ≠ .lst xs) : b ≠ p := fun q => by
  obtain ⟨x, y, z, e2⟩ := h
  rw [q, e2] at e
  exact n _ (Option.some.inj e).symm
theorem SameX.tup (s : SameX p H H') (h : PenAt H p) {a : Addr} {xs : List V} (hT : SqT K H a xs) : SqT K H' a xs := by
  rcases hT with (z | ⟨o, z⟩) | z
  · exact .inl (.inl (s _ _ z (h.ne z fun _ q => by cases q)))
  · exact .inl (.inr ⟨o, s _ _ z (h.ne z fun _ q => by cases q)⟩)
  · exact .inr z
theorem SameX.pairs (s : SameX p H H') (h : PenAt H p) {t : Addr} {PP : List Pr} (hP : PairsAt K H t PP) : PairsAt K H' t PP := by
  obtain ⟨as, h1, h2, h3⟩ := hP
  exact ⟨as, s.tup h h1, h2, fun i a q x y => s.tup h (h3 i a q x y)⟩
theorem SameX.lim (s : SameX p H H') (h : PenAt H p) {x : Addr} {PP : List Pr} (hL : LimAt K C H x PP) : LimAt K C H' x PP := by
  obtain ⟨dx, t, h1, h2⟩ := hL
  exact ⟨dx, t, s _ _ h1 (h.ne h1 fun _ q => by cases q), s.pairs h h2⟩
theorem SameX.new (s : SameX p H H') (h : PenAt H p) {d : Addr} {o : HO} (hd : H d = none) : SameX p H (upd H' d o) := fun b u e n => by
  rw [upd_ne (ne_of_none e hd)]; exact s b u e n
theorem SameX.put (s : SameX p H H') (o : HO) : SameX p H (upd H' p o) := fun b u e n => by
  rw [upd_ne n]; exact s b u e n
end
section
variable {P : Program} {w : World} {K : PySem.W.Frag} {mg : Str → Option Value} {base : Heap} {C : Addr}
/-- _law_cell -/
def sp_cell (K : PySem.W.Frag) : Sp := fun vs H Q _ => ∃ (l : Addr) (ns : List Int) (j : Nat), vs = [.ref l, .int (j : Nat)] ∧ SqL K H l (ns.map V.int) ∧ ∀ v : Int, Q (.int v) H
theorem d_cell (T : Txt K mg C) : D0 P w K mg base "_law_cell" 1 (sp_cell K) := by
  refine D0.ofN (N := ["_law_script", "_law_k"]) (ps := ["_law_script", "_law_k"]) T.g_cell ⟨rfl, rfl, rfl, by decide +kernel, rfl, by decide +kernel, by decide +kernel⟩ (fun vs H Q E h => ?_) (fun _ _ _ _ _ _ us hl => match us, hl with | [_, _], _ => rfl) (fun f cdv A outer s H vs Q E hr h => ?_)
  · obtain ⟨l, ns, j, rfl, _⟩ := h; rfl
  · obtain ⟨l, ns, j, rfl, hS, q⟩ := h
    have hln : (ns.map V.int).length = ns.length := List.length_map ..
    refine ⟨_, pss_one (ps_ret (pe_ifExp (pt_cmpR op_lt (pv 1) (pe_callB call_len_seq (by rfl) T.z_len PySem.boot_len (pa_cons (pv 0) pa_nil)) (nomark _)) (pe_ix ix_list (pv 0) (pv 1) (fun _ _ => rfl)) pe_int)), ?_⟩
    refine ⟨.int j, rfl, .ref l, rfl, l, _, rfl, .inl hS, _, _, rfl, rfl, _, rfl, ?_⟩
    rw [hln]
    cases c1 : decide ((j : Int) < (ns.length : Int)) with
    | true =>
      have hj : j < ns.length := by have := of_decide_eq_true c1; omega
      exact iteT ⟨.ref l, rfl, .int j, rfl, l, _, j, .int ns[j], rfl, rfl, hS, atI_nat (j := j) (by rw [List.getElem?_map, List.getElem?_eq_getElem hj]; rfl), q _⟩
    | false => exact iteF (q 0)
/-- _law_pen -/
def sp_pen : Sp := fun vs H Q _ => ∃ c : Int, vs = [.int c] ∧ ∀ p H', Same H H' → H p = none → PenAt H' p → Q (.ref p) H'
theorem d_pen (T : Txt K mg C) : D0 P w K mg base "_law_pen" 1 sp_pen := by
  refine D0.ofN (N := ["_law_cell_here"]) (ps := ["_law_cell_here"]) T.g_pen ⟨rfl, rfl, rfl, by decide +kernel, rfl, by decide +kernel, by decide +kernel⟩ (fun vs H Q E h => ?_) (fun _ _ _ _ _ _ us hl => match us, hl with | [_], _ => rfl) (fun f cdv A outer s H vs Q E hr h => ?_)
  · obtain ⟨c, rfl, _⟩ := h; rfl
  · obtain ⟨c, rfl, q⟩ := h
    refine ⟨_, pss_one (ps_ret (pe_lst (pa_cons (pe_callB (call_max2 rfl) (by rfl) T.z_max (by decide +kernel) (pa_cons pe_int (pa_cons (pe_op op_sub (pv 0) (pe_op op_pow pe_int pe_int)) pa_nil)))
      (pa_cons (pe_op op_add (pe_op op_mod (pv 0) pe_int) pe_int) (pa_cons pe_int pa_nil))))), ?_⟩
    refine ⟨.int c, rfl, _, _, rfl, rfl, ⟨by decide, by decide, by decide⟩, _, _, rfl, rfl, ?_⟩
    refine ⟨_, _, rfl, .int c, rfl, _, _, rfl, rfl, (show (0 : Int) < 2147483629 by decide), _, _, rfl, rfl, (by show 3 ≤ sizeLine; decide), fun p hp => ?_⟩
    exact q p _ (sameW hp) hp ⟨_, _, _, upd_same⟩
/-- _law_draw -/
def sp_draw : Sp := fun vs H Q _ => ∃ (p : Addr) (c : Int), vs = [.ref p, .int c] ∧ PenAt H p ∧ 0 < c ∧ c < 1073741824 ∧ ∀ n H', 0 ≤ n → n < c → SameX p H H' → PenAt H' p → Q (.int n) H'
theorem d_draw (T : Txt K mg C) : D0 P w K mg base "_law_draw" 1 sp_draw := by
  have nd : (["_law_pen_here", "_law_count", "_law_found", "_law_stirred"] : List Str).Nodup := by decide +kernel
  refine D0.ofN (N := ["_law_pen_here", "_law_count", "_law_found", "_law_stirred"]) (ps := ["_law_pen_here", "_law_count"]) T.g_draw ⟨rfl, rfl, rfl, nd, rfl, by decide +kernel, by decide +kernel⟩ (fun vs H Q E h => ?_) (fun _ _ _ _ _ _ us hl => match us, hl with | [_, _], _ => rfl) (fun f cdv A outer s H vs Q E hr h => ?_)
  · obtain ⟨p, c, rfl, _⟩ := h; rfl
  · obtain ⟨p, c, rfl, ⟨a, b, d, hp⟩, hc, hc2, q⟩ := h
    refine ⟨_, pss_cons (ps_if (pt_cmpR op_gt (pe_ix ix_list (pv 0) pe_int (fun _ _ => rfl)) pe_int (nomark _))
        (pss_cons (ps_set (i := 2) nd rfl (.inl rfl) (pe_op op_mod (pe_ix ix_list (pv 0) pe_int (fun _ _ => rfl)) (pv 1)))
        (pss_cons (ps_asg (pe_op op_fdiv (pe_ix ix_list (pv 0) pe_int (fun _ _ => rfl)) (pv 1)) (pg_sub (pv 0) pe_int set_list))
        (pss_one (ps_ret (pv 2))))) pss_nil)
      (pss_cons (ps_asg (pe_op op_add (pe_ix ix_list (pv 0) pe_int (fun _ _ => rfl)) pe_int) (pg_sub (pv 0) pe_int set_list))
      (pss_cons (ps_asg (pe_op op_mod (pe_op op_add (pe_op op_add (pe_op op_mul (pe_ix ix_list (pv 0) pe_int (fun _ _ => rfl)) pe_int) (pe_op op_mul pe_int (pe_ix ix_list (pv 0) pe_int (fun _ _ => rfl)))) pe_int) pe_int) (pg_sub (pv 0) pe_int set_list))
      (pss_cons (ps_set (i := 3) nd rfl (.inl rfl) (pe_op op_mod (pe_op op_add (pe_op op_add (pe_op op_mul (pe_ix ix_list (pv 0) pe_int (fun _ _ => rfl)) (pe_ix ix_list (pv 0) pe_int (fun _ _ => rfl))) (pe_op op_mul pe_int (pe_ix ix_list (pv 0) pe_int (fun _ _ => rfl)))) pe_int) pe_int))
      (pss_cons (ps_set (i := 3) nd rfl (.inl rfl) (pe_op op_mod (pe_op op_add (pe_op op_mul (pv 3) (pv 3)) (pe_op op_mul pe_int (pv 3))) pe_int))
      (pss_one (ps_ret (pe_op op_mod (pe_op op_fdiv (pv 3) pe_int) (pv 1)))))))), ?_⟩
    refine ⟨.ref p, rfl, p, _, 0, _, rfl, rfl, .inl (.inl hp), atI_nat (j := 0) rfl, _, _, rfl, rfl, _, rfl, ?_⟩
    cases c1 : decide ((0 : Int) < a) with
    | true =>
      refine iteT ⟨.ref p, rfl, p, _, 0, _, rfl, rfl, .inl (.inl hp), atI_nat (j := 0) rfl, .int c, rfl, _, _, rfl, rfl, hc, ?_⟩
      refine ⟨.ref p, rfl, p, _, 0, _, rfl, rfl, .inl (.inl hp), atI_nat (j := 0) rfl, .int c, rfl, _, _, rfl, rfl, ⟨hc, hc2⟩, ?_⟩
      refine ⟨.ref p, rfl, p, _, 0, 0, rfl, rfl, hp, rfl, .int (a % c), rfl, ?_⟩
      exact q _ _ (Int.emod_nonneg _ (by omega)) (Int.emod_lt_of_pos _ hc) ((SameX.refl p H).put _) ⟨_, _, _, upd_same⟩
    | false =>
      refine iteF ?_
      refine ⟨.ref p, rfl, p, _, 2, _, rfl, rfl, .inl (.inl hp), atI_nat (j := 2) rfl, _, _, rfl, rfl, ?_⟩
      refine ⟨.ref p, rfl, p, _, 2, 2, rfl, rfl, hp, rfl, ?_⟩
      have hp1 : (upd H p (.lst [.int a, .int b, .int (d + 1)])) p = some (.lst [.int a, .int b, .int (d + 1)]) := upd_same
      refine ⟨.ref p, rfl, p, _, 1, _, rfl, rfl, .inl (.inl hp1), atI_nat (j := 1) rfl, _, _, rfl, rfl, .inr ⟨by decide, by decide⟩, ?_⟩
      refine ⟨.ref p, rfl, p, _, 2, _, rfl, rfl, .inl (.inl hp1), atI_nat (j := 2) rfl, _, _, rfl, rfl, .inl ⟨by decide, by decide⟩, ?_⟩
      refine ⟨_, _, rfl, rfl, _, _, rfl, rfl, _, _, rfl, rfl, (show (0 : Int) < 2147483647 by decide), ?_⟩
      refine ⟨.ref p, rfl, p, _, 1, 1, rfl, rfl, hp1, rfl, ?_⟩
      obtain ⟨e, he⟩ : ∃ e, (b * 48271 + 1009 * (d + 1) + 7) % 2147483647 = e := ⟨_, rfl⟩
      have he1 : 0 ≤ e := by omega
      have he2 : e < 2147483647 := by omega
      have hp2 : (upd (upd H p (.lst [.int a, .int b, .int (d + 1)])) p (.lst [.int a, .int ((b * 48271 + 1009 * (d + 1) + 7) % 2147483647), .int (d + 1)])) p = some (.lst [.int a, .int e, .int (d + 1)]) := by rw [upd_same, he]
      have c64 : -(2 ^ 64) < e ∧ e < 2 ^ 64 := by constructor <;> omega
      refine ⟨.ref p, rfl, p, _, 1, _, rfl, rfl, .inl (.inl hp2), atI_nat (j := 1) rfl, .ref p, rfl, p, _, 1, _, rfl, rfl, .inl (.inl hp2), atI_nat (j := 1) rfl, _, _, rfl, rfl, .inl c64, ?_⟩
      refine ⟨.ref p, rfl, p, _, 1, _, rfl, rfl, .inl (.inl hp2), atI_nat (j := 1) rfl, _, _, rfl, rfl, .inr c64, _, _, rfl, rfl, _, _, rfl, rfl, _, _, rfl, rfl, (show (0 : Int) < 2147483629 by decide), ?_⟩
      have g64 : -(2 ^ 64) < (e * e + 69621 * e + 11) % 2147483629 ∧ (e * e + 69621 * e + 11) % 2147483629 < 2 ^ 64 := by
        generalize hg : (e * e + 69621 * e + 11) % 2147483629 = g
        have hg1 : 0 ≤ g := by rw [← hg]; exact Int.emod_nonneg _ (by decide)
        have hg2 : g < 2147483629 := by rw [← hg]; exact Int.emod_lt_of_pos _ (by decide)
        constructor <;> omega
      refine ⟨_, rfl, _, rfl, _, _, rfl, rfl, .inl g64, _, rfl, _, _, rfl, rfl, .inr g64, _, _, rfl, rfl, _, _, rfl, rfl, (show (0 : Int) < 2147483587 by decide), ?_⟩
      refine ⟨_, rfl, _, _, rfl, rfl, (show (0 : Int) < 16 ∧ (16 : Int) < 1073741824 by decide), .int c, rfl, _, _, rfl, rfl, hc, ?_⟩
      exact q _ _ (Int.emod_nonneg _ (by omega)) (Int.emod_lt_of_pos _ hc) (((SameX.refl p H).put _).put _) ⟨_, _, _, hp2⟩
end
end B50

set_option Elab.async false
set_option linter.all false
set_option maxRecDepth 100000
set_option maxHeartbeats 4000000
/-! The law's limits and rows. -/
namespace B50
open PySem PySem.Spec PyProof.Rows L2 BX BM
theorem pick {l : List Int} {n : Int} (h0 : 0 ≤ n) (h1 : n < l.length) : ∃ v ∈ l, atI (l.map V.int) n = some (.int v) := by
  obtain ⟨j, rfl⟩ : ∃ j : Nat, n = j := ⟨n.toNat, by omega⟩
  have hj : j < l.length := by omega
  exact ⟨l[j], List.getElem_mem hj, atI_nat (by rw [List.getElem?_map, List.getElem?_eq_getElem hj]; rfl)⟩
theorem keepT {K : PySem.W.Frag} {H : Hp} {a D : Addr} {xs ys : List V} {o : HO} (hD : H D = some (.lst ys)) (h : SqT K H a xs) : SqT K (upd H D o) a xs := by
  have ne : ∀ {u : HO}, H a = some u → (∀ zs, u ≠ .lst zs) → (upd H D o) a = some u := fun {u} e n => by
    rw [upd_ne (fun q => by rw [q, hD] at e; exact n _ (Option.some.inj e).symm)]; exact e
  rcases h with (z | ⟨u, z⟩) | z
  · exact .inl (.inl (ne z fun _ q => by cases q))
  · exact .inl (.inr ⟨u, ne z fun _ q => by cases q⟩)
  · exact .inr z
def PairsL (K : PySem.W.Frag) (H : Hp) (D : Addr) (PP : List Pr) : Prop := ∃ as : List Addr, H D = some (.lst (as.map V.ref)) ∧ as.length = PP.length ∧ ∀ (i : Nat) (a : Addr) (q : Pr), as[i]? = some a → PP[i]? = some q → SqT K H a [V.int q.1, V.int q.2]
theorem SameX.pairsL {K : PySem.W.Frag} {p D : Addr} {H H' : Hp} (s : SameX p H H') (h : PenAt H p) (n : D ≠ p) {PP : List Pr} (hP : PairsL K H D PP) : PairsL K H' D PP := by
  obtain ⟨as, h1, h2, h3⟩ := hP
  exact ⟨as, s _ _ h1 n, h2, fun i a q x y => s.tup h (h3 i a q x y)⟩
theorem pen_ne {H : Hp} {p D : Addr} (h : PenAt H p) (hD : H D = none) : D ≠ p := fun e => by
  obtain ⟨a, b, c, q⟩ := h
  rw [e, q] at hD; cases hD
section
variable {P : Program} {w : World} {K : PySem.W.Frag} {mg : Str → Option Value} {base : Heap} {C : Addr}
/-- _law_pairs -/
def sp_lpairs (K : PySem.W.Frag) : Sp := fun vs H Q _ => ∃ (p : Addr) (m : Int), vs = [.ref p, .int m] ∧ PenAt H p ∧ 0 < m ∧ m ≤ 6 ∧
  ∀ D H' PP, SameX p H H' → PenAt H' p → H D = none → PairsL K H' D PP → Good PP → PP.Nodup → (PP.length : Int) ≤ m → Q (.ref D) H'
theorem d_lpairs (T : Txt K mg C) : D0 P w K mg base "_law_pairs" 2 (sp_lpairs K) := by
  have nd : (["_law_pen_here", "_law_most", "_law_found", "_law_lap", "_law_length", "_law_number", "_law_pair"] : List Str).Nodup := by decide +kernel
  refine D0.ofN (N := ["_law_pen_here", "_law_most", "_law_found", "_law_lap", "_law_length", "_law_number", "_law_pair"]) (ps := ["_law_pen_here", "_law_most"]) T.g_pairs ⟨rfl, rfl, rfl, nd, rfl, by decide +kernel, by decide +kernel⟩ (fun vs H Q E h => ?_) (fun _ _ _ _ _ _ us hl => match us, hl with | [_, _], _ => rfl) (fun f cdv A outer s H vs Q E hr h => ?_)
  · obtain ⟨p, c, rfl, _⟩ := h; rfl
  · obtain ⟨p, m, rfl, hp, hm1, hm2, q⟩ := h
    refine ⟨_, pss_cons (ps_set (i := 2) nd rfl (.inl rfl) (pe_lst pa_nil))
      (pss_cons (ps_for PassesOwn.never rfl (pi_range1 (by rfl) T.z_range (pa_cons (pe_op op_add pe_int (pe_D (d_draw T) hr (by rfl) (pa_cons (pv 0) (pa_cons (pv 1) pa_nil)))) pa_nil)) (pg_name (i := 3) nd rfl (.inl rfl))
        (pss_cons (ps_set (i := 4) nd rfl (.inl rfl) (pe_ix ix_list (pe_lst (pa_cons pe_int (pa_cons pe_int (pa_cons pe_int (pa_cons pe_int (pa_cons pe_int (pa_cons pe_int (pa_cons pe_int (pa_cons (pe_op op_add pe_int (pe_D (d_draw T) hr (by rfl) (pa_cons (pv 0) (pa_cons pe_int pa_nil)))) pa_nil))))))))) (pe_D (d_draw T) hr (by rfl) (pa_cons (pv 0) (pa_cons pe_int pa_nil))) (fun _ _ => rfl)))
        (pss_cons (ps_set (i := 5) nd rfl (.inl rfl) (pe_ix ix_list (pe_lst (pa_cons pe_int (pa_cons pe_int (pa_cons pe_int (pa_cons pe_int (pa_cons pe_int (pa_cons pe_int (pa_cons (pe_op op_add pe_int (pe_D (d_draw T) hr (by rfl) (pa_cons (pv 0) (pa_cons pe_int pa_nil)))) pa_nil)))))))) (pe_D (d_draw T) hr (by rfl) (pa_cons (pv 0) (pa_cons pe_int pa_nil))) (fun _ _ => rfl)))
        (pss_cons (ps_set (i := 6) nd rfl (.inl rfl) (pe_tup (pa_cons (pv 4) (pa_cons (pe_callB (call_max2 rfl) (by rfl) T.z_max (by decide +kernel) (pa_cons (pv 5) (pa_cons (pe_op op_fdiv (pe_op op_add (pv 4) pe_int) pe_int) pa_nil))) pa_nil))))
        (pss_one (ps_if (pt_cmpR (op_notInD (units65 hr)) (pv 6) (pv 2) (by rfl)) (pss_one (ps_expr (pe_bm PySem.F.plainAttrs_list PySem.F.slot_list_append PySem.F.type_list_append mt_append (pv 2) (pa_cons (pv 6) pa_nil)))) pss_nil))))))
      (pss_one (ps_ret (pv 2)))), ?_⟩
    refine ⟨(by show 0 ≤ sizeLine; decide), fun D hD => ?_⟩
    have nDp := pen_ne hp hD
    refine ⟨.ref p, rfl, .int m, rfl, p, m, rfl, hp.same (sameW hD), hm1, by omega, fun n H1 hn0 hn1 s1 hp1 => ?_⟩
    have s01 : SameX p H H1 := (Same.x (sameW hD)).trans s1
    have hD1 : H1 D = some (.lst []) := s1 _ _ upd_same nDp
    refine ⟨_, _, rfl, rfl, 1 + n, rfl, by omega, by omega, ?_⟩
    refine for_it walk_range (fun i σ H2 => (∃ y3 y4 y5 y6, σ = [some (.ref p), some (.int m), some (.ref D), y3, y4, y5, y6]) ∧ SameX p H H2 ∧ PenAt H2 p ∧ ∃ PP, PairsL K H2 D PP ∧ GoodP PP ∧ PP.Nodup ∧ PP.length ≤ i ∧ (0 < i → PP ≠ [])) ⟨⟨_, _, _, _, rfl⟩, s01, hp1, [], ⟨[], hD1, rfl, fun i a q x y => by cases x⟩, fun _ h => (by cases h), List.nodup_nil, Nat.zero_le _, fun h => absurd h (Nat.lt_irrefl _)⟩ (fun _ _ _ _ _ => trivial) (fun i x σ H2o H2 hi pvi y => ?_) (fun σ H2 pvn => ?_)
    · obtain ⟨⟨y3, y4, y5, y6, rfl⟩, s2, hp2, PP, hP2, hg, hnd, hlen, hne⟩ := pvi
      obtain ⟨rfl, rfl⟩ := y
      -- the length
      refine ⟨.ref p, rfl, p, 20, rfl, hp2, by decide, by decide, fun d3 H3 hd30 hd31 s3 hp3 => ?_⟩
      refine ⟨_, _, rfl, rfl, (by show 8 ≤ sizeLine; decide), fun L3 hL3 => ?_⟩
      have nL3 := pen_ne hp3 hL3
      refine ⟨.ref p, rfl, p, 8, rfl, hp3.same (sameW hL3), by decide, by decide, fun d4 H4 hd40 hd41 s4 hp4 => ?_⟩
      have s24 := ((s3.trans (Same.x (sameW hL3))).trans s4 : SameX p H2 H4)
      have e3 : H4 L3 = some (.lst (([1, 2, 3, 4, 6, 9, 20, 1 + d3] : List Int).map V.int)) := s4 _ _ upd_same nL3
      obtain ⟨l, hl, al⟩ := pick (l := [1, 2, 3, 4, 6, 9, 20, 1 + d3]) hd40 hd41
      have hl1 : 1 ≤ l ∧ l ≤ 20 := by
        simp only [List.mem_cons, List.not_mem_nil, or_false] at hl
        omega
      refine ⟨L3, _, d4, .int l, rfl, rfl, .inl (.inl e3), al, ?_⟩
      -- the number
      refine ⟨.ref p, rfl, p, 20, rfl, hp4, by decide, by decide, fun d5 H5 hd50 hd51 s5 hp5 => ?_⟩
      refine ⟨_, _, rfl, rfl, (by show 7 ≤ sizeLine; decide), fun L5 hL5 => ?_⟩
      have nL5 := pen_ne hp5 hL5
      refine ⟨.ref p, rfl, p, 7, rfl, hp5.same (sameW hL5), by decide, by decide, fun d6 H6 hd60 hd61 s6 hp6 => ?_⟩
      have s26 := s24.trans ((s5.trans (Same.x (sameW hL5))).trans s6)
      have e5 : H6 L5 = some (.lst (([1, 2, 3, 5, 8, 20, 1 + d5] : List Int).map V.int)) := s6 _ _ upd_same nL5
      obtain ⟨k, hk, ak⟩ := pick (l := [1, 2, 3, 5, 8, 20, 1 + d5]) hd60 hd61
      have hk1 : 1 ≤ k ∧ k ≤ 20 := by
        simp only [List.mem_cons, List.not_mem_nil, or_false] at hk
        omega
      refine ⟨L5, _, d6, .int k, rfl, rfl, .inl (.inl e5), ak, ?_⟩
      -- the pair
      refine ⟨.int l, rfl, .int k, rfl, .int l, rfl, _, _, rfl, rfl, _, _, rfl, rfl, (show (0 : Int) < 3 ∧ (3 : Int) < 1073741824 by decide), k, (l + 2) / 3, rfl, (by show 2 ≤ sizeLine; decide), fun TT hTT => ?_⟩
      obtain ⟨mx, hmx⟩ : ∃ mx, (if (l + 2) / 3 > k then (l + 2) / 3 else k) = mx := ⟨_, rfl⟩
      have hmx1 : 1 ≤ mx ∧ mx ≤ 20 := by
        rw [← hmx]; split <;> omega
      have eT : (upd H6 TT (.tup [.int l, .int (if (l + 2) / 3 > k then (l + 2) / 3 else k)])) TT = some (.tup [.int l, .int mx]) := by rw [upd_same, hmx]
      have s67 : Same H6 (upd H6 TT (.tup [.int l, .int (if (l + 2) / 3 > k then (l + 2) / 3 else k)])) := sameW hTT
      have hp7 := hp6.same s67
      have s27 := s26.trans (Same.x s67)
      have hP7 := s27.pairsL hp2 nDp hP2
      have hH := s2.trans s27
      obtain ⟨as, a1, a2, a3⟩ := id hP7
      have hTq : SqT K (upd H6 TT (.tup [.int l, .int (if (l + 2) / 3 > k then (l + 2) / 3 else k)])) TT [V.int ((l, mx) : Pr).1, V.int ((l, mx) : Pr).2] := .inl (.inl eT)
      refine ⟨.ref TT, rfl, .ref D, rfl, dPr (l, mx), PP.map dPr, dp_row (xs := [l, mx]) hTq, .lst (.inl (.inl a1)) (dp_prs as PP a2 a3), dPr_shaped _, lPrs_shaped _, _, rfl, ?_⟩
      rw [prs_any]
      cases c1 : decide ((l, mx) ∈ PP) with
      | true =>
        refine iteF ?_
        have hin := of_decide_eq_true c1
        exact ⟨⟨_, _, _, _, rfl⟩, hH, hp7, PP, hP7, hg, hnd, by omega, fun _ e => by rw [e] at hin; cases hin⟩
      | false =>
        have hin : (l, mx) ∉ PP := of_decide_eq_false c1
        have hsz : (as.map V.ref).length < sizeLine := by rw [List.length_map, a2]; exact smallK (by omega)
        refine iteT ⟨.ref D, rfl, .inl ⟨rfl, _, .inl (.inl a1)⟩, .ref TT, rfl, D, _, _, rfl, rfl, a1, hsz, ?_⟩
        refine ⟨⟨_, _, _, _, rfl⟩, hH.new hp hD, ?_, PP ++ [(l, mx)], ⟨as ++ [TT], ?_, ?_, fun j a z e1 e2 => ?_⟩, ?_, ?_, ?_, fun _ e => by simp at e⟩
        · obtain ⟨z1, z2, z3, z4⟩ := hp7
          exact ⟨z1, z2, z3, by rw [upd_ne (Ne.symm nDp)]; exact z4⟩
        · rw [upd_same, List.map_append]; rfl
        · rw [List.length_append, List.length_append, a2]; rfl
        · refine keepT a1 ?_
          by_cases hj : j < as.length
          · rw [List.getElem?_append_left hj] at e1
            rw [List.getElem?_append_left (by omega)] at e2
            exact a3 j a z e1 e2
          · rw [List.getElem?_append_right (by omega)] at e1
            rw [List.getElem?_append_right (by omega), ← a2] at e2
            have : j - as.length = 0 := by
              cases q : j - as.length with
              | zero => rfl
              | succ n => rw [q] at e1; cases e1
            rw [this] at e1 e2
            obtain rfl : TT = a := Option.some.inj e1
            obtain rfl : (l, mx) = z := Option.some.inj e2
            exact hTq
        · intro z hz
          rcases List.mem_append.mp hz with h | h
          · exact hg z h
          · obtain rfl : z = (l, mx) := by simpa using h
            exact ⟨hl1.1, hl1.2, hmx1.1, hmx1.2⟩
        · refine List.nodup_append.mpr ⟨hnd, by simp, fun a ha b hb e => hin ?_⟩
          obtain rfl : b = (l, mx) := by simpa using hb
          rw [← e]; exact ha
        · rw [List.length_append]
          show PP.length + 1 ≤ i + 1
          omega
    · obtain ⟨⟨y3, y4, y5, y6, rfl⟩, s2, hp2, PP, hP2, hg, hnd, hlen, hne⟩ := pvn
      exact ⟨.ref D, rfl, q D H2 PP s2 hp2 hD hP2 ⟨hg, hne (by omega)⟩ hnd (by omega)⟩
end
end B50

set_option Elab.async false
set_option linter.all false
set_option maxRecDepth 100000
set_option maxHeartbeats 4000000
/-! The law's limits and rows, 2. -/
namespace B50
open PySem PySem.Spec PyProof.Rows L2 BX BM
section
variable {P : Program} {w : World} {K : PySem.W.Frag} {mg : Str → Option Value} {base : Heap} {C : Addr}
theorem one_ok {q : Pr} (h : 1 ≤ q.1 ∧ q.1 ≤ 20 ∧ 1 ≤ q.2 ∧ q.2 ≤ 20) : LimOk [(q.1, q.2)] := by
  refine ⟨⟨fun p hp => ?_, by simp⟩, by simp, by simp⟩
  have e : p = (q.1, q.2) := by simpa using hp
  rw [e]; exact h
/-- _law_limits -/
def sp_llim (K : PySem.W.Frag) (C : Addr) : Sp := fun vs H Q _ => ∃ (D : Addr) (PP : List Pr), vs = [.ref D] ∧ PairsL K H D PP ∧ Good PP ∧ PP.length ≤ 6 ∧
  ∀ x H' PP', Same H H' → LimAt K C H' x PP' → LimOk PP' → PP'.length ≤ PP.length → Q (.ref x) H'
theorem d_llim (T : Txt K mg C) : D0 P w K mg base "_law_limits" 8 (sp_llim K C) := by
  have nd : (["_law_pairs_here", "_law_made", "_law_length", "_law_number"] : List Str).Nodup := by decide +kernel
  obtain ⟨fs, fds, ps, mcs, FS, cr, cm⟩ := T.sgl
  obtain ⟨fa, fda, FA, AO⟩ := T.add
  refine D0.ofN (N := ["_law_pairs_here", "_law_made", "_law_length", "_law_number"]) (ps := ["_law_pairs_here"]) T.g_limits ⟨rfl, rfl, rfl, nd, rfl, by decide +kernel, by decide +kernel⟩ (fun vs H Q E h => ?_) (fun _ _ _ _ _ _ us hl => match us, hl with | [_], _ => rfl) (fun f cdv A outer s H vs Q E hr h => ?_)
  · obtain ⟨D, PP, rfl, _⟩ := h; rfl
  · obtain ⟨D, PP, rfl, hP, hg, hlen, q⟩ := h
    obtain ⟨as, a1, a2, a3⟩ := id hP
    have hpos : 0 < PP.length := List.length_pos_iff.mpr hg.ne
    have hal : (as.map V.ref).length = PP.length := by rw [List.length_map, a2]
    have ha0 : 0 < as.length := by omega
    refine ⟨_, pss_cons (ps_set (i := 1) nd rfl (.inl rfl) (ClX.pe_cmeth (pe_glob (v := .ref C) (by rfl) T.mgC rfl) cr cm (f_single T FS) hr passL (pa_cons (pe_ix ix_tup (pe_ix ix_list (pv 0) pe_int (fun _ _ => rfl)) pe_int (fun _ _ => rfl)) (pa_cons (pe_ix ix_tup (pe_ix ix_list (pv 0) pe_int (fun _ _ => rfl)) pe_int (fun _ _ => rfl)) pa_nil))))
      (pss_cons (ps_for PassesOwn.never rfl (pi_list (pe_slice sl_list (pv 0) (po_some pe_int) po_none)) (pg_tup rfl (pgs_cons (pg_name (i := 2) nd rfl (.inl rfl)) (pgs_cons (pg_name (i := 3) nd rfl (.inl rfl)) pgs_nil)))
        (pss_one (ps_set (i := 1) nd rfl (.inl rfl) (pe_op (op_addOwn AO (f_add T FA) hr passL) (pv 1) (ClX.pe_cmeth (pe_glob (v := .ref C) (by rfl) T.mgC rfl) cr cm (f_single T FS) hr passL (pa_cons (pv 2) (pa_cons (pv 3) pa_nil)))))))
      (pss_one (ps_ret (pv 1)))), ?_⟩
    have h0 : (as.map V.ref)[0]? = some (V.ref as[0]) := by rw [List.getElem?_map, List.getElem?_eq_getElem ha0]; rfl
    have hq0 := a3 0 as[0] PP[0] (List.getElem?_eq_getElem ha0) (List.getElem?_eq_getElem hpos)
    refine ⟨rfl, .ref D, rfl, D, _, 0, _, rfl, rfl, .inl (.inl a1), atI_nat (j := 0) h0, as[0], _, 0, _, rfl, rfl, hq0, atI_nat (j := 0) rfl, ?_⟩
    refine ⟨.ref D, rfl, D, _, 0, _, rfl, rfl, .inl (.inl a1), atI_nat (j := 0) h0, as[0], _, 1, _, rfl, rfl, hq0, atI_nat (j := 1) rfl, ?_⟩
    refine ⟨PP[0].1, PP[0].2, rfl, one_ok (hg.g _ (List.getElem_mem hpos)), fun x H1 s1 hx => ?_⟩
    have a1' := s1 _ _ a1
    refine ⟨.ref D, rfl, 1, rfl, D, _, rfl, .inl (.inl a1'), fun L hL => ?_⟩
    have s2 : Same H (upd H1 L (.lst (cutV (as.map V.ref) (some 1) none))) := s1.trans (sameW hL)
    have eL : cutV (as.map V.ref) (some 1) none = (as.map V.ref).drop 1 := cutV_n0 _ 1
    have hL2 : (upd H1 L (.lst (cutV (as.map V.ref) (some 1) none))) L = some (.lst ((as.map V.ref).drop 1)) := by rw [upd_same, eL]
    refine ⟨L, rfl, ⟨_, .inl (.inl hL2)⟩, ?_⟩
    refine for_it (walk_list (xs := (as.map V.ref).drop 1)) (fun i σ H2 => Same (upd H1 L (.lst (cutV (as.map V.ref) (some 1) none))) H2 ∧ ∃ x y2 y3 PP', σ = [some (.ref D), some (.ref x), y2, y3] ∧ LimAt K C H2 x PP' ∧ LimOk PP' ∧ PP'.length ≤ i + 1) ⟨Same.refl _, x, _, _, _, rfl, hx.same (sameW hL), one_ok (hg.g _ (List.getElem_mem hpos)), Nat.le_refl _⟩ (fun i σ H2 _ pv => .inl (.inl (pv.1 _ _ hL2))) (fun i v σ H2o H2 hi pvi y => ?_) (fun σ H2 pvn => ?_)
    · obtain ⟨s3, x, y2, y3, PP', rfl, hx2, ok2, hl2⟩ := pvi
      obtain ⟨rfl, hy⟩ := y
      have hi2 : i + 1 < PP.length := by rw [List.length_drop, hal] at hi; omega
      have hia : i + 1 < as.length := by omega
      rw [List.getElem?_drop, Nat.add_comm 1 i, List.getElem?_map, List.getElem?_eq_getElem hia] at hy
      obtain rfl : V.ref as[i + 1] = v := Option.some.inj hy
      have hq := sameT (s2.trans s3) (a3 (i + 1) as[i + 1] PP[i + 1] (List.getElem?_eq_getElem hia) (List.getElem?_eq_getElem hi2))
      refine ⟨as[i + 1], _, rfl, hq, rfl, _, _, rfl, _, _, rfl, rfl, ?_⟩
      refine ⟨.ref x, rfl, rfl, _, rfl, _, rfl, PP[i + 1].1, PP[i + 1].2, rfl, one_ok (hg.g _ (List.getElem_mem hi2)), fun z H4 s4 hz => ?_⟩
      have hx4 := hx2.same s4
      obtain ⟨dx, t, e1, e2⟩ := id hx4
      obtain ⟨dz, tz, e3, e4⟩ := id hz
      refine ⟨x, z, dx, _, dz, _, rfl, rfl, e1, e3, x, z, PP', _, rfl, hx4, hz, ok2, one_ok (hg.g _ (List.getElem_mem hi2)), by show PP'.length + 1 ≤ 6; omega, fun x5 H5 s5 hx5 => ?_⟩
      exact ⟨(s3.trans s4).trans s5, x5, _, _, _, rfl, hx5, both_ok ok2 (one_ok (hg.g _ (List.getElem_mem hi2))) (by show PP'.length + 1 ≤ 6; omega), by have := both_len PP' [(PP[i + 1].1, PP[i + 1].2)]; simp only [List.length_cons, List.length_nil] at this; omega⟩
    · obtain ⟨s3, x, y2, y3, PP', rfl, hx2, ok2, hl2⟩ := pvn
      rw [List.length_drop, hal] at hl2
      exact ⟨.ref x, rfl, q x H2 PP' (s2.trans s3) hx2 ok2 (by omega)⟩
/-- _law_row -/
def sp_lrow (K : PySem.W.Frag) : Sp := fun vs H Q _ => ∃ (p : Addr) (z : Int), vs = [.ref p, .int z] ∧ PenAt H p ∧ 0 ≤ z ∧ z ≤ 1000 ∧
  ∀ a H' xs, SameX p H H' → PenAt H' p → TI K H' a xs → RowOk xs → (xs.length : Int) ≤ z → Q (.ref a) H'
theorem d_lrow (T : Txt K mg C) : D0 P w K mg base "_law_row" 2 (sp_lrow K) := by
  have nd : (["_law_pen_here", "_law_size", "_law_found", "_law_ticks", "_law_lap", "_law_amount"] : List Str).Nodup := by decide +kernel
  refine D0.ofN (N := ["_law_pen_here", "_law_size", "_law_found", "_law_ticks", "_law_lap", "_law_amount"]) (ps := ["_law_pen_here", "_law_size"]) T.g_row ⟨rfl, rfl, rfl, nd, rfl, by decide +kernel, by decide +kernel⟩ (fun vs H Q E h => ?_) (fun _ _ _ _ _ _ us hl => match us, hl with | [_, _], _ => rfl) (fun f cdv A outer s H vs Q E hr h => ?_)
  · obtain ⟨p, c, rfl, _⟩ := h; rfl
  · obtain ⟨p, z, rfl, hp, hz0, hz1, q⟩ := h
    refine ⟨_, pss_cons (ps_par (i := 2) (j := 3) rfl nd rfl rfl (by decide) rfl rfl (pa_cons (pe_lst pa_nil) (pa_cons (pe_D (d_draw T) hr (by rfl) (pa_cons (pv 0) (pa_cons (pe_op op_add (pv 1) pe_int) pa_nil))) pa_nil)) (by rfl))
      (pss_cons (ps_for PassesOwn.never rfl (pi_range1 (by rfl) T.z_range (pa_cons (pv 3) pa_nil)) (pg_name (i := 4) nd rfl (.inl rfl))
        (pss_cons (ps_set (i := 5) nd rfl (.inl rfl) (pe_ix ix_list (pe_lst (pa_cons pe_int (pa_cons pe_int (pa_cons pe_int (pa_cons pe_int (pa_cons pe_int (pa_cons (pe_D (d_draw T) hr (by rfl) (pa_cons (pv 0) (pa_cons pe_int pa_nil))) (pa_cons (pe_D (d_draw T) hr (by rfl) (pa_cons (pv 0) (pa_cons pe_int pa_nil))) pa_nil)))))))) (pe_D (d_draw T) hr (by rfl) (pa_cons (pv 0) (pa_cons pe_int pa_nil))) (fun _ _ => rfl)))
        (pss_one (ps_expr (pe_bm PySem.F.plainAttrs_list PySem.F.slot_list_append PySem.F.type_list_append mt_append (pv 2) (pa_cons (pe_ifExp (pt_cmpR op_le (pe_op op_add (pe_callB (cr_sum rfl) (by rfl) T.z_sum (by decide +kernel) (pa_cons (pv 2) pa_nil)) (pv 5)) pe_int (nomark _)) (pv 5) pe_int) pa_nil))))))
      (pss_one (ps_ret (pe_callTy call_tuple_of (by rfl) T.z_tuple (by decide +kernel) (pa_cons (pv 2) pa_nil))))), ?_⟩
    refine ⟨(by show 0 ≤ sizeLine; decide), fun D hD => ?_⟩
    have nDp := pen_ne hp hD
    refine ⟨.ref p, rfl, .int z, rfl, _, _, rfl, rfl, p, z + 1, rfl, hp.same (sameW hD), by omega, by omega, fun n H1 hn0 hn1 s1 hp1 => ⟨_, _, rfl, ?_⟩⟩
    have s01 : SameX p H H1 := (Same.x (sameW hD)).trans s1
    have hD1 : H1 D = some (.lst []) := s1 _ _ upd_same nDp
    refine ⟨_, rfl, n, rfl, by omega, by omega, ?_⟩
    refine for_it walk_range (fun i σ H2 => (∃ y4 y5, σ = [some (.ref p), some (.int z), some (.ref D), some (.int n), y4, y5]) ∧ SameX p H H2 ∧ PenAt H2 p ∧ ∃ xs : List Int, H2 D = some (.lst (xs.map V.int)) ∧ RowOk xs ∧ xs.length = i) ⟨⟨_, _, rfl⟩, s01, hp1, [], hD1, ⟨fun _ h => (by cases h), by decide⟩, rfl⟩ (fun _ _ _ _ _ => trivial) (fun i x σ H2o H2 hi pvi y => ?_) (fun σ H2 pvn => ?_)
    · obtain ⟨⟨y4, y5, rfl⟩, s2, hp2, xs, hx2, okx, hlen⟩ := pvi
      obtain ⟨rfl, rfl⟩ := y
      refine ⟨.ref p, rfl, p, 13, rfl, hp2, by decide, by decide, fun d3 H3 hd30 hd31 s3 hp3 => ?_⟩
      refine ⟨.ref p, rfl, p, 61, rfl, hp3, by decide, by decide, fun d4 H4 hd40 hd41 s4 hp4 => ?_⟩
      refine ⟨(by show 7 ≤ sizeLine; decide), fun L4 hL4 => ?_⟩
      have nL4 := pen_ne hp4 hL4
      refine ⟨.ref p, rfl, p, 7, rfl, hp4.same (sameW hL4), by decide, by decide, fun d5 H5 hd50 hd51 s5 hp5 => ?_⟩
      have s25 : SameX p H2 H5 := ((s3.trans s4).trans (Same.x (sameW hL4))).trans s5
      have e5 : H5 L4 = some (.lst (([0, 0, 1, 2, 5, d3, d4] : List Int).map V.int)) := s5 _ _ upd_same nL4
      obtain ⟨l, hl, al⟩ := pick (l := [0, 0, 1, 2, 5, d3, d4]) hd50 hd51
      have hl0 : 0 ≤ l := by
        simp only [List.mem_cons, List.not_mem_nil, or_false] at hl
        omega
      refine ⟨L4, _, d5, .int l, rfl, rfl, .inl (.inl e5), al, ?_⟩
      have hx5 := s25 _ _ hx2 nDp
      have hs25 := s2.trans s25
      have hsz : (xs.map V.int).length < sizeLine := by rw [List.length_map, hlen]; exact smallK (by omega)
      refine ⟨.ref D, rfl, .inl ⟨rfl, _, .inl (.inl hx5)⟩, ?_⟩
      refine ⟨.ref D, rfl, D, xs, rfl, .inl (.inl hx5), .int l, rfl, _, _, rfl, rfl, _, _, rfl, rfl, _, rfl, ?_⟩
      have fin : ∀ v : Int, 0 ≤ v → xs.sum + v ≤ 60 → SameX p H (upd H5 D (.lst (xs.map V.int ++ [V.int v]))) ∧ PenAt (upd H5 D (.lst (xs.map V.int ++ [V.int v]))) p ∧ ∃ xs' : List Int, (upd H5 D (.lst (xs.map V.int ++ [V.int v]))) D = some (.lst (xs'.map V.int)) ∧ RowOk xs' ∧ xs'.length = i + 1 := fun v h0 h1 => by
        refine ⟨hs25.new hp hD, ?_, xs ++ [v], by rw [upd_same, List.map_append]; rfl, ⟨fun a ha => ?_, ?_⟩, by rw [List.length_append, hlen]; rfl⟩
        · obtain ⟨z1, z2, z3, z4⟩ := hp5
          exact ⟨z1, z2, z3, by rw [upd_ne (Ne.symm nDp)]; exact z4⟩
        · rcases List.mem_append.mp ha with h | h
          · exact okx.1 a h
          · obtain rfl : a = v := by simpa using h
            exact h0
        · rw [BM.sum_append]
          simpa using h1
      cases c1 : decide (xs.sum + l ≤ 60) with
      | true =>
        have := of_decide_eq_true c1
        exact iteT ⟨.int l, rfl, D, _, _, rfl, rfl, hx5, hsz, ⟨_, _, rfl⟩, fin l hl0 this⟩
      | false =>
        have := okx.2
        exact iteF ⟨D, _, _, rfl, rfl, hx5, hsz, ⟨_, _, rfl⟩, fin 0 (by omega) (by omega)⟩
    · obtain ⟨⟨y4, y5, rfl⟩, s2, hp2, xs, hx2, okx, hlen⟩ := pvn
      refine ⟨.ref D, rfl, D, _, rfl, .inl ⟨.inl (.inl hx2), fun a ha => ?_⟩⟩
      exact q a _ xs (s2.trans (Same.x (sameW ha))) (hp2.same (sameW ha)) (.inl (.inl upd_same)) okx (by omega)
end
end B50

set_option Elab.async false
set_option linter.all false
set_option maxRecDepth 100000
set_option maxHeartbeats 4000000
/-! Gates: the text, what is asked of the top, what stands in the heap. -/
namespace B50
open PySem PySem.Spec PyProof.Rows L2 BX BM
abbrev sFullInit : Stmt := inClass (topS 12) 0
abbrev sLateInit : Stmt := inClass (topS 13) 0
abbrev sTryInit : Stmt := inClass (topS 50) 0
abbrev sTryEnter : Stmt := inClass (topS 50) 1
abbrev sTryExit : Stmt := inClass (topS 50) 2
abbrev sGInit : Stmt := inClass (topS 51) 1
abbrev sGCome : Stmt := inClass (topS 51) 3
abbrev sGSet : Stmt := inClass (topS 51) 4
abbrev sGAssign : Stmt := inClass (topS 51) 5
abbrev sGThrough : Stmt := inClass (topS 51) 6
abbrev sGWaiting : Stmt := inClass (topS 51) 7
abbrev sGChanges : Stmt := inClass (topS 51) 8
abbrev sGJudge : Stmt := inClass (topS 51) 9
abbrev sGAfter : Stmt := inClass (topS 51) 10
abbrev sGTick : Stmt := inClass (topS 51) 11
abbrev sGCall : Stmt := inClass (topS 51) 12
abbrev sGRun : Stmt := inClass (topS 51) 13
abbrev sGRest : Stmt := inClass (topS 51) 14
abbrev sGUndo : Stmt := inClass (topS 51) 15
abbrev sGTrying : Stmt := inClass (topS 51) 16
abbrev sGLen : Stmt := inClass (topS 51) 17
abbrev sBInit : Stmt := inClass (topS 52) 1
abbrev sBJudge : Stmt := inClass (topS 52) 3
abbrev sPInit : Stmt := inClass (topS 53) 1
abbrev sPJudge : Stmt := inClass (topS 53) 3
abbrev sEnds : Stmt := topS 61
abbrev sBoundedR : Stmt := topS 62
abbrev sPromptR : Stmt := topS 63
abbrev sSlow : Stmt := topS 65

/-! ### the addresses of Gate's defs -/
structure GFn where
  come : Addr
  through : Addr
  waiting : Addr
  after : Addr
  tick : Addr
  call : Addr
/-- what the classes of gates share; fj: its own judge -/
structure GateC (K : PySem.W.Frag) (F : GFn) (C fj : Addr) : Prop where
  cl : Cls K C
  nB : NoAttr K C "base"
  nP : NoAttr K C "past"
  p_come : ∃ p, PropOf K C "come" p F.come
  p_through : ∃ p, PropOf K C "through" p F.through
  p_waiting : ∃ p, PropOf K C "waiting" p F.waiting
  m_after : Meth K C "after" F.after
  m_tick : Meth K C "tick" F.tick
  m_judge : Meth K C "judge" fj
  c_call : StX.CallO K C F.call
structure GFs (K : PySem.W.Frag) (F : GFn) : Prop where
  come : ∃ fd, Fun K "come" "Gate.come" sGCome F.come fd
  through : ∃ fd, Fun K "through" "Gate.through" sGThrough F.through fd
  waiting : ∃ fd, Fun K "waiting" "Gate.waiting" sGWaiting F.waiting fd
  after : ∃ fd, Fun K "after" "Gate.after" sGAfter F.after fd
  tick : ∃ fd, Fun K "tick" "Gate.tick" sGTick F.tick fd
  call : ∃ fd, Fun K "__call__" "Gate.__call__" sGCall F.call fd

/-! ### what stands in the heap -/
/-- not a tuple -/
def NT (H : Hp) (p : Addr) : Prop := ∀ o, H p = some o → (∀ xs, o ≠ .tup xs) ∧ ∀ u v, o ≠ .frz u v
theorem nt_ins {H : Hp} {g C dx : Addr} {fs : List (Str × V)} (e : H g = some (.ins C dx fs)) : NT H g := fun o h => by
  rw [e] at h; cases h
  exact ⟨fun _ q => (by cases q), fun _ _ q => (by cases q)⟩
section
variable {K : PySem.W.Frag} {CL : Addr} {p : Addr} {H H' : Hp}
theorem SameX.tupN (s : SameX p H H') (h : NT H p) {a : Addr} {xs : List V} (hT : SqT K H a xs) : SqT K H' a xs := by
  rcases hT with (z | ⟨o, z⟩) | z
  · exact .inl (.inl (s _ _ z fun e => (h _ (e ▸ z)).1 _ rfl))
  · exact .inl (.inr ⟨o, s _ _ z fun e => (h _ (e ▸ z)).2 _ _ rfl⟩)
  · exact .inr z
theorem SameX.pairsN (s : SameX p H H') (h : NT H p) {t : Addr} {PP : List Pr} (hP : PairsAt K H t PP) : PairsAt K H' t PP := by
  obtain ⟨as, h1, h2, h3⟩ := hP
  exact ⟨as, s.tupN h h1, h2, fun i a q x y => s.tupN h (h3 i a q x y)⟩
theorem SameX.limN (s : SameX p H H') {C dx : Addr} {fs : List (Str × V)} (e : H p = some (.ins C dx fs)) (n : CL ≠ C) {x : Addr} {PP : List Pr} (hL : LimAt K CL H x PP) : LimAt K CL H' x PP := by
  obtain ⟨dx, t, h1, h2⟩ := hL
  refine ⟨dx, t, s _ _ h1 fun q => ?_, s.pairsN (nt_ins e) h2⟩
  rw [q, e] at h1; cases h1; exact n rfl
end
abbrev St2 := List Int × List Int
def StateAt (K : PySem.W.Frag) (H : Hp) (a : Addr) (s : St2) : Prop := ∃ c t, SqT K H a [.ref c, .ref t] ∧ TI K H c s.1 ∧ TI K H t s.2
def StatesAt (K : PySem.W.Frag) (H : Hp) (pt : Addr) (S : List St2) : Prop := ∃ as : List Addr, SqT K H pt (as.map V.ref) ∧ as.length = S.length ∧ ∀ (i : Nat) (a : Addr) (s : St2), as[i]? = some a → S[i]? = some s → StateAt K H a s
def GateAt (K : PySem.W.Frag) (CL C : Addr) (H : Hp) (g : Addr) (B : List Pr) (S : List St2) (ext : List (Str × V)) : Prop :=
  ∃ dx lim pt, H g = some (.ins C dx (("base", .ref lim) :: ("past", .ref pt) :: ext)) ∧ LimAt K CL H lim B ∧ StatesAt K H pt S
section
variable {K : PySem.W.Frag} {CL C : Addr} {H H' : Hp} {p : Addr}
theorem StateAt.same (e : Same H H') {a : Addr} {s : St2} (h : StateAt K H a s) : StateAt K H' a s := by
  obtain ⟨c, t, h1, h2, h3⟩ := h
  exact ⟨c, t, sameT e h1, sameT e h2, sameT e h3⟩
theorem StatesAt.same (e : Same H H') {a : Addr} {S : List St2} (h : StatesAt K H a S) : StatesAt K H' a S := by
  obtain ⟨as, h1, h2, h3⟩ := h
  exact ⟨as, sameT e h1, h2, fun i a s x y => (h3 i a s x y).same e⟩
theorem GateAt.same (e : Same H H') {g : Addr} {B : List Pr} {S : List St2} {ext : List (Str × V)} (h : GateAt K CL C H g B S ext) : GateAt K CL C H' g B S ext := by
  obtain ⟨dx, lim, pt, h1, h2, h3⟩ := h
  exact ⟨dx, lim, pt, e _ _ h1, h2.same e, h3.same e⟩
theorem SameX.stateN (s : SameX p H H') (h : NT H p) {a : Addr} {z : St2} (hS : StateAt K H a z) : StateAt K H' a z := by
  obtain ⟨c, t, h1, h2, h3⟩ := hS
  exact ⟨c, t, s.tupN h h1, s.tupN h h2, s.tupN h h3⟩
theorem SameX.statesN (s : SameX p H H') (h : NT H p) {a : Addr} {S : List St2} (hS : StatesAt K H a S) : StatesAt K H' a S := by
  obtain ⟨as, h1, h2, h3⟩ := hS
  exact ⟨as, s.tupN h h1, h2, fun i a z x y => s.stateN h (h3 i a z x y)⟩
/-- another gate stays -/
theorem SameX.gateN (s : SameX p H H') {C' dx : Addr} {fs : List (Str × V)} (e : H p = some (.ins C' dx fs)) (n : CL ≠ C') {g : Addr} (hg : g ≠ p) {B : List Pr} {S : List St2} {ext : List (Str × V)} (h : GateAt K CL C H g B S ext) : GateAt K CL C H' g B S ext := by
  obtain ⟨dx, lim, pt, h1, h2, h3⟩ := h
  exact ⟨dx, lim, pt, s _ _ h1 hg, s.limN e n h2, s.statesN (nt_ins e) h3⟩
theorem put_past (x y z : V) (ext : List (Str × V)) : putF ("past" : Str) z ((("base" : Str), x) :: (("past" : Str), y) :: ext) = (("base" : Str), x) :: (("past" : Str), z) :: ext := by
  have n : ¬ (("base" : Str) = ("past" : Str)) := by decide
  simp [putF, n]
theorem look_base (x : V) (r : List (Str × V)) : ((("base" : Str), x) :: r).lookup ("base" : Str) = some x := by simp [List.lookup]
theorem look_past (x y : V) (r : List (Str × V)) : ((("base" : Str), x) :: (("past" : Str), y) :: r).lookup ("past" : Str) = some y := by
  have n : (("past" : Str) == ("base" : Str)) = false := by decide
  rw [List.lookup_cons, n]
  simp [List.lookup]
/-- no method's name is a field -/
theorem look_no {f : Str} {x y : V} {r : List (Str × V)} (h1 : (f == ("base" : Str)) = false) (h2 : (f == ("past" : Str)) = false) (h3 : r.lookup f = none) : ((("base" : Str), x) :: (("past" : Str), y) :: r).lookup f = none := by
  rw [List.lookup_cons, h1, List.lookup_cons, h2]; exact h3
end
theorem passT {X : Cx} {E : XK} (tk : Takes X (fun cls d _ H' => E cls d H')) : Passes (L2.CX X.prog X.w) X E := fun _ _ _ _ _ s' I c => tk _ s' (XE.of_call I (fun _ _ _ h => h) c)
end B50

set_option Elab.async false
set_option linter.all false
set_option maxRecDepth 100000
set_option maxHeartbeats 4000000
/-! Gate: what is read, a tick. -/
namespace B50
open PySem PySem.Spec PyProof.Rows L2 BX BM
/-- what comes behind an amount -/
def stepG (B : List Pr) (z : St2) (n : Int) : St2 := (z.1 ++ [n], z.2 ++ [min (z.1.sum + n - z.2.sum) (allowed B z.2)])
/-- what a class of gates lets by, and how it refuses -/
structure Jd where
  cond : List Int → List Int → Bool
  exc : Addr
  fld : Str
  val : List Int → List Int → Int
/-- come and through that a judge sees -/
structure JOk (cs ts : List Int) : Prop where
  ne : cs ≠ []
  row : RowOk cs
  lo : 0 ≤ cs.sum - ts.sum
  hi : cs.sum - ts.sum ≤ 60
section
variable {P : Program} {w : World} {K : PySem.W.Frag} {mg : Str → Option Value} {base : Heap} {CL C : Addr} {F : GFn} {fj : Addr}
theorem okE {x qual : Str} {st : Stmt} {f : Addr} {fd : FuncData} {N ps : List Str} {k : Nat} {sp : Sp} (F : Fun K x qual st f fd) (S : FnScope N ps (defScope st)) (len : ∀ vs H Q E, sp vs H Q E → vs.length = ps.length)
    (hb : ∀ (kV doc pm : Value) (an : Option Addr) (cdv ct : Value) (us : List Value), us.length = ps.length → bindArgs (PySem.W.fnOf x qual (defArgs st) (defBody st) (defScope st) .none kV doc pm an cdv ct) ⟨us, []⟩ = pure (ps.zip us))
    (hbody : ∀ (cdv : Value) (A : Around) (outer : List Env) (s : Shared) (H : Hp) (vs : List V) (Q : VK) (E : XK), Room k (A.deeper (envOfC qual (defScope st) s.heap.objs.size f cdv)) → sp vs H Q E →
      ∃ t, PSs (cxOf (L2.CX P w) P w K mg base N qual (defScope st) f cdv A outer s H E) (defBody st) t ∧ t { nx := fun _ H' => Q .non H', rt := Q } (start N vs) H) : FnR P w K mg base (L2.CX P w) (k + 1) f sp := by
  have F2 : FnOk P w K mg base (L2.CX P w) (k + 1) f fd ps sp := F.okX S len hbody
  have F3 := F2.raw (F.binds hb) .nil
  exact F3.imp fun vs H Q E h => by rw [List.append_nil]; exact h
theorem states_last {H : Hp} {pt : Addr} {S0 : List St2} {z : St2} (h : StatesAt K H pt (S0 ++ [z])) : ∃ (as0 : List Addr) (a : Addr), SqT K H pt (as0.map V.ref ++ [V.ref a]) ∧ as0.length = S0.length ∧ StateAt K H a z ∧ ∀ (i : Nat) (b : Addr) (s : St2), as0[i]? = some b → S0[i]? = some s → StateAt K H b s := by
  obtain ⟨as, h1, h2, h3⟩ := h
  rcases List.eq_nil_or_concat as with rfl | ⟨as0, a, rfl⟩
  · simp at h2
  · rw [List.concat_eq_append] at *
    have hl : as0.length = S0.length := by simpa using h2
    refine ⟨as0, a, by rw [List.map_append] at h1; exact h1, hl, h3 as0.length a z (by simp) (by rw [hl]; simp), fun i b s x y => ?_⟩
    have hi : i < as0.length := (List.getElem?_eq_some_iff.mp x).1
    exact h3 i b s (by rw [List.getElem?_append_left hi]; exact x) (by rw [List.getElem?_append_left (by omega)]; exact y)
/-- come, through, read -/
def sp_come (K : PySem.W.Frag) (CL C : Addr) : Sp := fun vs H Q _ => ∃ (g : Addr) (B : List Pr) (S0 : List St2) (z : St2) (ext : List (Str × V)), vs = [.ref g] ∧ GateAt K CL C H g B (S0 ++ [z]) ext ∧ ∀ c, TI K H c z.1 → Q (.ref c) H
def sp_through (K : PySem.W.Frag) (CL C : Addr) : Sp := fun vs H Q _ => ∃ (g : Addr) (B : List Pr) (S0 : List St2) (z : St2) (ext : List (Str × V)), vs = [.ref g] ∧ GateAt K CL C H g B (S0 ++ [z]) ext ∧ ∀ c, TI K H c z.2 → Q (.ref c) H
theorem f_come (G : GateC K F C fj) {fd : FuncData} (FF : Fun K "come" "Gate.come" sGCome F.come fd) : FnOk P w K mg base (L2.CX P w) 1 F.come fd ["self"] (sp_come K CL C) := by
  refine FF.okX (N := ["self"]) ⟨rfl, rfl, rfl, by decide +kernel, rfl, by decide +kernel, by decide +kernel⟩ (fun vs H Q E h => ?_) (fun cdv A outer s H vs Q E hr h => ?_)
  · obtain ⟨g, B, S0, z, ext, rfl, _⟩ := h; rfl
  · obtain ⟨g, B, S0, z, ext, rfl, ⟨dx, lim, pt, e, hL, hS⟩, q⟩ := h
    obtain ⟨as0, a, h1, h2, ⟨c, t, h3, h4, h5⟩, _⟩ := states_last hS
    refine ⟨_, PSs.nox (pss_one (ps_ret (pe_ix ix_tup (pe_ix ix_tup (pe_fld (pv 0) rfl) (pe_un un_neg pe_int) (fun _ _ => rfl)) pe_int (fun _ _ => rfl)))), ?_⟩
    exact ⟨.ref g, rfl, g, C, dx, _, .ref pt, rfl, e, G.cl, G.nP, look_past _ _ _, 1, rfl, pt, _, -1, .ref a, rfl, rfl, h1, atI_last _ _, a, _, 0, .ref c, rfl, rfl, h3, atI_nat (j := 0) rfl, q c h4⟩
theorem f_through (G : GateC K F C fj) {fd : FuncData} (FF : Fun K "through" "Gate.through" sGThrough F.through fd) : FnOk P w K mg base (L2.CX P w) 1 F.through fd ["self"] (sp_through K CL C) := by
  refine FF.okX (N := ["self"]) ⟨rfl, rfl, rfl, by decide +kernel, rfl, by decide +kernel, by decide +kernel⟩ (fun vs H Q E h => ?_) (fun cdv A outer s H vs Q E hr h => ?_)
  · obtain ⟨g, B, S0, z, ext, rfl, _⟩ := h; rfl
  · obtain ⟨g, B, S0, z, ext, rfl, ⟨dx, lim, pt, e, hL, hS⟩, q⟩ := h
    obtain ⟨as0, a, h1, h2, ⟨c, t, h3, h4, h5⟩, _⟩ := states_last hS
    refine ⟨_, PSs.nox (pss_one (ps_ret (pe_ix ix_tup (pe_ix ix_tup (pe_fld (pv 0) rfl) (pe_un un_neg pe_int) (fun _ _ => rfl)) pe_int (fun _ _ => rfl)))), ?_⟩
    exact ⟨.ref g, rfl, g, C, dx, _, .ref pt, rfl, e, G.cl, G.nP, look_past _ _ _, 1, rfl, pt, _, -1, .ref a, rfl, rfl, h1, atI_last _ _, a, _, 1, .ref t, rfl, rfl, h3, atI_nat (j := 1) rfl, q t h5⟩
section
variable {X : Cx} {e : Expr} {ta : TE} {pos : Pos} {p : Addr} {fd : FuncData} {k : Nat}
theorem pe_come (G : GateC X.K F C fj) (FF : Fun X.K "come" "Gate.come" sGCome F.come fd) (hp : PropOf X.K C "come" p F.come) (hr : Room (k + 2) X.A) (he : PE X e ta) (hab : attributeBase e "come" X.env (eval e X.env) = eval e X.env := by rfl) :
    PE X (.Attribute e "come" pos) (tProp C (sp_come X.K CL C) [] E0 ta) :=
  pe_prop he G.cl hp (f_come G FF) (hr.mono (by omega)) (FF.binds (ps := ["self"]) fun _ _ _ _ _ _ us hl => match us, hl with | [_], _ => rfl) .nil passL hab
theorem pe_through (G : GateC X.K F C fj) (FF : Fun X.K "through" "Gate.through" sGThrough F.through fd) (hp : PropOf X.K C "through" p F.through) (hr : Room (k + 2) X.A) (he : PE X e ta) (hab : attributeBase e "through" X.env (eval e X.env) = eval e X.env := by rfl) :
    PE X (.Attribute e "through" pos) (tProp C (sp_through X.K CL C) [] E0 ta) :=
  pe_prop he G.cl hp (f_through G FF) (hr.mono (by omega)) (FF.binds (ps := ["self"]) fun _ _ _ _ _ _ us hl => match us, hl with | [_], _ => rfl) .nil passL hab
end
/-- waiting -/
def sp_gwaiting (K : PySem.W.Frag) (CL C : Addr) : Sp := fun vs H Q _ => ∃ (g : Addr) (B : List Pr) (S0 : List St2) (z : St2) (ext : List (Str × V)), vs = [.ref g] ∧ GateAt K CL C H g B (S0 ++ [z]) ext ∧ Q (.int (z.1.sum - z.2.sum)) H
theorem f_gwaiting (T : Txt K mg CL) (G : GateC K F C fj) (Fs : GFs K F) {fd : FuncData} (FF : Fun K "waiting" "Gate.waiting" sGWaiting F.waiting fd) : FnOk P w K mg base (L2.CX P w) 3 F.waiting fd ["self"] (sp_gwaiting K CL C) := by
  obtain ⟨fdc, FC⟩ := Fs.come
  obtain ⟨fdt, FT⟩ := Fs.through
  obtain ⟨pc, hpc⟩ := G.p_come
  obtain ⟨pt, hpt⟩ := G.p_through
  refine FF.okX (N := ["self"]) ⟨rfl, rfl, rfl, by decide +kernel, rfl, by decide +kernel, by decide +kernel⟩ (fun vs H Q E h => ?_) (fun cdv A outer s H vs Q E hr h => ?_)
  · obtain ⟨g, B, S0, z, ext, rfl, _⟩ := h; rfl
  · obtain ⟨g, B, S0, z, ext, rfl, hG, q⟩ := h
    obtain ⟨dx, lim, ptt, e, hL, hS⟩ := id hG
    refine ⟨_, PSs.nox (pss_one (ps_ret (pe_op op_sub (pe_callB (cr_sumT rfl) (by rfl) T.z_sum (by decide +kernel) (pa_cons (pe_come (CL := CL) (k := 0) G FC hpc hr (pv 0)) pa_nil)) (pe_callB (cr_sumT rfl) (by rfl) T.z_sum (by decide +kernel) (pa_cons (pe_through (CL := CL) (k := 0) G FT hpt hr (pv 0)) pa_nil))))), ?_⟩
    refine ⟨.ref g, rfl, g, dx, _, rfl, e, g, B, S0, z, ext, rfl, hG, fun c hc => ⟨c, z.1, rfl, hc, ?_⟩⟩
    exact ⟨.ref g, rfl, g, dx, _, rfl, e, g, B, S0, z, ext, rfl, hG, fun c hc => ⟨c, z.2, rfl, hc, _, _, rfl, rfl, q⟩⟩
theorem pe_gwaiting {X : Cx} {e : Expr} {ta : TE} {pos : Pos} {p : Addr} {fd : FuncData} {k : Nat} (T : Txt X.K X.mg CL) (G : GateC X.K F C fj) (Fs : GFs X.K F) (FF : Fun X.K "waiting" "Gate.waiting" sGWaiting F.waiting fd) (hp : PropOf X.K C "waiting" p F.waiting) (hr : Room (k + 4) X.A) (he : PE X e ta)
    (hab : attributeBase e "waiting" X.env (eval e X.env) = eval e X.env := by rfl) : PE X (.Attribute e "waiting" pos) (tProp C (sp_gwaiting X.K CL C) [] E0 ta) :=
  pe_prop he G.cl hp (f_gwaiting T G Fs FF) (hr.mono (by omega)) (FF.binds (ps := ["self"]) fun _ _ _ _ _ _ us hl => match us, hl with | [_], _ => rfl) .nil passL hab
/-- judge -/
def sp_judge (K : PySem.W.Frag) (CL C : Addr) (J : Jd) (ext : List (Str × V)) (B : List Pr) : Sp := fun vs H Q E => ∃ (g c t : Addr) (S : List St2) (cs ts : List Int), vs = [.ref g, .ref c, .ref t] ∧ GateAt K CL C H g B S ext ∧ LimOk B ∧ TI K H c cs ∧ TI K H t ts ∧ cs.length ≤ 50000 ∧ ts.length ≤ 50001 ∧ JOk cs ts ∧
  (J.cond cs ts = true → RetV H Q .non) ∧ (J.cond cs ts = false → ∀ d H', Same H H' → H d = none → H' d = some (.xd [(J.fld, .int (J.val cs ts))]) → E (.ref J.exc) (some d) H')
/-- after -/
def sp_after (K : PySem.W.Frag) (CL C : Addr) (J : Jd) (ext : List (Str × V)) (B : List Pr) : Sp := fun vs H Q E => ∃ (g a : Addr) (n : Int) (S : List St2) (z : St2), vs = [.ref g, .ref a, .int n] ∧ GateAt K CL C H g B S ext ∧ LimOk B ∧ StateAt K H a z ∧ z.1.length ≤ 49999 ∧ z.2.length ≤ 50000 ∧ JOk (stepG B z n).1 (stepG B z n).2 ∧
  (J.cond (stepG B z n).1 (stepG B z n).2 = true → ∀ a' H', Same H H' → StateAt K H' a' (stepG B z n) → Q (.ref a') H') ∧
  (J.cond (stepG B z n).1 (stepG B z n).2 = false → ∀ d H', Same H H' → H d = none → H' d = some (.xd [(J.fld, .int (J.val (stepG B z n).1 (stepG B z n).2))]) → E (.ref J.exc) (some d) H')
theorem f_after (T : Txt K mg CL) (G : GateC K F C fj) {fd : FuncData} (FF : Fun K "after" "Gate.after" sGAfter F.after fd) {J : Jd} {ext : List (Str × V)} (B : List Pr) (FJ : FnR P w K mg base (L2.CX P w) 6 fj (sp_judge K CL C J ext B)) (hj : ext.lookup ("judge" : Str) = none) : FnR P w K mg base (L2.CX P w) 7 F.after (sp_after K CL C J ext B) := by
  obtain ⟨fp, fdp, pp, FP, hpp⟩ := T.prs
  have nd : (["self", "state", "amount", "come", "through", "left", "go"] : List Str).Nodup := by decide +kernel
  refine okE (N := ["self", "state", "amount", "come", "through", "left", "go"]) (ps := ["self", "state", "amount"]) FF ⟨rfl, rfl, rfl, nd, rfl, by decide +kernel, by decide +kernel⟩ (fun vs H Q E h => ?_) (fun _ _ _ _ _ _ us hl => match us, hl with | [_, _, _], _ => rfl) (fun cdv A outer s H vs Q E hr h => ?_)
  · obtain ⟨g, a, n, S, z, rfl, _⟩ := h; rfl
  · obtain ⟨g, a, n, S, z, rfl, hG, ok, ⟨c, t, h1, h2, h3⟩, hz1, hz2, hjo, q1, q2⟩ := h
    obtain ⟨dx, lim, pt, e, hL, hS⟩ := id hG
    obtain ⟨dl, tl, el, hPl⟩ := id hL
    refine ⟨_, pss_cons (ps_asg (pv 1) (pg_tup rfl (pgs_cons (pg_name (i := 3) nd rfl (.inl rfl)) (pgs_cons (pg_name (i := 4) nd rfl (.inl rfl)) pgs_nil))))
      (pss_cons (ps_set (i := 5) nd rfl (.inl rfl) (pe_op op_sub (pe_op op_add (pe_callB (cr_sumT rfl) (by rfl) T.z_sum (by decide +kernel) (pa_cons (pv 3) pa_nil)) (pv 2)) (pe_callB (cr_sumT rfl) (by rfl) T.z_sum (by decide +kernel) (pa_cons (pv 4) pa_nil))))
      (pss_cons (ps_set (i := 6) nd rfl (.inl rfl) (pe_callB (call_min2 rfl) (by rfl) T.z_min (by decide +kernel) (pa_cons (pv 5) (pa_cons (pe_D (d_allowed T) hr (by rfl) (pa_cons (pe_pairs (k := 4) T FP hpp hr (pe_fld (pv 0) rfl)) (pa_cons (pv 4) pa_nil))) pa_nil))))
      (pss_cons (ps_set (i := 1) nd rfl (.inl rfl) (pe_tup (pa_cons (pe_tup (StX.pa_star (pv 3) (pa_cons (pv 2) pa_nil))) (pa_cons (pe_tup (StX.pa_star (pv 4) (pa_cons (pv 6) pa_nil))) pa_nil))))
      (pss_cons (ps_expr (pe_methR (pv 0) G.cl G.m_judge FJ hr (passT (takes_of rfl rfl rfl rfl)) (pa_cons (pe_ix ix_tup (pv 1) pe_int (fun _ _ => rfl)) (pa_cons (pe_ix ix_tup (pv 1) pe_int (fun _ _ => rfl)) pa_nil))))
      (pss_one (ps_ret (pv 1))))))), ?_⟩
    refine ⟨.ref a, rfl, a, _, rfl, h1, rfl, _, _, rfl, _, _, rfl, rfl, ?_⟩
    refine ⟨.ref c, rfl, c, z.1, rfl, h2, .int n, rfl, _, _, rfl, rfl, .ref t, rfl, t, z.2, rfl, h3, _, _, rfl, rfl, ?_⟩
    refine ⟨.int (z.1.sum + n - z.2.sum), rfl, .ref g, rfl, g, C, dx, _, .ref lim, rfl, e, G.cl, G.nB, look_base _ _, lim, dl, _, rfl, el, lim, dl, _, .ref tl, rfl, el, kept_look _, .ref t, rfl, ?_⟩
    refine ⟨tl, t, B, z.2, rfl, hPl, ok, .inr h3, by omega, fun H1 s1 => ⟨_, _, rfl, ?_⟩⟩
    have hmin : (if allowed B z.2 < z.1.sum + n - z.2.sum then allowed B z.2 else z.1.sum + n - z.2.sum) = min (z.1.sum + n - z.2.sum) (allowed B z.2) := by split <;> omega
    have hl1 : (z.1.map V.int ++ [V.int n]).length ≤ sizeLine := by rw [List.length_append, List.length_map, sizeLine_eq]; show z.1.length + 1 ≤ _; omega
    have hl2 : (z.2.map V.int ++ [V.int (if allowed B z.2 < z.1.sum + n - z.2.sum then allowed B z.2 else z.1.sum + n - z.2.sum)]).length ≤ sizeLine := by rw [List.length_append, List.length_map, sizeLine_eq]; show z.2.length + 1 ≤ _; omega
    refine ⟨.ref c, rfl, c, z.1.map V.int, rfl, .inl (sameT s1 h2), .int n, rfl, hl1, fun c2 hc2 => ?_⟩
    have s2 := s1.trans (sameW (o := .tup (z.1.map V.int ++ [V.int n])) hc2)
    refine ⟨.ref t, rfl, t, z.2.map V.int, rfl, .inl (sameT s2 h3), _, rfl, hl2, fun t2 ht2 => ⟨(by show 2 ≤ sizeLine; decide), fun a2 ha2 => ?_⟩⟩
    have e3 : Same (upd H1 c2 (.tup (z.1.map V.int ++ [V.int n]))) _ := sameW (o := .tup (z.2.map V.int ++ [V.int (if allowed B z.2 < z.1.sum + n - z.2.sum then allowed B z.2 else z.1.sum + n - z.2.sum)])) ht2
    have e4 := sameW (o := .tup [.ref c2, .ref t2]) ha2
    have s4 := (s2.trans e3).trans e4
    have hc : TI K _ c2 (stepG B z n).1 := sameT (e3.trans e4) (.inl (.inl (by rw [upd_same]; unfold stepG; rw [List.map_append]; rfl)))
    have ht : TI K _ t2 (stepG B z n).2 := sameT e4 (.inl (.inl (by rw [upd_same]; unfold stepG; rw [List.map_append, hmin]; rfl)))
    have ha : SqT K (upd (upd (upd H1 c2 (.tup (z.1.map V.int ++ [V.int n]))) t2 (.tup (z.2.map V.int ++ [V.int (if allowed B z.2 < z.1.sum + n - z.2.sum then allowed B z.2 else z.1.sum + n - z.2.sum)]))) a2 (.tup [.ref c2, .ref t2])) a2 [.ref c2, .ref t2] := .inl (.inl upd_same)
    have lj : ((("base" : Str), V.ref lim) :: (("past" : Str), V.ref pt) :: ext).lookup ("judge" : Str) = none := look_no (by decide) (by decide) hj
    have ln1 : (stepG B z n).1.length ≤ 50000 := by unfold stepG; rw [List.length_append]; show z.1.length + 1 ≤ _; omega
    have ln2 : (stepG B z n).2.length ≤ 50001 := by unfold stepG; rw [List.length_append]; show z.2.length + 1 ≤ _; omega
    refine ⟨.ref g, rfl, g, dx, _, rfl, s4 _ _ e, lj, ?_⟩
    refine ⟨.ref a2, rfl, a2, _, 0, _, rfl, rfl, ha, atI_nat (j := 0) rfl, .ref a2, rfl, a2, _, 1, _, rfl, rfl, ha, atI_nat (j := 1) rfl, ?_⟩
    refine ⟨g, c2, t2, S, _, _, rfl, hG.same s4, ok, hc, ht, ln1, ln2, hjo, fun hy H5 s5 => ?_, fun hn d H5 s5 hd hH => ?_⟩
    · exact ⟨.ref a2, rfl, q1 hy a2 H5 (s4.trans s5) ⟨c2, t2, sameT s5 ha, sameT s5 hc, sameT s5 ht⟩⟩
    · refine q2 hn d H5 (s4.trans s5) ?_ hH
      cases e0 : H d with
      | none => rfl
      | some o => rw [s4 _ _ e0] at hd; cases hd
/-- tick -/
def sp_tick (K : PySem.W.Frag) (CL C : Addr) (J : Jd) (ext : List (Str × V)) (B : List Pr) : Sp := fun vs H Q E => ∃ (g : Addr) (n : Int) (S0 : List St2) (z : St2), vs = [.ref g, .int n] ∧ GateAt K CL C H g B (S0 ++ [z]) ext ∧ LimOk B ∧ 0 ≤ n ∧ n ≤ 60 ∧ z.1.sum + n ≤ 60 ∧ z.1.length ≤ 49999 ∧ z.2.length ≤ 50000 ∧ S0.length ≤ 50000 ∧ JOk (stepG B z n).1 (stepG B z n).2 ∧
  (J.cond (stepG B z n).1 (stepG B z n).2 = true → ∀ (v : Int) H', SameX g H H' → GateAt K CL C H' g B (S0 ++ [z] ++ [stepG B z n]) ext → Q (.int v) H') ∧
  (J.cond (stepG B z n).1 (stepG B z n).2 = false → ∀ d H', Same H H' → H d = none → H' d = some (.xd [(J.fld, .int (J.val (stepG B z n).1 (stepG B z n).2))]) → E (.ref J.exc) (some d) H')
theorem f_tick (T : Txt K mg CL) (G : GateC K F C fj) (Fs : GFs K F) (hCL : CL ≠ C) {J : Jd} {ext : List (Str × V)} (B : List Pr) (FJ : FnR P w K mg base (L2.CX P w) 6 fj (sp_judge K CL C J ext B)) (hj : ext.lookup ("judge" : Str) = none) (ha : ext.lookup ("after" : Str) = none) (hx : ext.length ≤ 10) : FnR P w K mg base (L2.CX P w) 8 F.tick (sp_tick K CL C J ext B) := by
  obtain ⟨fdc, FC⟩ := Fs.come
  obtain ⟨fdt, FT⟩ := Fs.through
  obtain ⟨fda, FA⟩ := Fs.after
  obtain ⟨fdk, FF⟩ := Fs.tick
  obtain ⟨pc, hpc⟩ := G.p_come
  obtain ⟨pt, hpt⟩ := G.p_through
  obtain ⟨t3, m3⟩ := T.i_requests
  have nd : (["self", "amount", "count"] : List Str).Nodup := by decide +kernel
  have FAR := f_after (P := P) (w := w) (base := base) T G FA B FJ hj
  refine okE (N := ["self", "amount", "count"]) (ps := ["self", "amount"]) FF ⟨rfl, rfl, rfl, nd, rfl, by decide +kernel, by decide +kernel⟩ (fun vs H Q E h => ?_) (fun _ _ _ _ _ _ us hl => match us, hl with | [_, _], _ => rfl) (fun cdv A outer s H vs Q E hr h => ?_)
  · obtain ⟨g, n, S0, z, rfl, _⟩ := h; rfl
  · obtain ⟨g, n, S0, z, rfl, hG, ok, hn0, hn1, hsum, hz1, hz2, hS0, hjo, q1, q2⟩ := h
    obtain ⟨dx, lim, ptt, e, hL, hS⟩ := id hG
    obtain ⟨as0, a, hs1, hs2, hst, hs3⟩ := states_last hS
    refine ⟨_, pss_cons (ps_if (pt_not (pt_val (pe_D (d_is_between T) hr (by rfl) (pa_cons (pv 1) (pa_cons pe_int (pa_cons (pe_gint (by rfl) m3) pa_nil)))))) (pss_one ps_never) pss_nil)
      (pss_cons (ps_set (i := 2) nd rfl (.inl rfl) (pe_op op_add (pe_callB (cr_sumT rfl) (by rfl) T.z_sum (by decide +kernel) (pa_cons (pe_come (CL := CL) (k := 5) G FC hpc hr (pv 0)) pa_nil)) (pv 1)))
      (pss_cons (ps_if (pt_cmpR op_gt (pv 2) (pe_gint (by rfl) m3) (nomark _)) (pss_one ps_never) pss_nil)
      (pss_cons (ps_fld (pv 0) (pe_tup (StX.pa_star (pe_fld (pv 0) rfl) (pa_cons (pe_methR (pv 0) G.cl G.m_after FAR hr (passT (takes_of rfl rfl rfl rfl)) (pa_cons (pe_ix ix_tup (pe_fld (pv 0) rfl) (pe_un un_neg pe_int) (fun _ _ => rfl)) (pa_cons (pv 1) pa_nil))) pa_nil))) rfl)
      (pss_one (ps_ret (pe_ix ix_tup (pe_through (CL := CL) (k := 5) G FT hpt hr (pv 0)) (pe_un un_neg pe_int) (fun _ _ => rfl))))))), ?_⟩
    refine ⟨.int n, rfl, n, 0, 60, rfl, ?_⟩
    rw [btw hn0 hn1]
    refine ⟨true, rfl, iteF ?_⟩
    refine ⟨.ref g, rfl, g, dx, _, rfl, e, g, B, S0, z, ext, rfl, hG, fun c hc => ⟨c, z.1, rfl, hc, .int n, rfl, _, _, rfl, rfl, ?_⟩⟩
    refine ⟨.int (z.1.sum + n), rfl, _, _, rfl, rfl, _, rfl, ?_⟩
    rw [decide_eq_false (show ¬ (60 : Int) < z.1.sum + n by omega)]
    refine iteF ?_
    have la : ((("base" : Str), V.ref lim) :: (("past" : Str), V.ref ptt) :: ext).lookup ("after" : Str) = none := look_no (by decide) (by decide) ha
    refine ⟨.ref g, rfl, g, C, dx, _, .ref ptt, rfl, e, G.cl, G.nP, look_past _ _ _, ptt, _, rfl, .inl hs1, .ref g, rfl, g, dx, _, rfl, e, la, ?_⟩
    refine ⟨.ref g, rfl, g, C, dx, _, .ref ptt, rfl, e, G.cl, G.nP, look_past _ _ _, 1, rfl, ptt, _, -1, .ref a, rfl, rfl, hs1, atI_last _ _, .int n, rfl, ?_⟩
    refine ⟨g, a, n, S0 ++ [z], z, rfl, hG, ok, hst, hz1, hz2, hjo, fun hy a' H1 s1 ha' => ?_, q2⟩
    have hl : ((as0.map V.ref ++ [V.ref a]) ++ [V.ref a']).length ≤ sizeLine := by
      rw [List.length_append, List.length_append, List.length_map, sizeLine_eq]; show as0.length + 1 + 1 ≤ _; omega
    refine ⟨hl, fun p hp => ?_⟩
    have s2 := s1.trans (sameW (o := .tup ((as0.map V.ref ++ [V.ref a]) ++ [V.ref a'])) hp)
    have e2 := sameW (o := .tup ((as0.map V.ref ++ [V.ref a]) ++ [V.ref a'])) hp
    have npg : g ≠ p := ne_of_none (s1 _ _ e) hp
    refine ⟨.ref g, rfl, g, C, dx, _, rfl, s2 _ _ e, G.cl, G.nP, by show ext.length + 1 + 1 < 1000; omega, ?_⟩
    rw [put_past]
    generalize hH3 : upd (upd H1 p (.tup ((as0.map V.ref ++ [V.ref a]) ++ [V.ref a']))) g (.ins C dx ((("base" : Str), V.ref lim) :: (("past" : Str), V.ref p) :: ext)) = H3
    have sx : SameX g H H3 := fun b o eb nb => by rw [← hH3, upd_ne nb]; exact s2 b o eb
    have s2x : SameX g (upd H1 p (.tup ((as0.map V.ref ++ [V.ref a]) ++ [V.ref a']))) H3 := fun b o eb nb => by rw [← hH3, upd_ne nb]; exact eb
    have e2g := s2 _ _ e
    have nt := nt_ins e2g
    have hG3 : GateAt K CL C H3 g B (S0 ++ [z] ++ [stepG B z n]) ext := by
      refine ⟨dx, lim, p, by rw [← hH3, upd_same], s2x.limN e2g hCL (hL.same s2), as0 ++ [a] ++ [a'], ?_, ?_, fun i b s x y => ?_⟩
      · refine s2x.tupN nt (.inl (.inl ?_))
        rw [upd_same, List.map_append, List.map_append]; rfl
      · rw [List.length_append, List.length_append, List.length_append, List.length_append, hs2]; rfl
      · refine s2x.stateN nt ?_
        by_cases h1 : i < as0.length
        · rw [List.append_assoc, List.getElem?_append_left h1] at x
          rw [List.append_assoc, List.getElem?_append_left (by omega)] at y
          exact (hs3 i b s x y).same s2
        · by_cases h2 : i = as0.length
          · subst h2
            have ex : (as0 ++ [a] ++ [a'])[as0.length]? = some a := by simp
            have ey : (S0 ++ [z] ++ [stepG B z n])[as0.length]? = some z := by rw [hs2]; simp
            obtain rfl : a = b := Option.some.inj (ex.symm.trans x)
            obtain rfl : z = s := Option.some.inj (ey.symm.trans y)
            exact hst.same s2
          · have h3 : i = as0.length + 1 := by
              have := (List.getElem?_eq_some_iff.mp x).1
              simp at this; omega
            subst h3
            have ex : (as0 ++ [a] ++ [a'])[as0.length + 1]? = some a' := by simp
            have ey : (S0 ++ [z] ++ [stepG B z n])[as0.length + 1]? = some (stepG B z n) := by rw [hs2]; simp
            obtain rfl : a' = b := Option.some.inj (ex.symm.trans x)
            obtain rfl : stepG B z n = s := Option.some.inj (ey.symm.trans y)
            exact ha'.same e2
    have hgo : (stepG B z n).2.map V.int = z.2.map V.int ++ [V.int (min (z.1.sum + n - z.2.sum) (allowed B z.2))] := by unfold stepG; rw [List.map_append]; rfl
    obtain ⟨dx3, lim3, pt3, e3, _⟩ := id hG3
    refine ⟨.ref g, rfl, g, dx3, _, rfl, e3, g, B, S0 ++ [z], stepG B z n, ext, rfl, hG3, fun c3 hc3 => ⟨1, rfl, c3, _, -1, .int (min (z.1.sum + n - z.2.sum) (allowed B z.2)), rfl, rfl, hc3, by rw [hgo]; exact atI_last _ _, ?_⟩⟩
    exact q1 hy _ H3 sx hG3
/-- __call__ -/
theorem f_call (T : Txt K mg CL) (G : GateC K F C fj) (Fs : GFs K F) (hCL : CL ≠ C) {J : Jd} {ext : List (Str × V)} (B : List Pr) (FJ : FnR P w K mg base (L2.CX P w) 6 fj (sp_judge K CL C J ext B)) (hj : ext.lookup ("judge" : Str) = none) (ha : ext.lookup ("after" : Str) = none) (ht : ext.lookup ("tick" : Str) = none) (hx : ext.length ≤ 10) : FnR P w K mg base (L2.CX P w) 9 F.call (sp_tick K CL C J ext B) := by
  obtain ⟨fdk, FF⟩ := Fs.call
  have FT := f_tick (P := P) (w := w) (base := base) T G Fs hCL B FJ hj ha hx
  refine okE (N := ["self", "amount"]) (ps := ["self", "amount"]) FF ⟨rfl, rfl, rfl, by decide +kernel, rfl, by decide +kernel, by decide +kernel⟩ (fun vs H Q E h => ?_) (fun _ _ _ _ _ _ us hl => match us, hl with | [_, _], _ => rfl) (fun cdv A outer s H vs Q E hr h => ?_)
  · obtain ⟨g, n, S0, z, rfl, _⟩ := h; rfl
  · obtain ⟨g, n, S0, z, rfl, hG, hrest⟩ := h
    obtain ⟨dx, lim, ptt, e, hL, hS⟩ := id hG
    refine ⟨_, pss_one (ps_ret (pe_methR (pv 0) G.cl G.m_tick FT hr (passT (takes_of rfl rfl rfl rfl)) (pa_cons (pv 1) pa_nil))), ?_⟩
    exact ⟨.ref g, rfl, g, dx, _, rfl, e, look_no (by decide) (by decide) ht, .int n, rfl, g, n, S0, z, rfl, hG, hrest⟩
end
end B50

set_option Elab.async false
set_option linter.all false
set_option maxRecDepth 100000
set_option maxHeartbeats 4000000
/-! Gate: made, its row assigned, rest, undo. -/
namespace B50
open PySem PySem.Spec PyProof.Rows L2 BX BM
/-- the state behind a row -/
def runS (B : List Pr) (xs : List Int) : St2 := xs.foldl (stepG B) ([], [])
theorem runS_snoc (B : List Pr) (xs : List Int) (a : Int) : runS B (xs ++ [a]) = stepG B (runS B xs) a := by
  unfold runS; rw [List.foldl_append]; rfl
theorem thr_ext (B : List Pr) (xs : List Int) (a : Int) : ∀ k, k ≤ xs.length → thr B (xs ++ [a]) k = thr B xs k
  | 0, _ => rfl
  | k + 1, h => by
    show thr B (xs ++ [a]) k ++ [amt B (xs ++ [a]) (thr B (xs ++ [a]) k)] = thr B xs k ++ [amt B xs (thr B xs k)]
    rw [thr_ext B xs a k (by omega)]
    unfold amt
    rw [thr_len]
    unfold cum
    rw [List.take_append_of_le_length h]
theorem runS_step {B : List Pr} {l : List Int} (a : Int) (ih : runS B l = (l, thr B l l.length)) : runS B (l ++ [a]) = (l ++ [a], thr B (l ++ [a]) (l ++ [a]).length) := by
  rw [runS_snoc, ih]
  unfold stepG
  rw [List.length_append]
  show _ = (l ++ [a], thr B (l ++ [a]) l.length ++ [amt B (l ++ [a]) (thr B (l ++ [a]) l.length)])
  rw [thr_ext B l a l.length (Nat.le_refl _)]
  unfold amt
  rw [thr_len, cum_full (by simp), BM.sum_append]
  simp
theorem runS_eq (B : List Pr) (xs : List Int) : runS B xs = (xs, thr B xs xs.length) := by
  have h : ∀ ys : List Int, runS B ys.reverse = (ys.reverse, thr B ys.reverse ys.reverse.length) := fun ys => by
    induction ys with
    | nil => rfl
    | cons a l ih => rw [List.reverse_cons]; exact runS_step a ih
  have := h xs.reverse
  rwa [List.reverse_reverse] at this
theorem row_snoc {xs : List Int} {a : Int} (h : RowOk (xs ++ [a])) : RowOk xs ∧ 0 ≤ a ∧ xs.sum + a ≤ 60 := by
  have h2 := h.2
  rw [BM.sum_append] at h2
  have e : ([a] : List Int).sum = a := by simp
  have h0 := h.1 a (by simp)
  rw [e] at h2
  exact ⟨⟨fun b hb => h.1 b (List.mem_append_left _ hb), by omega⟩, h0, h2⟩
theorem jok_of {B : List Pr} (ok : LimOk B) {xs : List Int} (ne : xs ≠ []) (h : RowOk xs) : JOk xs (thr B xs xs.length) := by
  have h1 := R_le ok.g xs xs.length
  have h2 := R_nonneg ok.g h xs.length
  rw [cum_full (Nat.le_refl _)] at h1
  have h3 := h.2
  exact ⟨ne, h, by show 0 ≤ xs.sum - R B xs xs.length; omega, by show xs.sum - R B xs xs.length ≤ 60; omega⟩
theorem jok_step {B : List Pr} (ok : LimOk B) {xs : List Int} {a : Int} (h : RowOk (xs ++ [a])) : JOk (stepG B (runS B xs) a).1 (stepG B (runS B xs) a).2 := by
  rw [← runS_snoc, runS_eq]; exact jok_of ok (by simp) h
theorem row_take {xs : List Int} (hx : RowOk xs) (i : Nat) : RowOk (xs.take i) := ⟨fun a ha => hx.1 a (List.mem_of_mem_take ha), by have h1 := cum_le_sum hx.1 i; have h2 := hx.2; unfold cum at h1; omega⟩
/-- Gate refuses nothing -/
def JG : Jd := ⟨fun _ _ => true, 0, "", fun _ _ => 0⟩
/-- what Gate alone is asked -/
structure GateX (K : PySem.W.Frag) (C fj : Addr) : Prop where
  ini : ∃ f fd, Fun K "__init__" "Gate.__init__" sGInit f fd ∧ Mk K C f
  judge : ∃ fd, Fun K "judge" "Gate.judge" sGJudge fj fd
  changes : ∃ f fd p, Fun K "changes" "Gate.changes" sGChanges f fd ∧ PropOf K C "changes" p f
  set : ∃ f fd p, Fun K "come" "Gate.come" sGSet f fd ∧ PropSet K C "come" p f
  assign : ∃ f fd, Fun K "assign_come" "Gate.assign_come" sGAssign f fd ∧ Meth K C "assign_come" f
  rest : ∃ f fd, Fun K "rest" "Gate.rest" sGRest f fd ∧ Meth K C "rest" f
  undo : ∃ f fd, Fun K "undo" "Gate.undo" sGUndo f fd ∧ Meth K C "undo" f
  run : ∃ f fd, Fun K "run" "Gate.run" sGRun f fd ∧ Meth K C "run" f
  trying : ∃ f fd, Fun K "trying" "Gate.trying" sGTrying f fd ∧ Meth K C "trying" f
  len : ∃ f fd, Fun K "__len__" "Gate.__len__" sGLen f fd ∧ LenOwn K C f
section
variable {P : Program} {w : World} {K : PySem.W.Frag} {mg : Str → Option Value} {base : Heap} {CL C : Addr} {F : GFn} {fj : Addr}
/-- the body of a def that lets nothing out, its promise with its bindings -/
theorem okNk {x qual : Str} {st : Stmt} {f : Addr} {fd : FuncData} {N ps : List Str} {k : Nat} {sp : Sp} (F : Fun K x qual st f fd) (S : FnScope N ps (defScope st)) (len : ∀ vs H Q E, sp vs H Q E → vs.length = ps.length)
    (hbody : ∀ (cdv : Value) (A : Around) (outer : List Env) (s : Shared) (H : Hp) (vs : List V) (Q : VK) (E : XK), Room k (A.deeper (envOfC qual (defScope st) s.heap.objs.size f cdv)) → sp vs H Q E →
      ∃ t, PSs (cxOf (L2.CX P w) P w K mg base N qual (defScope st) f cdv A outer s H E).nox (defBody st) t ∧ t { nx := fun _ H' => Q .non H', rt := Q } (start N vs) H) : FnOk P w K mg base (L2.CX P w) (k + 1) f fd ps sp :=
  F.okX S len fun cdv A outer s H vs Q E hr h => by
    obtain ⟨t, ht, q⟩ := hbody cdv A outer s H vs Q E hr h
    exact ⟨t, ht.nox, q⟩
/-- Gate.__init__, at an instance of any class of gates -/
def sp_ginit (K : PySem.W.Frag) (CL C : Addr) : Sp := fun vs H Q _ => ∃ (x lim dx : Addr) (B : List Pr), vs = [.ref x, .ref lim] ∧ H x = some (.ins C dx []) ∧ LimAt K CL H lim B ∧ ∀ H', SameX x H H' → GateAt K CL C H' x B [([], [])] [] → Q .non H'
theorem put0 (x : V) : putF ("base" : Str) x ([] : List (Str × V)) = [(("base" : Str), x)] := rfl
theorem put1 (x y : V) : putF ("past" : Str) y [(("base" : Str), x)] = [(("base" : Str), x), (("past" : Str), y)] := by
  have n : ¬ (("base" : Str) = ("past" : Str)) := by decide
  simp [putF, n]
theorem f_ginit (T : Txt K mg CL) (G : GateC K F C fj) (hCL : CL ≠ C) {f : Addr} {fd : FuncData} (FF : Fun K "__init__" "Gate.__init__" sGInit f fd) : FnR P w K mg base (L2.CX P w) 2 f (sp_ginit K CL C) := by
  refine okN (N := ["self", "limits"]) (ps := ["self", "limits"]) FF ⟨rfl, rfl, rfl, by decide +kernel, rfl, by decide +kernel, by decide +kernel⟩ (fun vs H Q E h => ?_) (fun _ _ _ _ _ _ us hl => match us, hl with | [_, _], _ => rfl) (fun cdv A outer s H vs Q E hr h => ?_)
  · obtain ⟨x, lim, dx, B, rfl, _⟩ := h; rfl
  · obtain ⟨x, lim, dx, B, rfl, hx, hL, q⟩ := h
    refine ⟨_, pss_cons (ps_expr (pe_D (d_need_limits T) hr (by rfl) (pa_cons (pv 1) pa_nil)))
      (pss_one (ps_asg (pe_tup (pa_cons (pv 1) (pa_cons (pe_tup (pa_cons (pe_tup (pa_cons (pe_tup pa_nil) (pa_cons (pe_tup pa_nil) pa_nil))) pa_nil)) pa_nil))) (pg_tup rfl (pgs_cons (pg_fld (pv 0)) (pgs_cons (pg_fld (pv 0)) pgs_nil))))), ?_⟩
    refine ⟨.ref lim, rfl, lim, B, rfl, hL, ?_⟩
    refine ⟨.ref lim, rfl, (by show 0 ≤ sizeLine; decide), fun p1 h1 => ⟨(by show 0 ≤ sizeLine; decide), fun p2 h2 => ⟨(by show 2 ≤ sizeLine; decide), fun p3 h3 => ⟨(by show 1 ≤ sizeLine; decide), fun p4 h4 => ⟨(by show 2 ≤ sizeLine; decide), fun p5 h5 => ?_⟩⟩⟩⟩⟩
    have e1 := sameW (o := .tup []) h1
    have e2 := sameW (o := .tup []) h2
    have e3 := sameW (o := .tup [.ref p1, .ref p2]) h3
    have e4 := sameW (o := .tup [.ref p3]) h4
    have e5 := sameW (o := .tup [.ref lim, .ref p4]) h5
    have s5 := (((e1.trans e2).trans e3).trans e4).trans e5
    have hx5 := s5 _ _ hx
    refine ⟨p5, _, rfl, .inl (.inl upd_same), rfl, _, _, rfl, .ref x, rfl, x, C, dx, _, rfl, hx5, G.cl, G.nB, by decide, ?_⟩
    rw [put0]
    refine ⟨_, _, rfl, .ref x, rfl, x, C, dx, _, rfl, upd_same, G.cl, G.nP, by show 1 < 1000; decide, ?_⟩
    rw [put1]
    refine ⟨rfl, ?_⟩
    have hs1 : SqT K _ p1 ([] : List V) := sameT (((e2.trans e3).trans e4).trans e5) (.inl (.inl upd_same))
    have hs2 : SqT K _ p2 ([] : List V) := sameT ((e3.trans e4).trans e5) (.inl (.inl upd_same))
    have hs3 : SqT K _ p3 [V.ref p1, V.ref p2] := sameT (e4.trans e5) (.inl (.inl upd_same))
    have hs4 : SqT K _ p4 [V.ref p3] := sameT e5 (.inl (.inl upd_same))
    generalize hHH : upd _ p5 (.tup [.ref lim, .ref p4]) = HH at s5 hx5 hs1 hs2 hs3 hs4 ⊢
    generalize hH6 : upd (upd HH x (.ins C dx [(("base" : Str), .ref lim)])) x (.ins C dx [(("base" : Str), .ref lim), (("past" : Str), .ref p4)]) = H6
    have sx : SameX x HH H6 := fun b o eb nb => by rw [← hH6, upd_ne nb, upd_ne nb]; exact eb
    have nt := nt_ins hx5
    refine q H6 ((Same.x s5).trans sx) ⟨dx, lim, p4, by rw [← hH6, upd_same], sx.limN hx5 hCL (hL.same s5), [p3], sx.tupN nt hs4, rfl, fun i b z e1 e2 => ?_⟩
    cases i with
    | zero =>
      obtain rfl : p3 = b := Option.some.inj e1
      obtain rfl : ([], []) = z := Option.some.inj e2
      exact ⟨p1, p2, sx.tupN nt hs3, sx.tupN nt hs1, sx.tupN nt hs2⟩
    | succ i => cases e1
/-- Gate.judge -/
theorem f_gjudge {fd : FuncData} {f : Addr} (FF : Fun K "judge" "Gate.judge" sGJudge f fd) (ext : List (Str × V)) (B : List Pr) : FnR P w K mg base (L2.CX P w) 1 f (sp_judge K CL C JG ext B) := by
  refine okN (N := ["self", "come", "through"]) (ps := ["self", "come", "through"]) FF ⟨rfl, rfl, rfl, by decide +kernel, rfl, by decide +kernel, by decide +kernel⟩ (fun vs H Q E h => ?_) (fun _ _ _ _ _ _ us hl => match us, hl with | [_, _, _], _ => rfl) (fun cdv A outer s H vs Q E hr h => ?_)
  · obtain ⟨g, c, t, S, cs, ts, rfl, _⟩ := h; rfl
  · obtain ⟨g, c, t, S, cs, ts, rfl, hG, ok, hc, ht, l1, l2, _, q1, q2⟩ := h
    exact ⟨_, pss_one ps_pass, q1 rfl H (Same.refl _)⟩
/-- changes -/
def sp_changes (K : PySem.W.Frag) (CL C : Addr) : Sp := fun vs H Q _ => ∃ (g : Addr) (B : List Pr) (S : List St2) (ext : List (Str × V)), vs = [.ref g] ∧ GateAt K CL C H g B S ext ∧ Q (.int ((S.length : Int) - 1)) H
theorem f_changes (T : Txt K mg CL) (G : GateC K F C fj) {f : Addr} {fd : FuncData} (FF : Fun K "changes" "Gate.changes" sGChanges f fd) : FnOk P w K mg base (L2.CX P w) 1 f fd ["self"] (sp_changes K CL C) := by
  refine FF.okX (N := ["self"]) ⟨rfl, rfl, rfl, by decide +kernel, rfl, by decide +kernel, by decide +kernel⟩ (fun vs H Q E h => ?_) (fun cdv A outer s H vs Q E hr h => ?_)
  · obtain ⟨g, B, S, ext, rfl, _⟩ := h; rfl
  · obtain ⟨g, B, S, ext, rfl, ⟨dx, lim, pt, e, hL, as, h1, h2, h3⟩, q⟩ := h
    refine ⟨_, PSs.nox (pss_one (ps_ret (pe_op op_sub (pe_callB call_len_seq (by rfl) T.z_len PySem.boot_len (pa_cons (pe_fld (pv 0) rfl) pa_nil)) pe_int))), ?_⟩
    refine ⟨.ref g, rfl, g, C, dx, _, .ref pt, rfl, e, G.cl, G.nP, look_past _ _ _, pt, _, rfl, .inr h1, _, _, rfl, rfl, ?_⟩
    rw [List.length_map, h2]; exact q
/-- len(gate) -/
def sp_glen (K : PySem.W.Frag) (CL C : Addr) : Sp := fun vs H Q _ => ∃ (g : Addr) (B : List Pr) (S0 : List St2) (z : St2) (ext : List (Str × V)), vs = [.ref g] ∧ GateAt K CL C H g B (S0 ++ [z]) ext ∧ Q (.int (z.1.length : Int)) H
theorem f_glen (T : Txt K mg CL) (G : GateC K F C fj) (Fs : GFs K F) {f : Addr} {fd : FuncData} (FF : Fun K "__len__" "Gate.__len__" sGLen f fd) : FnR P w K mg base (L2.CX P w) 3 f (sp_glen K CL C) := by
  obtain ⟨fdc, FC⟩ := Fs.come
  obtain ⟨pc, hpc⟩ := G.p_come
  refine okN (N := ["self"]) (ps := ["self"]) FF ⟨rfl, rfl, rfl, by decide +kernel, rfl, by decide +kernel, by decide +kernel⟩ (fun vs H Q E h => ?_) (fun _ _ _ _ _ _ us hl => match us, hl with | [_], _ => rfl) (fun cdv A outer s H vs Q E hr h => ?_)
  · obtain ⟨g, B, S0, z, ext, rfl, _⟩ := h; rfl
  · obtain ⟨g, B, S0, z, ext, rfl, hG, q⟩ := h
    obtain ⟨dx, lim, pt, e, hL, hS⟩ := id hG
    refine ⟨_, pss_one (ps_ret (pe_callB call_len_seq (by rfl) T.z_len PySem.boot_len (pa_cons (pe_come (CL := CL) (k := 0) G FC hpc hr (pv 0)) pa_nil))), ?_⟩
    refine ⟨.ref g, rfl, g, dx, _, rfl, e, g, B, S0, z, ext, rfl, hG, fun c hc => ⟨c, _, rfl, .inr hc, ?_⟩⟩
    rw [List.length_map]; exact q
end
end B50

set_option Elab.async false
set_option linter.all false
set_option maxRecDepth 100000
set_option maxHeartbeats 4000000
/-! Gate: its row assigned, rest, undo. -/
namespace B50
open PySem PySem.Spec PyProof.Rows L2 BX BM
theorem stepG_zero {B : List Pr} {xs : List Int} {j : Nat} : stepG B (xs ++ List.replicate j 0, thr B xs (xs.length + j)) 0 = (xs ++ List.replicate (j + 1) 0, thr B xs (xs.length + (j + 1))) := by
  have hs : ∀ n : Nat, (List.replicate n (0 : Int)).sum = 0 := fun n => by
    induction n with
    | zero => rfl
    | succ n ih => rw [List.replicate_succ, List.sum_cons, ih]; rfl
  unfold stepG
  show (_, thr B xs (xs.length + j) ++ [_]) = (_, thr B xs (xs.length + j) ++ [amt B xs (thr B xs (xs.length + j))])
  unfold amt
  rw [thr_len, cum_full (by omega), List.replicate_succ', ← List.append_assoc]
  show (_, thr B xs (xs.length + j) ++ [min ((xs ++ List.replicate j 0).sum + 0 - (thr B xs (xs.length + j)).sum) _]) = _
  rw [BM.sum_append, hs, Int.add_zero, Int.add_zero]
theorem cutV_0m (xs : List V) : cutV xs none (some (-1)) = xs.dropLast := by
  unfold cutV
  rw [HT.sIx_none]
  have e : HT.sIx xs.length xs.length (some (-1)) = xs.length - 1 := by
    unfold HT.sIx
    simp
    omega
  rw [e, List.drop_zero, Nat.sub_zero, List.dropLast_eq_take]
section
variable {P : Program} {w : World} {K : PySem.W.Frag} {mg : Str → Option Value} {base : Heap} {CL C : Addr} {F : GFn} {fj : Addr}
/-- a gate has one state more -/
theorem gate_more {H H1 : Hp} {g dx lim pt p : Addr} {B : List Pr} {S : List St2} {ext : List (Str × V)} {as : List Addr} {a : Addr} {z : St2} (hCL : CL ≠ C) (e : H g = some (.ins C dx ((("base" : Str), V.ref lim) :: (("past" : Str), V.ref pt) :: ext))) (hL : LimAt K CL H lim B)
    (h1 : as.length = S.length) (h2 : ∀ (i : Nat) (a : Addr) (s : St2), as[i]? = some a → S[i]? = some s → StateAt K H a s) (s1 : Same H H1) (ha : StateAt K H1 a z) (hp : SqT K H1 p ((as ++ [a]).map V.ref)) :
    SameX g H (upd H1 g (.ins C dx ((("base" : Str), V.ref lim) :: (("past" : Str), V.ref p) :: ext))) ∧ GateAt K CL C (upd H1 g (.ins C dx ((("base" : Str), V.ref lim) :: (("past" : Str), V.ref p) :: ext))) g B (S ++ [z]) ext := by
  have e1 := s1 _ _ e
  have nt := nt_ins e1
  have sx : SameX g H1 (upd H1 g (.ins C dx ((("base" : Str), V.ref lim) :: (("past" : Str), V.ref p) :: ext))) := fun b o eb nb => by rw [upd_ne nb]; exact eb
  refine ⟨(Same.x s1).trans sx, dx, lim, p, upd_same, sx.limN e1 hCL (hL.same s1), as ++ [a], sx.tupN nt hp, by rw [List.length_append, List.length_append, h1]; rfl, fun i b s x y => sx.stateN nt ?_⟩
  by_cases hi : i < as.length
  · rw [List.getElem?_append_left hi] at x
    rw [List.getElem?_append_left (by omega)] at y
    exact (h2 i b s x y).same s1
  · have h3 : i = as.length := by
      have := (List.getElem?_eq_some_iff.mp x).1
      simp at this; omega
    subst h3
    have ex : (as ++ [a])[as.length]? = some a := by simp
    have ey : (S ++ [z])[as.length]? = some z := by rw [h1]; simp
    obtain rfl : a = b := Option.some.inj (ex.symm.trans x)
    obtain rfl : z = s := Option.some.inj (ey.symm.trans y)
    exact ha
/-- come = row -/
def sp_set (K : PySem.W.Frag) (CL C : Addr) : Sp := fun vs H Q _ => ∃ (g r : Addr) (B : List Pr) (S : List St2) (xs : List Int), vs = [.ref g, .ref r] ∧ GateAt K CL C H g B S [] ∧ LimOk B ∧ TI K H r xs ∧ RowOk xs ∧ xs.length ≤ 20000 ∧ S.length ≤ 50000 ∧ ∀ H', SameX g H H' → GateAt K CL C H' g B (S ++ [runS B xs]) [] → Q .non H'
theorem f_set (T : Txt K mg CL) (G : GateC K F C fj) (Fs : GFs K F) (GX : GateX K C fj) (hCL : CL ≠ C) {f : Addr} {fd : FuncData} (FF : Fun K "come" "Gate.come" sGSet f fd) : FnR P w K mg base (L2.CX P w) 8 f (sp_set K CL C) := by
  obtain ⟨fda, FA⟩ := Fs.after
  obtain ⟨fdj, FJ⟩ := GX.judge
  have FAR := fun B => f_after (P := P) (w := w) (base := base) T G FA (J := JG) (ext := []) B ((f_gjudge FJ [] B).mono (by decide)) rfl
  have nd : (["self", "row", "state", "amount"] : List Str).Nodup := by decide +kernel
  refine okN (N := ["self", "row", "state", "amount"]) (ps := ["self", "row"]) FF ⟨rfl, rfl, rfl, nd, rfl, by decide +kernel, by decide +kernel⟩ (fun vs H Q E h => ?_) (fun _ _ _ _ _ _ us hl => match us, hl with | [_, _], _ => rfl) (fun cdv A outer s H vs Q E hr h => ?_)
  · obtain ⟨g, r, B, S, xs, rfl, _⟩ := h; rfl
  · obtain ⟨g, r, B, S, xs, rfl, hG, ok, hT, hx, hz, hS0, q⟩ := h
    refine ⟨_, pss_cons (ps_expr (pe_D (d_need_row T) hr (by rfl) (pa_cons (pv 1) pa_nil)))
      (pss_cons (ps_set (i := 2) nd rfl (.inl rfl) (pe_tup (pa_cons (pe_tup pa_nil) (pa_cons (pe_tup pa_nil) pa_nil))))
      (pss_cons (ps_for PassesOwn.never rfl (pi_tup (pv 1)) (pg_name (i := 3) nd rfl (.inl rfl)) (pss_one (ps_set (i := 2) nd rfl (.inl rfl) (pe_methR (pv 0) G.cl G.m_after (FAR B) hr passL (pa_cons (pv 2) (pa_cons (pv 3) pa_nil))))))
      (pss_one (ps_fld (pv 0) (pe_tup (StX.pa_star (pe_fld (pv 0) rfl) (pa_cons (pv 2) pa_nil))) rfl)))), ?_⟩
    refine ⟨.ref r, rfl, r, xs, rfl, hT, hx, by omega, fun H1 s1 => ?_⟩
    refine ⟨(by show 0 ≤ sizeLine; decide), fun p1 h1 => ⟨(by show 0 ≤ sizeLine; decide), fun p2 h2 => ⟨(by show 2 ≤ sizeLine; decide), fun p3 h3 => ?_⟩⟩⟩
    have e1 := sameW (o := .tup []) h1
    have e2 := sameW (o := .tup []) h2
    have e3 := sameW (o := .tup [.ref p1, .ref p2]) h3
    have s4 := ((s1.trans e1).trans e2).trans e3
    have hs1 : SqT K _ p1 ([] : List V) := sameT (e2.trans e3) (.inl (.inl upd_same))
    have hs2 : SqT K _ p2 ([] : List V) := sameT e3 (.inl (.inl upd_same))
    have hs3 : SqT K (upd (upd (upd H1 p1 (.tup [])) p2 (.tup [])) p3 (.tup [.ref p1, .ref p2])) p3 [V.ref p1, V.ref p2] := .inl (.inl upd_same)
    refine ⟨.ref r, rfl, r, rfl, ⟨_, sameT s4 hT⟩, ?_⟩
    refine for_it (walk_tup (xs := xs.map V.int)) (fun i σ H2 => Same (upd (upd (upd H1 p1 (.tup [])) p2 (.tup [])) p3 (.tup [.ref p1, .ref p2])) H2 ∧ ∃ a y3, σ = [some (.ref g), some (.ref r), some (.ref a), y3] ∧ StateAt K H2 a (runS B (xs.take i))) ⟨Same.refl _, p3, _, rfl, p1, p2, hs3, hs1, hs2⟩ (fun i σ H2 _ pv => sameT (s4.trans pv.1) hT) (fun i v σ H2o H2 hi pvi y => ?_) (fun σ H2 pvn => ?_)
    · obtain ⟨s5, a, y3, rfl, ha⟩ := pvi
      obtain ⟨rfl, hy⟩ := y
      have hix : i < xs.length := by rw [List.length_map] at hi; exact hi
      rw [List.getElem?_map, List.getElem?_eq_getElem hix] at hy
      obtain rfl : V.int xs[i] = v := Option.some.inj hy
      have hG2 := hG.same (s4.trans s5)
      obtain ⟨dx, lim, pt, e, hL, hS⟩ := id hG2
      have hrn := runS_eq B (xs.take i)
      have hrow : RowOk (xs.take i ++ [xs[i]]) := by
        have := row_take hx (i + 1)
        rw [List.take_add_one, List.getElem?_eq_getElem hix] at this
        exact this
      have l1 : (runS B (xs.take i)).1.length ≤ 49999 := by rw [hrn]; show (xs.take i).length ≤ _; rw [List.length_take]; omega
      have l2 : (runS B (xs.take i)).2.length ≤ 50000 := by rw [hrn]; show (thr _ _ _).length ≤ _; rw [thr_len, List.length_take]; omega
      refine ⟨.ref g, rfl, g, dx, _, rfl, e, look_no (by decide) (by decide) rfl, .ref a, rfl, .int xs[i], rfl, g, a, xs[i], S, _, rfl, hG2, ok, ha, l1, l2, jok_step ok hrow, fun _ a' H4 s6 ha' => ⟨s5.trans s6, a', _, rfl, ?_⟩, fun hn => by cases hn⟩
      rw [List.take_add_one, List.getElem?_eq_getElem hix]
      show StateAt K H4 a' (runS B (xs.take i ++ [xs[i]]))
      rw [runS_snoc]; exact ha'
    · obtain ⟨s5, a, y3, rfl, ha⟩ := pvn
      rw [List.length_map, List.take_length] at ha
      have hG2 := hG.same (s4.trans s5)
      obtain ⟨dx, lim, pt, e, hL, as, as1, as2, as3⟩ := id hG2
      have hl : (as.map V.ref ++ [V.ref a]).length ≤ sizeLine := by rw [List.length_append, List.length_map, as2, sizeLine_eq]; show S.length + 1 ≤ _; omega
      refine ⟨.ref g, rfl, g, C, dx, _, .ref pt, rfl, e, G.cl, G.nP, look_past _ _ _, pt, _, rfl, .inl as1, .ref a, rfl, hl, fun p hp => ?_⟩
      have s6 := sameW (o := .tup (as.map V.ref ++ [V.ref a])) hp
      refine ⟨.ref g, rfl, g, C, dx, _, rfl, s6 _ _ e, G.cl, G.nP, by show 2 < 1000; decide, ?_⟩
      rw [put_past]
      obtain ⟨sx, hG3⟩ := gate_more hCL e hL as2 as3 s6 (ha.same s6) (.inl (.inl (by rw [upd_same, List.map_append]; rfl)) : SqT K _ p ((as ++ [a]).map V.ref))
      exact q _ ((Same.x (s4.trans s5)).trans sx) hG3
/-- assign_come -/
theorem f_assign (T : Txt K mg CL) (G : GateC K F C fj) (Fs : GFs K F) (GX : GateX K C fj) (hCL : CL ≠ C) {f : Addr} {fd : FuncData} (FF : Fun K "assign_come" "Gate.assign_come" sGAssign f fd) : FnR P w K mg base (L2.CX P w) 11 f (sp_set K CL C) := by
  obtain ⟨fs, fds, ps, FS, hps⟩ := GX.set
  have FSR := f_set (P := P) (w := w) (base := base) T G Fs GX hCL FS
  refine okN (N := ["self", "row"]) (ps := ["self", "row"]) FF ⟨rfl, rfl, rfl, by decide +kernel, rfl, by decide +kernel, by decide +kernel⟩ (fun vs H Q E h => ?_) (fun _ _ _ _ _ _ us hl => match us, hl with | [_, _], _ => rfl) (fun cdv A outer s H vs Q E hr h => ?_)
  · obtain ⟨g, r, B, S, xs, rfl, _⟩ := h; rfl
  · obtain ⟨g, r, B, S, xs, rfl, hG, ok, hT, hx, hz, hS0, q⟩ := h
    obtain ⟨dx, lim, pt, e, hL, hS⟩ := id hG
    refine ⟨_, pss_one (ps_propset G.cl hps FSR hr passL (pv 0) (pv 1) rfl), ?_⟩
    exact ⟨.ref r, rfl, .ref g, rfl, g, dx, _, rfl, e, g, r, B, S, xs, rfl, hG, ok, hT, hx, hz, hS0, q⟩
/-- undo -/
def sp_undo (K : PySem.W.Frag) (CL C : Addr) : Sp := fun vs H Q _ => ∃ (g : Addr) (B : List Pr) (S0 : List St2) (z z' : St2), vs = [.ref g] ∧ GateAt K CL C H g B (S0 ++ [z] ++ [z']) [] ∧ ∀ H', SameX g H H' → GateAt K CL C H' g B (S0 ++ [z]) [] → Q .non H'
theorem f_undo (T : Txt K mg CL) (G : GateC K F C fj) (hCL : CL ≠ C) {f : Addr} {fd : FuncData} (FF : Fun K "undo" "Gate.undo" sGUndo f fd) : FnOk P w K mg base (L2.CX P w) 1 f fd ["self"] (sp_undo K CL C) := by
  refine okNk (N := ["self"]) (ps := ["self"]) FF ⟨rfl, rfl, rfl, by decide +kernel, rfl, by decide +kernel, by decide +kernel⟩ (fun vs H Q E h => ?_) (fun cdv A outer s H vs Q E hr h => ?_)
  · obtain ⟨g, B, S0, z, z', rfl, _⟩ := h; rfl
  · obtain ⟨g, B, S0, z, z', rfl, ⟨dx, lim, pt, e, hL, hS⟩, q⟩ := h
    obtain ⟨as0, a, h1, h2, h3, h4⟩ := states_last hS
    have hal : (as0.map V.ref ++ [V.ref a]).length = S0.length + 2 := by rw [List.length_append, List.length_map, h2, List.length_append]; rfl
    refine ⟨_, pss_cons (ps_if (pt_cmpR op_eq (pe_callB call_len_seq (by rfl) T.z_len PySem.boot_len (pa_cons (pe_fld (pv 0) rfl) pa_nil)) pe_int (nomark _)) (pss_one ps_never) pss_nil)
      (pss_one (ps_fld (pv 0) (pe_slice sl_tupA (pe_fld (pv 0) rfl) po_none (po_some (pe_un un_neg pe_int))) rfl)), ?_⟩
    refine ⟨.ref g, rfl, g, C, dx, _, .ref pt, rfl, e, G.cl, G.nP, look_past _ _ _, pt, _, rfl, .inr h1, rfl, _, rfl, ?_⟩
    rw [hal, decide_eq_false (fun q => by have := V.int.inj q; omega)]
    refine iteF ?_
    refine ⟨.ref g, rfl, g, C, dx, _, .ref pt, rfl, e, G.cl, G.nP, look_past _ _ _, 1, rfl, -1, rfl, ?_⟩
    refine slA_to h1 fun p H1 s1 hp => ?_
    rw [cutV_0m, List.dropLast_concat] at hp
    refine ⟨.ref g, rfl, g, C, dx, _, rfl, s1 _ _ e, G.cl, G.nP, by show 2 < 1000; decide, ?_⟩
    rw [put_past]
    have e1 := s1 _ _ e
    have nt := nt_ins e1
    have sx : SameX g H1 (upd H1 g (.ins C dx ((("base" : Str), V.ref lim) :: (("past" : Str), V.ref p) :: []))) := fun b o eb nb => by rw [upd_ne nb]; exact eb
    exact q _ ((Same.x s1).trans sx) ⟨dx, lim, p, upd_same, sx.limN e1 hCL (hL.same s1), as0, sx.tupN nt hp, h2, fun i b s x y => sx.stateN nt ((h4 i b s x y).same s1)⟩
/-- rest -/
def sp_rest (K : PySem.W.Frag) (CL C : Addr) : Sp := fun vs H Q _ => ∃ (g : Addr) (B : List Pr) (S0 : List St2) (xs : List Int), vs = [.ref g] ∧ GateAt K CL C H g B (S0 ++ [runS B xs]) [] ∧ LimOk B ∧ RowOk xs ∧ xs.length ≤ 20000 ∧ S0.length ≤ 20000 ∧
  ∀ H' S', SameX g H H' → GateAt K CL C H' g B (S' ++ [(xs ++ List.replicate (stop B xs - xs.length) 0, passedL B xs)]) [] → Q (.int ((stop B xs : Int) - xs.length)) H'
theorem f_rest (T : Txt K mg CL) (G : GateC K F C fj) (Fs : GFs K F) (GX : GateX K C fj) (hCL : CL ≠ C) {f : Addr} {fd : FuncData} (FF : Fun K "rest" "Gate.rest" sGRest f fd) : FnOk P w K mg base (L2.CX P w) 9 f fd ["self"] (sp_rest K CL C) := by
  obtain ⟨fdw, FW⟩ := Fs.waiting
  obtain ⟨pw, hpw⟩ := G.p_waiting
  obtain ⟨fdj, FJ⟩ := GX.judge
  have FT := fun B => f_tick (P := P) (w := w) (base := base) T G Fs hCL (J := JG) (ext := []) B ((f_gjudge FJ [] B).mono (by decide)) rfl rfl (by decide)
  have nd : (["self", "found"] : List Str).Nodup := by decide +kernel
  refine okNk (N := ["self", "found"]) (ps := ["self"]) FF ⟨rfl, rfl, rfl, nd, rfl, by decide +kernel, by decide +kernel⟩ (fun vs H Q E h => ?_) (fun cdv A outer s H vs Q E hr h => ?_)
  · obtain ⟨g, B, S0, xs, rfl, _⟩ := h; rfl
  · obtain ⟨g, B, S0, xs, rfl, hG, ok, hx, hz, hS0, q⟩ := h
    obtain ⟨hs1, hs2, hs3, hs4⟩ := stop_spec ok.g hx
    have hs : ∀ n : Nat, (List.replicate n (0 : Int)).sum = 0 := fun n => by
      induction n with
      | zero => rfl
      | succ n ih => rw [List.replicate_succ, List.sum_cons, ih]; rfl
    refine ⟨_, pss_cons (ps_set (i := 1) nd rfl (.inl rfl) pe_int)
      (pss_cons (ps_while PassesOwn.never (pt_cmpR op_gt (pe_gwaiting (CL := CL) (k := 4) T G Fs FW hpw hr (pv 0)) pe_int (nomark _))
        (pss_cons (ps_expr (pe_methR (pv 0) G.cl G.m_tick (FT B) hr passL (pa_cons pe_int pa_nil)))
        (pss_one (ps_set (i := 1) nd rfl (.inl rfl) (pe_op op_add (pv 1) pe_int)))))
      (pss_one (ps_ret (pv 1)))), ?_⟩
    refine ⟨fun m σ H2 => ∃ j S', m + j = stop B xs - xs.length ∧ σ = [some (.ref g), some (.int j)] ∧ SameX g H H2 ∧ GateAt K CL C H2 g B (S' ++ [(xs ++ List.replicate j 0, thr B xs (xs.length + j))]) [] ∧ S'.length ≤ 20000 + j, ⟨_, 0, S0, rfl, rfl, SameX.refl _ _, ?_, by omega⟩, ?_⟩
    · rw [runS_eq] at hG
      rw [List.replicate_zero, List.append_nil]; exact hG
    · rintro m σ H2 ⟨j, S', hm, rfl, s2, hG2, hS'⟩
      obtain ⟨dx, lim, pt, e, _⟩ := id hG2
      refine ⟨.ref g, rfl, g, dx, _, rfl, e, g, B, S', _, [], rfl, hG2, _, _, rfl, rfl, _, rfl, ?_⟩
      show if decide (0 < (xs ++ List.replicate j 0).sum - (thr B xs (xs.length + j)).sum) = true then _ else _
      rw [BM.sum_append, hs, Int.add_zero]
      have hR : (thr B xs (xs.length + j)).sum = R B xs (xs.length + j) := rfl
      have hle := R_le ok.g xs (xs.length + j)
      rw [cum_full (by omega)] at hle
      rw [hR]
      by_cases hj : xs.length + j < stop B xs
      · have hne : R B xs (xs.length + j) ≠ xs.sum := fun e => by
          have := hs4 _ hj
          rw [isEnd_iff.mpr ⟨by omega, e⟩] at this
          cases this
        rw [decide_eq_true (by omega)]
        refine iteT ⟨fun σ' H' => ∃ S'', σ' = [some (.ref g), some (.int ((j + 1 : Nat) : Int))] ∧ SameX g H H' ∧ GateAt K CL C H' g B (S'' ++ [(xs ++ List.replicate (j + 1) 0, thr B xs (xs.length + (j + 1)))]) [] ∧ S''.length ≤ 20000 + (j + 1), fun σ' H' ⟨S'', h1, h2, h3, h4⟩ => ⟨m - 1, by omega, j + 1, S'', by omega, h1, h2, h3, h4⟩, ?_⟩
        refine ⟨.ref g, rfl, g, dx, _, rfl, e, look_no (by decide) (by decide) rfl, g, 0, S', _, rfl, hG2, ok, by decide, by decide, ?_, ?_, ?_, by omega, ?_, fun _ v H3 s3 hG3 => ?_, fun hn => by cases hn⟩
        · show (xs ++ List.replicate j 0).sum + 0 ≤ 60
          rw [BM.sum_append, hs]; have := hx.2; omega
        · show (xs ++ List.replicate j 0).length ≤ 49999
          rw [List.length_append, List.length_replicate]; omega
        · show (thr B xs (xs.length + j)).length ≤ 50000
          rw [thr_len]; omega
        · rw [stepG_zero]
          have b1 := R_le ok.g xs (xs.length + (j + 1))
          have b2 := R_nonneg ok.g hx (xs.length + (j + 1))
          rw [cum_full (by omega)] at b1
          have b3 := hx.2
          have b4 : (xs ++ List.replicate (j + 1) 0).sum = xs.sum := by rw [BM.sum_append, hs, Int.add_zero]
          refine ⟨by simp, ⟨fun a ha => ?_, by rw [b4]; exact b3⟩, ?_, ?_⟩
          · rcases List.mem_append.mp ha with h | h
            · exact hx.1 a h
            · rw [(List.mem_replicate.mp h).2]; exact Int.le_refl _
          · show 0 ≤ (xs ++ List.replicate (j + 1) 0).sum - R B xs (xs.length + (j + 1))
            rw [b4]; omega
          · show (xs ++ List.replicate (j + 1) 0).sum - R B xs (xs.length + (j + 1)) ≤ 60
            rw [b4]; omega
        · refine ⟨.int j, rfl, _, _, rfl, rfl, S' ++ [(xs ++ List.replicate j 0, thr B xs (xs.length + j))], ?_, s2.trans s3, ?_, by rw [List.length_append]; show S'.length + 1 ≤ _; omega⟩
          · show [some (V.ref g), some (V.int ((j : Int) + 1))] = _
            congr 3
          · rw [stepG_zero] at hG3; exact hG3
      · have hje : xs.length + j = stop B xs := by omega
        rw [hje, hs2, decide_eq_false (by omega)]
        refine iteF ?_
        have ej : j = stop B xs - xs.length := by omega
        refine ⟨.int j, rfl, ?_⟩
        rw [hje] at hG2
        have := q H2 S' s2 (by rw [← ej]; exact hG2)
        rw [show ((stop B xs : Int) - xs.length) = (j : Int) by omega] at this
        exact this
end
end B50

set_option Elab.async false
set_option linter.all false
set_option maxRecDepth 100000
set_option maxHeartbeats 4000000
/-! Trying, and a gate's run. -/
namespace B50
open PySem PySem.Spec PyProof.Rows L2 BX BM
theorem SameX.newN {p : Addr} {H H' : Hp} (s : SameX p H H') {d : Addr} {o : HO} (hd : H d = none) : SameX p H (upd H' d o) := fun b u e n => by
  rw [upd_ne (ne_of_none e hd)]; exact s b u e n
/-- the class Trying -/
structure TryC (K : PySem.W.Frag) (mg : Str → Option Value) (CT : Addr) : Prop where
  mgT : mg "Trying" = some (.ref CT)
  cl : Cls K CT
  nG : NoAttr K CT "gate"
  nK : NoAttr K CT "kept"
  ini : ∃ f fd, Fun K "__init__" "Trying.__init__" sTryInit f fd ∧ Mk K CT f
  wi : ∃ fe fx fde fdx, Fun K "__enter__" "Trying.__enter__" sTryEnter fe fde ∧ Fun K "__exit__" "Trying.__exit__" sTryExit fx fdx ∧ WithOwn K CT fe fx
section
variable {P : Program} {w : World} {K : PySem.W.Frag} {mg : Str → Option Value} {base : Heap} {CL C CT : Addr} {F : GFn} {fj : Addr}
theorem tput0 (x : V) : putF ("gate" : Str) x ([] : List (Str × V)) = [(("gate" : Str), x)] := rfl
theorem tput1 (x y : V) : putF ("kept" : Str) y [(("gate" : Str), x)] = [(("gate" : Str), x), (("kept" : Str), y)] := by
  have n : ¬ (("gate" : Str) = ("kept" : Str)) := by decide
  simp [putF, n]
theorem tput2 (x y z : V) : putF ("kept" : Str) z [(("gate" : Str), x), (("kept" : Str), y)] = [(("gate" : Str), x), (("kept" : Str), z)] := by
  have n : ¬ (("gate" : Str) = ("kept" : Str)) := by decide
  simp [putF, n]
theorem tlook (x y : V) : ([(("gate" : Str), x), (("kept" : Str), y)] : List (Str × V)).lookup ("gate" : Str) = some x := by simp [List.lookup]
/-- a Trying of a gate -/
def TryAt (CT : Addr) (H : Hp) (x g : Addr) : Prop := ∃ dx v, H x = some (.ins CT dx [("gate", .ref g), ("kept", v)])
def sp_tinit (K : PySem.W.Frag) (CL C CT : Addr) : Sp := fun vs H Q _ => ∃ (x g dx : Addr) (B : List Pr) (S : List St2) (ext : List (Str × V)), vs = [.ref x, .ref g] ∧ H x = some (.ins CT dx []) ∧ GateAt K CL C H g B S ext ∧ x ≠ g ∧ ∀ H', SameX x H H' → TryAt CT H' x g → Q .non H'
theorem f_tinit (G : GateC K F C fj) (TC : TryC K mg CT) {f : Addr} {fd : FuncData} (FF : Fun K "__init__" "Trying.__init__" sTryInit f fd) : FnR P w K mg base (L2.CX P w) 1 f (sp_tinit K CL C CT) := by
  refine okN (N := ["self", "gate"]) (ps := ["self", "gate"]) FF ⟨rfl, rfl, rfl, by decide +kernel, rfl, by decide +kernel, by decide +kernel⟩ (fun vs H Q E h => ?_) (fun _ _ _ _ _ _ us hl => match us, hl with | [_, _], _ => rfl) (fun cdv A outer s H vs Q E hr h => ?_)
  · obtain ⟨x, g, dx, B, S, ext, rfl, _⟩ := h; rfl
  · obtain ⟨x, g, dx, B, S, ext, rfl, hx, ⟨dg, lim, pt, e, _⟩, hne, q⟩ := h
    refine ⟨_, pss_one (ps_asg (pe_tup (pa_cons (pv 1) (pa_cons (pe_fld (pv 1) rfl) pa_nil))) (pg_tup rfl (pgs_cons (pg_fld (pv 0)) (pgs_cons (pg_fld (pv 0)) pgs_nil)))), ?_⟩
    refine ⟨.ref g, rfl, .ref g, rfl, g, C, dg, _, .ref pt, rfl, e, G.cl, G.nP, look_past _ _ _, (by show 2 ≤ sizeLine; decide), fun p hp => ?_⟩
    have s1 := sameW (o := .tup [.ref g, .ref pt]) hp
    refine ⟨p, _, rfl, .inl (.inl upd_same), rfl, _, _, rfl, .ref x, rfl, x, CT, dx, _, rfl, s1 _ _ hx, TC.cl, TC.nG, by decide, ?_⟩
    rw [tput0]
    refine ⟨_, _, rfl, .ref x, rfl, x, CT, dx, _, rfl, upd_same, TC.cl, TC.nK, by show 1 < 1000; decide, ?_⟩
    rw [tput1]
    exact ⟨rfl, q _ (fun b o eb nb => by rw [upd_ne nb, upd_ne nb]; exact s1 b o eb) ⟨dx, _, upd_same⟩⟩
def sp_tenter (K : PySem.W.Frag) (CL C CT : Addr) : Sp := fun vs H Q _ => ∃ (x g : Addr) (B : List Pr) (S : List St2) (ext : List (Str × V)), vs = [.ref x] ∧ TryAt CT H x g ∧ GateAt K CL C H g B S ext ∧ ∀ H', SameX x H H' → Q (.ref g) H'
theorem f_tenter (G : GateC K F C fj) (TC : TryC K mg CT) {f : Addr} {fd : FuncData} (FF : Fun K "__enter__" "Trying.__enter__" sTryEnter f fd) : FnR P w K mg base (L2.CX P w) 1 f (sp_tenter K CL C CT) := by
  refine okN (N := ["self"]) (ps := ["self"]) FF ⟨rfl, rfl, rfl, by decide +kernel, rfl, by decide +kernel, by decide +kernel⟩ (fun vs H Q E h => ?_) (fun _ _ _ _ _ _ us hl => match us, hl with | [_], _ => rfl) (fun cdv A outer s H vs Q E hr h => ?_)
  · obtain ⟨x, g, B, S, ext, rfl, _⟩ := h; rfl
  · obtain ⟨x, g, B, S, ext, rfl, ⟨dx, v, hx⟩, ⟨dg, lim, pt, e, _⟩, q⟩ := h
    refine ⟨_, pss_cons (ps_fld (pv 0) (pe_fld (pe_fld (pv 0) rfl) rfl) rfl) (pss_one (ps_ret (pe_fld (pv 0) rfl))), ?_⟩
    refine ⟨.ref x, rfl, x, CT, dx, _, .ref g, rfl, hx, TC.cl, TC.nG, tlook _ _, g, C, dg, _, .ref pt, rfl, e, G.cl, G.nP, look_past _ _ _, .ref x, rfl, x, CT, dx, _, rfl, hx, TC.cl, TC.nK, by show 2 < 1000; decide, ?_⟩
    rw [tput2]
    exact ⟨.ref x, rfl, x, CT, dx, _, .ref g, rfl, upd_same, TC.cl, TC.nG, tlook _ _, q _ fun b o eb nb => by rw [upd_ne nb]; exact eb⟩
def sp_texit : Sp := fun vs H Q _ => ∃ x : Addr, vs = [.ref x, .non, .non, .non] ∧ Q .non H
theorem f_texit {f : Addr} {fd : FuncData} (FF : Fun K "__exit__" "Trying.__exit__" sTryExit f fd) : FnR P w K mg base (L2.CX P w) 1 f sp_texit := by
  refine okN (N := ["self", "kind", "value", "trace"]) (ps := ["self", "kind", "value", "trace"]) FF ⟨rfl, rfl, rfl, by decide +kernel, rfl, by decide +kernel, by decide +kernel⟩ (fun vs H Q E h => ?_) (fun _ _ _ _ _ _ us hl => match us, hl with | [_, _, _, _], _ => rfl) (fun cdv A outer s H vs Q E hr h => ?_)
  · obtain ⟨x, rfl, _⟩ := h; rfl
  · obtain ⟨x, rfl, q⟩ := h
    refine ⟨_, pss_one (ps_if (pt_cmpR op_notN (pv 1) pe_non (nomark _)) (pss_one ps_never) pss_nil), ?_⟩
    refine ⟨_, rfl, rfl, _, rfl, ?_⟩
    rw [decide_eq_true rfl]
    exact iteF q
/-- trying -/
def sp_trying (K : PySem.W.Frag) (CL C CT : Addr) : Sp := fun vs H Q _ => ∃ (g : Addr) (B : List Pr) (S : List St2) (ext : List (Str × V)), vs = [.ref g] ∧ GateAt K CL C H g B S ext ∧ ∀ x H', Same H H' → H x = none → TryAt CT H' x g → Q (.ref x) H'
theorem f_trying (G : GateC K F C fj) (TC : TryC K mg CT) {f : Addr} {fd : FuncData} (FF : Fun K "trying" "Gate.trying" sGTrying f fd) : FnOk P w K mg base (L2.CX P w) 3 f fd ["self"] (sp_trying K CL C CT) := by
  obtain ⟨fi, fdi, FI, M⟩ := TC.ini
  refine okNk (N := ["self"]) (ps := ["self"]) FF ⟨rfl, rfl, rfl, by decide +kernel, rfl, by decide +kernel, by decide +kernel⟩ (fun vs H Q E h => ?_) (fun cdv A outer s H vs Q E hr h => ?_)
  · obtain ⟨g, B, S, ext, rfl, _⟩ := h; rfl
  · obtain ⟨g, B, S, ext, rfl, hG, q⟩ := h
    refine ⟨_, pss_one (ps_ret (StX.pe_makeR M (f_tinit (CL := CL) G TC FI) hr (by rfl) TC.mgT passL (pa_cons (pv 0) pa_nil))), ?_⟩
    refine ⟨.ref g, rfl, fun x dx nx ndx nex => ?_⟩
    have s1 : Same H (upd (upd H dx (.own x)) x (.ins CT dx [])) := sameU (sameW ndx) nx
    obtain ⟨dg, lim, pt, e, _⟩ := id hG
    refine ⟨x, g, dx, B, S, ext, rfl, upd_same, hG.same s1, (ne_of_none e nx).symm, fun H2 s2 hT => ⟨rfl, q x H2 (fun b o eb => s2 b o (s1 b o eb) (ne_of_none eb nx)) nx hT⟩⟩
/-- run -/
def sp_run0 (K : PySem.W.Frag) (CL C : Addr) : Sp := fun vs H Q _ => ∃ (g t : Addr) (B : List Pr) (S0 : List St2) (xs ns : List Int), vs = [.ref g, .ref t] ∧ GateAt K CL C H g B (S0 ++ [runS B xs]) [] ∧ LimOk B ∧ TI K H t ns ∧ RowOk (xs ++ ns) ∧ xs.length + ns.length ≤ 20000 ∧ S0.length ≤ 20000 ∧
  ∀ H' S' r, SameX g H H' → GateAt K CL C H' g B (S' ++ [runS B (xs ++ ns)]) [] → S'.length ≤ S0.length + ns.length → Q (.ref r) H'
def sp_run (K : PySem.W.Frag) (CL C : Addr) : Sp := fun vs H Q _ => ∃ (g : Addr) (B : List Pr) (S0 : List St2) (xs ns : List Int), vs = .ref g :: ns.map V.int ∧ GateAt K CL C H g B (S0 ++ [runS B xs]) [] ∧ LimOk B ∧ RowOk (xs ++ ns) ∧ xs.length + ns.length ≤ 20000 ∧ S0.length ≤ 20000 ∧
  ∀ H' S' r, SameX g H H' → GateAt K CL C H' g B (S' ++ [runS B (xs ++ ns)]) [] → S'.length ≤ S0.length + ns.length → Q (.ref r) H'
theorem f_run (T : Txt K mg CL) (G : GateC K F C fj) (Fs : GFs K F) (GX : GateX K C fj) (TC : TryC K mg CT) (hCL : CL ≠ C) (hCT : CL ≠ CT) {f : Addr} {fd : FuncData} (FF : Fun K "run" "Gate.run" sGRun f fd) : FnR P w K mg base (L2.CX P w) 9 f (sp_run K CL C) := by
  obtain ⟨ft, fdt, FT0, MT⟩ := GX.trying
  obtain ⟨fe, fx, fde, fdx, FE, FX, WO⟩ := TC.wi
  obtain ⟨fdj, FJ⟩ := GX.judge
  have FT := fun B => f_tick (P := P) (w := w) (base := base) T G Fs hCL (J := JG) (ext := []) B ((f_gjudge FJ [] B).mono (by decide)) rfl rfl (by decide)
  have FTR := f_trying (P := P) (w := w) (mg := mg) (base := base) (CL := CL) G TC FT0
  have FER := f_tenter (P := P) (w := w) (mg := mg) (base := base) (CL := CL) G TC FE
  have FXR := f_texit (P := P) (w := w) (mg := mg) (base := base) FX
  obtain ⟨oc, od, kV, doc, pm, an, cdv, ct, osl, rfl, lk, hcd⟩ := FF.ex
  have nd : (["self", "amounts", "found", "amount"] : List Str).Nodup := by decide +kernel
  have S : FnScope ["self", "amounts", "found", "amount"] ((["self"] : List Str) ++ (["amounts"] : List Str)) (defScope sGRun) := ⟨rfl, rfl, rfl, nd, rfl, by decide +kernel, by decide +kernel⟩
  have z := StX.fn_star (P := P) (w := w) (mg := mg) (base := base) (CX := L2.CX P w) (k := 8) (sp := sp_run0 K CL C) (pv := "amounts") (ps := ["self"]) lk hcd S StX.cxUp (StX.bind_star1 (B := fun us => bindArgs (PySem.W.fnOf "run" "Gate.run" (defArgs sGRun) (defBody sGRun) (defScope sGRun) .none kV doc pm an cdv ct) ⟨us, []⟩) (p1 := "self") (pv := "amounts") (fun a => rfl) (fun a r rs => rfl)) (fun A outer s H vs Q E hr h => by
    obtain ⟨g, t, B, S0, xs, ns, rfl, hG, ok, ht, hx, hz, hS0, q⟩ := h
    obtain ⟨dg, lim, pt, e, _⟩ := id hG
    refine ⟨_, PSs.nox (pss_cons (ps_with WO (FER.mono (by decide)) (FXR.mono (by decide)) hr passL (pe_meth0 (pv 0) G.cl MT FTR (hr.mono (by decide)) (FT0.binds (ps := ["self"]) fun _ _ _ _ _ _ us hl => match us, hl with | [_], _ => rfl) .nil passL)
        (pss_one (ps_setLc (i := 2) (own := [("amount", 3)]) (g := gName 3) rfl nd rfl rfl (by rfl) (pi_tup (pv 1)) (blkOk_by (own := [("amount", 3)]) (N := ["self", "amounts", "found", "amount"]) (sc := defScope sGRun) (by decide +kernel))
          (fun _ _ _ _ _ => pg_name (i := 3) nd rfl (Or.inl rfl)) (fun _ _ _ _ _ => pts_nil) (fun _ _ _ _ _ => pe_methR (pv 0) G.cl G.m_tick (FT B) hr passL (pa_cons (pv 3) pa_nil)))))
      (pss_one (ps_ret (pe_callTy call_tuple_of (by rfl) T.z_tuple (by decide +kernel) (pa_cons (pv 2) pa_nil))))), ?_⟩
    refine ⟨.ref g, rfl, g, dg, _, rfl, e, look_no (by decide) (by decide) rfl, g, B, S0 ++ [runS B xs], [], rfl, hG, fun x H1 s1 nx hT => ?_⟩
    obtain ⟨dx, v, hx1⟩ := id hT
    have nxg : x ≠ g := (ne_of_none e nx).symm
    have hG1 := hG.same s1
    refine ⟨x, dx, _, rfl, hx1, x, g, B, S0 ++ [runS B xs], [], rfl, hT, hG1, fun H2 s2 => ?_⟩
    have hG2 : GateAt K CL C H2 g B (S0 ++ [runS B xs]) [] := by
      refine s2.gateN hx1 ?_ nxg.symm hG1
      exact hCT
    have ht2 : TI K H2 t ns := s2.tupN (nt_ins hx1) (sameT s1 ht)
    have s02 : SameX g H H2 := fun b o eb nb => s2 b o (s1 b o eb) (ne_of_none eb nx)
    refine ⟨.ref t, rfl, t, rfl, ⟨_, ht2⟩, fun D hD => ?_⟩
    obtain ⟨dg2, lim2, pt2, e2, _⟩ := id hG2
    have nDg : D ≠ g := (ne_of_none e2 hD).symm
    refine lc_itA (walk_tup (xs := ns.map V.int)) (fun i H3 => SameX g H2 H3 ∧ (∃ S', GateAt K CL C H3 g B (S' ++ [runS B (xs ++ ns.take i)]) [] ∧ S'.length = S0.length + i) ∧ ∃ acc : List V, H3 D = some (.lst acc) ∧ acc.length = i) ⟨(SameX.refl g H2).newN hD, ⟨S0, by rw [List.take_zero, List.append_nil]; exact hG2.same (sameW hD), rfl⟩, [], upd_same, rfl⟩ (fun i H3 _ pv => pv.1.tupN (nt_ins e2) ht2) (fun i y0 H3o H3 hi pvi y => ?_) (fun H3 pvn => ?_)
    · obtain ⟨s3, ⟨S', hG3, hS'⟩, acc, hacc, hal⟩ := pvi
      obtain ⟨rfl, hy⟩ := y
      have hix : i < ns.length := by rw [List.length_map] at hi; exact hi
      rw [List.getElem?_map, List.getElem?_eq_getElem hix] at hy
      obtain rfl : V.int ns[i] = y0 := Option.some.inj hy
      obtain ⟨dg3, lim3, pt3, e3, _⟩ := id hG3
      have hmem : ns[i] ∈ xs ++ ns := List.mem_append_right _ (List.getElem_mem hix)
      have h0 := hx.1 _ hmem
      have h6 := mem_le_sum hx.1 _ hmem
      have h7 := hx.2
      have hrs := runS_eq B (xs ++ ns.take i)
      have htk : (xs ++ ns.take (i + 1)) = (xs ++ ns.take i) ++ [ns[i]] := by rw [List.take_add_one, List.getElem?_eq_getElem hix, List.append_assoc]; rfl
      have hrow : RowOk ((xs ++ ns.take i) ++ [ns[i]]) := by
        have h8 := row_take hx (xs.length + (i + 1))
        rw [List.take_append, List.take_of_length_le (by omega), show xs.length + (i + 1) - xs.length = i + 1 by omega, htk] at h8
        exact h8
      have hsum : (xs ++ ns.take i).sum + ns[i] ≤ 60 := by
        have a1 := cum_le_sum hx.1 (xs.length + (i + 1))
        have a2 : cum (xs ++ ns) (xs.length + (i + 1)) = (xs ++ ns.take (i + 1)).sum := by
          unfold cum
          rw [List.take_append, List.take_of_length_le (by omega), show xs.length + (i + 1) - xs.length = i + 1 by omega]
        rw [a2, htk, BM.sum_append (xs ++ ns.take i)] at a1
        have a3 : ([ns[i]] : List Int).sum = ns[i] := by simp
        omega
      refine ⟨rfl, .ref g, rfl, g, dg3, _, rfl, e3, look_no (by decide) (by decide) rfl, .int ns[i], rfl, g, ns[i], S', _, rfl, hG3, ok, h0, by omega, ?_, ?_, ?_, by omega, jok_step ok hrow, fun _ v H4 s4 hG4 => ?_, fun hn => by cases hn⟩
      · rw [hrs]; exact hsum
      · rw [hrs]; show (xs ++ ns.take i).length ≤ _; rw [List.length_append, List.length_take]; omega
      · rw [hrs]; show (thr _ _ _).length ≤ _; rw [thr_len, List.length_append, List.length_take]; omega
      · have hD4 := s4 _ _ hacc nDg
        refine ⟨acc, hD4, by rw [hal]; exact smallK (by omega), (s3.trans s4).newN hD, ⟨S' ++ [runS B (xs ++ ns.take i)], ?_, by rw [List.length_append, hS']; rfl⟩, _, upd_same, by rw [List.length_append, hal]; rfl⟩
        rw [htk, runS_snoc]
        obtain ⟨dg4, lim4, pt4, e4, hL4, hS4⟩ := hG4
        have sx : SameX D H4 (upd H4 D (.lst (acc ++ [V.int v]))) := fun b o eb nb => by rw [upd_ne nb]; exact eb
        have ntD : NT H4 D := fun o h => by rw [hD4] at h; cases h; exact ⟨fun _ q => (by cases q), fun _ _ q => (by cases q)⟩
        obtain ⟨dl, tl, el, hPl⟩ := hL4
        exact ⟨dg4, lim4, pt4, sx _ _ e4 nDg.symm, ⟨dl, tl, sx _ _ el (fun q => by rw [q, hD4] at el; cases el), sx.pairsN ntD hPl⟩, sx.statesN ntD hS4⟩
    · obtain ⟨s3, ⟨S', hG3, hS'⟩, acc, hacc, hal⟩ := pvn
      rw [List.length_map] at hG3 hS' hal
      rw [List.take_length] at hG3
      refine ⟨x, rfl, .ref D, rfl, D, _, rfl, .inl ⟨.inl (.inl hacc), fun p hp => ?_⟩⟩
      exact q _ S' p ((s02.trans s3).trans (Same.x (sameW hp))) (hG3.same (sameW hp)) (by omega))
  refine z.imp fun vs H Q E h => ?_
  obtain ⟨g, B, S0, xs, ns, rfl, hG, ok, hx, hz, hS0, q⟩ := h
  refine ⟨[.ref g], ns.map V.int, rfl, rfl, by rw [List.length_map, sizeLine_eq]; omega, fun p hp => ?_⟩
  have s0 : Same H (upd H p (.tup (ns.map V.int))) := sameW hp
  exact ⟨g, p, B, S0, xs, ns, rfl, hG.same s0, ok, .inl (.inl upd_same), hx, hz, hS0, fun H' S' r s' hG' hl => q H' S' r ((Same.x s0).trans s') hG' hl⟩
end
end B50

set_option Elab.async false
set_option linter.all false
set_option maxRecDepth 100000
set_option maxHeartbeats 4000000
/-! What a gate refuses with. -/
namespace B50
open PySem PySem.Spec PyProof.Rows L2 BX BM
/-- an own exception with a field -/
structure ExcC (P : Program) (K : PySem.W.Frag) (mg : Str → Option Value) (x : Str) (C : Addr) (st : Stmt) (qual fld : Str) : Prop where
  mgC : mg x = some (.ref C)
  oex : OexC K C
  nF : PySem.W.findIn K (.ref C) fld = some none
  xf : XfC K C
  ini : ∃ f fd cc cda, FunC K "__init__" qual st f fd C cc cda ∧ PySem.W.findIn K (.ref C) "__init__" = some (some (.ref f)) ∧ PySem.W.typeIn K (.ref f) = some (.type "function") ∧ SuperExc P K f fd C cc cda
section
variable {P : Program} {w : World} {K : PySem.W.Frag} {mg : Str → Option Value} {base : Heap} {C : Addr}
/-- its __init__ -/
def sp_xinit (C : Addr) (fld : Str) : Sp := fun vs H Q _ => ∃ (a : Addr) (n : Int), vs = [.ref a, .int n] ∧ n.natAbs.log2 < 1900 ∧ H a = some (exo a C none) ∧ ∀ dx, H dx = none → dx ≠ a → Q .non (upd (upd H dx (exd dx [(fld, .int n)])) a (exo a C (some dx)))
theorem len_two (i : Int) (h : i.natAbs.log2 < 1900) (a b : Str) (ha : a.length ≤ 1000) (hb : b.length ≤ 1000) : (a ++ Str.ofString (toString i) ++ b).length ≤ sizeLine := by
  have := int_text_len_1921 (i := i) (by omega)
  rw [PySem.Str.length_append, PySem.Str.length_append, sizeLine_eq]; omega
theorem f_fullInit (X : ExcC P K mg "Full" C sFullInit "Full.__init__" "amount") (hm : mg "super" = none) {f : Addr} {fd : FuncData} {cc cda : Addr} (FF : FunC K "__init__" "Full.__init__" sFullInit f fd C cc cda) (SE : SuperExc P K f fd C cc cda) : FnOk P w K mg base (L2.CX P w) 1 f fd ["self", "amount"] (sp_xinit C "amount") := by
  refine fn_cloOk (N := ["self", "amount", "__class__"]) FF ⟨rfl, rfl, rfl, by decide +kernel, rfl, by decide +kernel, by decide +kernel, by decide +kernel, by decide +kernel⟩ (fun vs H Q E h => ?_) (fun A outer s H vs Q E hr h => ?_)
  · obtain ⟨a, n, rfl, _⟩ := h; rfl
  · obtain ⟨a, n, rfl, hn, ha, q⟩ := h
    obtain ⟨oc, od, kV, doc, pm, an, ct, osl, rfl, _⟩ := FF.ex
    refine ⟨_, psas_cons (psa_superInit SE rfl rfl (by simp [NdefX.ncx, NdefX.envF, List.lookup]) rfl rfl rfl rfl rfl hm (pa_cons (pe_joined (PJ.cons (pe_fmt (pv 1)) (PJ.cons pe_str PJ.nil))) pa_nil))
      (psas_of (pss_one (ps_ost (pv 0) (pv 1)))), ?_⟩
    refine ⟨a, rfl, ha, .int n, rfl, .inr ⟨n, rfl, by omega, _, rfl, ?_, _, rfl, ?_, (by show 1 ≤ 1000; decide), ha, .int n, rfl, .ref a, rfl, a, C, rfl, X.oex, X.nF, .inl ⟨ha, fun dx h1 h2 => q dx h1 h2⟩⟩⟩
    · have := len_two n hn Str.empty Str.empty (by decide) (by decide)
      rw [PySem.Str.length_append] at this
      exact Nat.le_trans (Nat.le_add_right _ _) this
    · exact len_two n hn Str.empty _ (by decide) (by decide +kernel)
theorem f_lateInit (X : ExcC P K mg "Late" C sLateInit "Late.__init__" "ticks") (hm : mg "super" = none) {f : Addr} {fd : FuncData} {cc cda : Addr} (FF : FunC K "__init__" "Late.__init__" sLateInit f fd C cc cda) (SE : SuperExc P K f fd C cc cda) : FnOk P w K mg base (L2.CX P w) 1 f fd ["self", "ticks"] (sp_xinit C "ticks") := by
  refine fn_cloOk (N := ["self", "ticks", "__class__"]) FF ⟨rfl, rfl, rfl, by decide +kernel, rfl, by decide +kernel, by decide +kernel, by decide +kernel, by decide +kernel⟩ (fun vs H Q E h => ?_) (fun A outer s H vs Q E hr h => ?_)
  · obtain ⟨a, n, rfl, _⟩ := h; rfl
  · obtain ⟨a, n, rfl, hn, ha, q⟩ := h
    obtain ⟨oc, od, kV, doc, pm, an, ct, osl, rfl, _⟩ := FF.ex
    refine ⟨_, psas_cons (psa_superInit SE rfl rfl (by simp [NdefX.ncx, NdefX.envF, List.lookup]) rfl rfl rfl rfl rfl hm (pa_cons (pe_joined (PJ.cons pe_str (PJ.cons (pe_fmt (pv 1)) (PJ.cons pe_str PJ.nil)))) pa_nil))
      (psas_of (pss_one (ps_ost (pv 0) (pv 1)))), ?_⟩
    refine ⟨a, rfl, ha, _, rfl, ?_, .int n, rfl, .inr ⟨n, rfl, by omega, _, rfl, ?_, _, rfl, ?_, (by show 1 ≤ 1000; decide), ha, .int n, rfl, .ref a, rfl, a, C, rfl, X.oex, X.nF, .inl ⟨ha, fun dx h1 h2 => q dx h1 h2⟩⟩⟩
    · rw [sizeLine_eq]; decide +kernel
    · have := len_two n hn (Str.empty ++ Str.ofString "one would wait ") Str.empty (by decide +kernel) (by decide)
      rw [PySem.Str.length_append] at this
      exact Nat.le_trans (Nat.le_add_right _ _) this
    · exact len_two n hn _ _ (by decide +kernel) (by decide +kernel)
/-- what is raised -/
theorem made_exc {H1 : Hp} {a dx : Addr} {fld : Str} {n : Int} (ha : H1 a = none) (hd : (upd H1 a (exo a C none)) dx = none) (hne : dx ≠ a) :
    Same H1 (upd (L2.del (upd (upd (upd H1 a (exo a C none)) dx (exd dx [(fld, .int n)])) a (exo a C (some dx))) a) dx (.xd [(fld, .int n)])) := fun b o e => by
  have n1 := ne_of_none e ha
  have hd1 : H1 dx = none := by rw [upd_ne hne] at hd; exact hd
  have n2 := ne_of_none e hd1
  rw [upd_ne n2, L2.del_ne n1, upd_ne n1, upd_ne n2, upd_ne n1]
  exact e
end
end B50

set_option Elab.async false
set_option linter.all false
set_option maxRecDepth 100000
set_option maxHeartbeats 4000000
/-! Bounded and Prompt. -/
namespace B50
open PySem PySem.Spec PyProof.Rows L2 BX BM
/-- Bounded refuses where more than its room would wait -/
def JB (room : Int) (CF : Addr) : Jd := ⟨fun cs ts => decide (cs.sum - ts.sum ≤ room), CF, "amount", fun cs ts => cs.sum - ts.sum⟩
/-- the last that was told of a row -/
def lastW (B : List Pr) (cs : List Int) : Int := (waitsL B cs).getLastD 0
def JP (B : List Pr) (ticks : Int) (CF : Addr) : Jd := ⟨fun cs ts => !decide (0 < cs.getLastD 0) || decide (lastW B cs ≤ ticks), CF, "ticks", fun cs ts => lastW B cs⟩
structure BndC (P : Program) (K : PySem.W.Frag) (mg : Str → Option Value) (F : GFn) (CB fj : Addr) : Prop where
  mgC : mg "Bounded" = some (.ref CB)
  gc : GateC K F CB fj
  nX : NoAttr K CB "places"
  ini : ∃ f fd cc cda g2 fdg, FunC K "__init__" "Bounded.__init__" sBInit f fd CB cc cda ∧ Mk K CB f ∧ SuperAt P K f fd CB CB g2 cc cda "__init__" ∧ Fun K "__init__" "Gate.__init__" sGInit g2 fdg
  jd : ∃ fd cc cda g2 fdg, FunC K "judge" "Bounded.judge" sBJudge fj fd CB cc cda ∧ SuperAt P K fj fd CB CB g2 cc cda "judge" ∧ Fun K "judge" "Gate.judge" sGJudge g2 fdg
structure PrmC (P : Program) (K : PySem.W.Frag) (mg : Str → Option Value) (F : GFn) (CB fj : Addr) : Prop where
  mgC : mg "Prompt" = some (.ref CB)
  gc : GateC K F CB fj
  nX : NoAttr K CB "ticks"
  ini : ∃ f fd cc cda g2 fdg, FunC K "__init__" "Prompt.__init__" sPInit f fd CB cc cda ∧ Mk K CB f ∧ SuperAt P K f fd CB CB g2 cc cda "__init__" ∧ Fun K "__init__" "Gate.__init__" sGInit g2 fdg
  jd : ∃ fd cc cda g2 fdg, FunC K "judge" "Prompt.judge" sPJudge fj fd CB cc cda ∧ SuperAt P K fj fd CB CB g2 cc cda "judge" ∧ Fun K "judge" "Gate.judge" sGJudge g2 fdg
theorem ticks_mem : ∀ (x : List Int) (i : Nat), ∀ a ∈ ticksFrom i x, (i : Int) ≤ a ∧ a < (i + x.length : Nat)
  | [], _, a, h => by cases h
  | b :: r, i, a, h => by
    rcases List.mem_append.mp (show a ∈ List.replicate b.toNat (i : Int) ++ ticksFrom (i + 1) r from h) with h | h
    · rw [(List.mem_replicate.mp h).2, List.length_cons]; omega
    · have := ticks_mem r (i + 1) a h
      rw [List.length_cons]; omega
theorem waits_mem {B : List Pr} {xs : List Int} (ok : LimOk B) (hx : RowOk xs) : ∀ a ∈ waitsL B xs, -(xs.length : Int) ≤ a ∧ a ≤ xs.length + 1200 := fun a h => by
  unfold waitsL at h
  obtain ⟨i, hi, rfl⟩ := List.mem_iff_getElem.mp h
  rw [List.getElem_zipWith]
  have h1 := ticks_mem xs 0 _ (List.getElem_mem (l := ticksL xs) (by rw [List.length_zipWith] at hi; omega : i < (ticksL xs).length))
  have h2 := ticks_mem (passedL B xs) 0 _ (List.getElem_mem (l := ticksL (passedL B xs)) (by rw [List.length_zipWith] at hi; omega : i < (ticksL (passedL B xs)).length))
  have h3 := passed_len_le ok.g hx
  omega
theorem atI_lastD {l : List Int} (h : l ≠ []) : atI (l.map V.int) (-1) = some (.int (l.getLastD 0)) := by
  rcases List.eq_nil_or_concat l with rfl | ⟨l0, a, rfl⟩
  · exact absurd rfl h
  · rw [List.concat_eq_append, List.map_append]
    have : (l0 ++ [a]).getLastD 0 = a := by simp
    rw [this]; exact atI_last _ _
theorem last_mem {l : List Int} (h : l ≠ []) : l.getLastD 0 ∈ l := by
  rcases List.eq_nil_or_concat l with rfl | ⟨l0, a, rfl⟩
  · exact absurd rfl h
  · rw [List.concat_eq_append]; simp
theorem log_small {i : Int} (h : i.natAbs < 2 ^ 60) : i.natAbs.log2 < 1900 := by
  by_cases h0 : i.natAbs = 0
  · rw [h0]; decide
  · have := (Nat.log2_lt h0).mpr h; omega
section
variable {P : Program} {w : World} {K : PySem.W.Frag} {mg : Str → Option Value} {base : Heap} {CL CB CF : Addr} {F : GFn} {fj : Addr}
theorem put_ext (f : Str) (x y z : V) (h1 : ¬ (("base" : Str) = f)) (h2 : ¬ (("past" : Str) = f)) : putF f z [(("base" : Str), x), (("past" : Str), y)] = [(("base" : Str), x), (("past" : Str), y), (f, z)] := by
  simp [putF, h1, h2]
/-- __init__ of a gate with a number more -/
def sp_binit (K : PySem.W.Frag) (CL CB : Addr) (fld : Str) (most : Int) : Sp := fun vs H Q _ => ∃ (x lim dx : Addr) (B : List Pr) (r : Int), vs = [.ref x, .ref lim, .int r] ∧ H x = some (.ins CB dx []) ∧ LimAt K CL H lim B ∧ 0 ≤ r ∧ r ≤ most ∧ ∀ H', SameX x H H' → GateAt K CL CB H' x B [([], [])] [(fld, .int r)] → Q .non H'
theorem f_binit (T : Txt K mg CL) (G : BndC P K mg F CB fj) (hCL : CL ≠ CB) (hm : mg "super" = none) : ∃ f, Mk K CB f ∧ FnR P w K mg base (L2.CX P w) 3 f (sp_binit K CL CB "places" 60) := by
  obtain ⟨f, fd, cc, cda, g2, fdg, FF, M, SA, FG⟩ := G.ini
  obtain ⟨t3, m3⟩ := T.i_requests
  refine ⟨f, M, ?_⟩
  obtain ⟨oc, od, kV, doc, pm, an, ct, osl, rfl, _⟩ := id FF.ex
  refine fn_clo (N := ["self", "limits", "room", "__class__"]) (ps := ["self", "limits", "room"]) FF ⟨rfl, rfl, rfl, by decide +kernel, rfl, by decide +kernel, by decide +kernel, by decide +kernel, by decide +kernel⟩ (fun vs H Q E h => ?_) (fun _ _ _ _ _ us hl => match us, hl with | [_, _, _], _ => rfl) (fun A outer s H vs Q E hr h => ?_)
  · obtain ⟨x, lim, dx, B, r, rfl, _⟩ := h; rfl
  · obtain ⟨x, lim, dx, B, r, rfl, hx, hL, h0, h1, q⟩ := h
    refine ⟨_, psas_cons (psa_super SA (f_ginit (P := P) (w := w) (base := base) T G.gc hCL FG) hr passL rfl rfl (by simp [NdefX.ncx, NdefX.envF, List.lookup]) rfl rfl rfl rfl rfl hm (pa_cons (pv 1) pa_nil))
      (psas_of (pss_cons (ps_if (pt_not (pt_val (pe_D (d_is_between T) hr (by rfl) (pa_cons (pv 2) (pa_cons pe_int (pa_cons (pe_gint (by rfl) m3) pa_nil)))))) (pss_one ps_never) pss_nil)
      (pss_one (ps_fld (pv 0) (pv 2) rfl)))), ?_⟩
    refine ⟨x, dx, _, rfl, hx, .ref lim, rfl, ⟨dx, _, hx⟩, x, lim, dx, B, rfl, hx, hL, fun H1 s1 hG => ?_⟩
    refine ⟨.int r, rfl, r, 0, 60, rfl, ?_⟩
    rw [btw h0 h1]
    refine ⟨true, rfl, iteF ?_⟩
    obtain ⟨dx1, lim1, pt1, e1, hL1, hS1⟩ := hG
    refine ⟨.int r, rfl, .ref x, rfl, x, CB, dx1, _, rfl, e1, G.gc.cl, G.nX, by show 2 < 1000; decide, ?_⟩
    rw [put_ext _ _ _ _ (by decide) (by decide)]
    have sx : SameX x H1 (upd H1 x (.ins CB dx1 [(("base" : Str), .ref lim1), (("past" : Str), .ref pt1), (("places" : Str), .int r)])) := fun b o eb nb => by rw [upd_ne nb]; exact eb
    exact q _ (s1.trans sx) ⟨dx1, lim1, pt1, upd_same, sx.limN e1 hCL hL1, sx.statesN (nt_ins e1) hS1⟩
theorem f_pinit (T : Txt K mg CL) (G : PrmC P K mg F CB fj) (hCL : CL ≠ CB) (hm : mg "super" = none) (hp : ∃ t, mg "MOST_PATIENCE" = some (.int 100 t)) : ∃ f, Mk K CB f ∧ FnR P w K mg base (L2.CX P w) 3 f (sp_binit K CL CB "ticks" 100) := by
  obtain ⟨f, fd, cc, cda, g2, fdg, FF, M, SA, FG⟩ := G.ini
  obtain ⟨t3, m3⟩ := hp
  refine ⟨f, M, ?_⟩
  obtain ⟨oc, od, kV, doc, pm, an, ct, osl, rfl, _⟩ := id FF.ex
  refine fn_clo (N := ["self", "limits", "patience", "__class__"]) (ps := ["self", "limits", "patience"]) FF ⟨rfl, rfl, rfl, by decide +kernel, rfl, by decide +kernel, by decide +kernel, by decide +kernel, by decide +kernel⟩ (fun vs H Q E h => ?_) (fun _ _ _ _ _ us hl => match us, hl with | [_, _, _], _ => rfl) (fun A outer s H vs Q E hr h => ?_)
  · obtain ⟨x, lim, dx, B, r, rfl, _⟩ := h; rfl
  · obtain ⟨x, lim, dx, B, r, rfl, hx, hL, h0, h1, q⟩ := h
    refine ⟨_, psas_cons (psa_super SA (f_ginit (P := P) (w := w) (base := base) T G.gc hCL FG) hr passL rfl rfl (by simp [NdefX.ncx, NdefX.envF, List.lookup]) rfl rfl rfl rfl rfl hm (pa_cons (pv 1) pa_nil))
      (psas_of (pss_cons (ps_if (pt_not (pt_val (pe_D (d_is_between T) hr (by rfl) (pa_cons (pv 2) (pa_cons pe_int (pa_cons (pe_gint (by rfl) m3) pa_nil)))))) (pss_one ps_never) pss_nil)
      (pss_one (ps_fld (pv 0) (pv 2) rfl)))), ?_⟩
    refine ⟨x, dx, _, rfl, hx, .ref lim, rfl, ⟨dx, _, hx⟩, x, lim, dx, B, rfl, hx, hL, fun H1 s1 hG => ?_⟩
    refine ⟨.int r, rfl, r, 0, 100, rfl, ?_⟩
    rw [btw h0 h1]
    refine ⟨true, rfl, iteF ?_⟩
    obtain ⟨dx1, lim1, pt1, e1, hL1, hS1⟩ := hG
    refine ⟨.int r, rfl, .ref x, rfl, x, CB, dx1, _, rfl, e1, G.gc.cl, G.nX, by show 2 < 1000; decide, ?_⟩
    rw [put_ext _ _ _ _ (by decide) (by decide)]
    have sx : SameX x H1 (upd H1 x (.ins CB dx1 [(("base" : Str), .ref lim1), (("past" : Str), .ref pt1), (("ticks" : Str), .int r)])) := fun b o eb nb => by rw [upd_ne nb]; exact eb
    exact q _ (s1.trans sx) ⟨dx1, lim1, pt1, upd_same, sx.limN e1 hCL hL1, sx.statesN (nt_ins e1) hS1⟩
theorem look_ext (f : Str) (x y z : V) (h1 : (f == ("base" : Str)) = false) (h2 : (f == ("past" : Str)) = false) : ([(("base" : Str), x), (("past" : Str), y), (f, z)] : List (Str × V)).lookup f = some z := by
  rw [List.lookup_cons, h1, List.lookup_cons, h2]
  simp [List.lookup]
/-- Bounded.judge -/
theorem f_bjudge (T : Txt K mg CL) (G : BndC P K mg F CB fj) (XC : ExcC P K mg "Full" CF sFullInit "Full.__init__" "amount") (hm : mg "super" = none) (r : Int) (B : List Pr) : FnR P w K mg base (L2.CX P w) 6 fj (sp_judge K CL CB (JB r CF) [("places", .int r)] B) := by
  obtain ⟨fd, cc, cda, g2, fdg, FF, SA, FG⟩ := G.jd
  obtain ⟨fi, fdi, cci, cdi, FI, i1, i2, SE⟩ := XC.ini
  obtain ⟨oc, od, kV, doc, pm, an, ct, osl, rfl, _⟩ := id FF.ex
  refine fn_clo (N := ["self", "come", "through", "__class__", "left"]) (ps := ["self", "come", "through"]) FF ⟨rfl, rfl, rfl, by decide +kernel, rfl, by decide +kernel, by decide +kernel, by decide +kernel, by decide +kernel⟩ (fun vs H Q E h => ?_) (fun _ _ _ _ _ us hl => match us, hl with | [_, _, _], _ => rfl) (fun A outer s H vs Q E hr h => ?_)
  · obtain ⟨g, c, t, S, cs, ts, rfl, _⟩ := h; rfl
  · obtain ⟨g, c, t, S, cs, ts, rfl, hG, ok, hc, ht, l1, l2, jo, q1, q2⟩ := h
    obtain ⟨dx, lim, pt, e, hL, hS⟩ := id hG
    have nd : (["self", "come", "through", "__class__", "left"] : List Str).Nodup := by decide +kernel
    refine ⟨_, psas_cons (psa_of (ps_set (i := 4) nd rfl (.inl rfl) (pe_op op_sub (pe_callB (cr_sumT rfl) (by rfl) T.z_sum (by decide +kernel) (pa_cons (pv 1) pa_nil)) (pe_callB (cr_sumT rfl) (by rfl) T.z_sum (by decide +kernel) (pa_cons (pv 2) pa_nil)))))
      (psas_cons (psa_of (ps_if (pt_cmpR op_gt (pv 4) (pe_fld (pv 0) rfl) (nomark _)) (pss_one (ps_raise rfl (takes_of rfl rfl rfl rfl) (pmk_oex XC.oex i1 i2 (f_fullInit XC hm FI SE) (hr.mono (by decide)) (FI.binds (ps := ["self", "amount"]) fun _ _ _ _ _ us hl => match us, hl with | [_, _], _ => rfl) .nil passL (by rfl) XC.mgC (pa_cons (pv 4) pa_nil)))) pss_nil))
      (psas_cons (psa_super SA (f_gjudge (P := P) (w := w) (mg := mg) (base := base) (CL := CL) (C := CB) FG [("places", .int r)] B) (hr.mono (by decide)) passL rfl rfl (by simp [NdefX.ncx, NdefX.envF, List.lookup]) rfl rfl rfl rfl rfl hm (pa_cons (pv 1) (pa_cons (pv 2) pa_nil)))
      (psas_of pss_nil))), ?_⟩
    refine ⟨.ref c, rfl, c, cs, rfl, hc, .ref t, rfl, t, ts, rfl, ht, _, _, rfl, rfl, ?_⟩
    refine ⟨.int (cs.sum - ts.sum), rfl, .ref g, rfl, g, CB, dx, _, .int r, rfl, e, G.gc.cl, G.nX, look_ext _ _ _ _ (by decide) (by decide), _, _, rfl, rfl, _, rfl, ?_⟩
    have jlo := jo.lo
    have jhi := jo.hi
    by_cases hb : r < cs.sum - ts.sum
    · rw [decide_eq_true hb]
      refine iteT ⟨.int (cs.sum - ts.sum), rfl, (by show 1 ≤ 1000; decide), fun a ha => ⟨a, cs.sum - ts.sum, rfl, ?_, upd_same, fun d hd hne => ⟨rfl, d, [(("amount" : Str), .int (cs.sum - ts.sum))], upd_same, ?_, ?_, ?_⟩⟩⟩
      · exact log_small (by omega)
      · rw [upd_ne hne]; exact upd_same
      · rw [upd_ne hne] at hd; exact hd
      · refine q2 (decide_eq_false (by omega)) d _ (made_exc ha hd hne) ?_ upd_same
        rw [upd_ne hne] at hd; exact hd
    · rw [decide_eq_false hb]
      refine iteF ⟨g, dx, _, rfl, e, .ref c, rfl, .ref t, rfl, ⟨dx, _, e⟩, g, c, t, S, cs, ts, rfl, hG, ok, hc, ht, l1, l2, jo, fun _ => q1 (decide_eq_true (by omega)), fun hn => by cases hn⟩
/-- Prompt.judge -/
theorem f_pjudge (T : Txt K mg CL) (G : PrmC P K mg F CB fj) (XC : ExcC P K mg "Late" CF sLateInit "Late.__init__" "ticks") (hm : mg "super" = none) (B0 : List Pr) (r : Int) : FnR P w K mg base (L2.CX P w) 6 fj (sp_judge K CL CB (JP B0 r CF) [("ticks", .int r)] B0) := by
  obtain ⟨fd, cc, cda, g2, fdg, FF, SA, FG⟩ := G.jd
  obtain ⟨fi, fdi, cci, cdi, FI, i1, i2, SE⟩ := XC.ini
  obtain ⟨fp, fdp, pp, FP, hpp⟩ := T.prs
  obtain ⟨oc, od, kV, doc, pm, an, ct, osl, rfl, _⟩ := id FF.ex
  refine fn_clo (N := ["self", "come", "through", "__class__", "last"]) (ps := ["self", "come", "through"]) FF ⟨rfl, rfl, rfl, by decide +kernel, rfl, by decide +kernel, by decide +kernel, by decide +kernel, by decide +kernel⟩ (fun vs H Q E h => ?_) (fun _ _ _ _ _ us hl => match us, hl with | [_, _, _], _ => rfl) (fun A outer s H vs Q E hr h => ?_)
  · obtain ⟨g, c, t, S, cs, ts, rfl, _⟩ := h; rfl
  · obtain ⟨g, c, t, S, cs, ts, rfl, hG, ok, hc, ht, l1, l2, jo, q1, q2⟩ := h
    obtain ⟨dx, lim, pt, e, hL, hS⟩ := id hG
    obtain ⟨dl, tl, el, hPl⟩ := id hL
    have nd : (["self", "come", "through", "__class__", "last"] : List Str).Nodup := by decide +kernel
    refine ⟨_, psas_cons (psa_of (ps_if (pt_cmpR op_gt (pe_ix ix_tup (pv 1) (pe_un un_neg pe_int) (fun _ _ => rfl)) pe_int (nomark _))
        (pss_cons (ps_set (i := 4) nd rfl (.inl rfl) (pe_ix ix_tup (pe_D (d_waits_of T) hr (by rfl) (pa_cons (pe_pairs (k := 3) T FP hpp hr (pe_fld (pv 0) rfl)) (pa_cons (pv 1) pa_nil))) (pe_un un_neg pe_int) (fun _ _ => rfl)))
        (pss_one (ps_if (pt_cmpR op_gt (pv 4) (pe_fld (pv 0) rfl) (nomark _)) (pss_one (ps_raise rfl (takes_of rfl rfl rfl rfl) (pmk_oex XC.oex i1 i2 (f_lateInit XC hm FI SE) (hr.mono (by decide)) (FI.binds (ps := ["self", "ticks"]) fun _ _ _ _ _ us hl => match us, hl with | [_, _], _ => rfl) .nil passL (by rfl) XC.mgC (pa_cons (pv 4) pa_nil)))) pss_nil))) pss_nil))
      (psas_cons (psa_super SA (f_gjudge (P := P) (w := w) (mg := mg) (base := base) (CL := CL) (C := CB) FG [("ticks", .int r)] B0) (hr.mono (by decide)) passL rfl rfl (by simp [NdefX.ncx, NdefX.envF, List.lookup]) rfl rfl rfl rfl rfl hm (pa_cons (pv 1) (pa_cons (pv 2) pa_nil)))
      (psas_of pss_nil)), ?_⟩
    have jlo := jo.lo
    have jhi := jo.hi
    refine ⟨.ref c, rfl, 1, rfl, c, _, -1, .int (cs.getLastD 0), rfl, rfl, hc, atI_lastD jo.ne, _, _, rfl, rfl, _, rfl, ?_⟩
    by_cases hpos : 0 < cs.getLastD 0
    · rw [decide_eq_true hpos]
      have hsum : 0 < cs.sum := by have := mem_le_sum jo.row.1 _ (last_mem jo.ne); omega
      have hwl := waits_len ok.g jo.row
      have hwne : waitsL B0 cs ≠ [] := fun z => by rw [z] at hwl; simp at hwl; omega
      refine iteT ⟨.ref g, rfl, g, CB, dx, _, .ref lim, rfl, e, G.gc.cl, G.gc.nB, look_base _ _, lim, dl, _, rfl, el, lim, dl, _, .ref tl, rfl, el, kept_look _, .ref c, rfl, ?_⟩
      refine ⟨tl, c, B0, cs, rfl, hPl, ok, hc, jo.row, by omega, fun p H1 s1 hp => ?_⟩
      refine ⟨1, rfl, p, _, -1, .int (lastW B0 cs), rfl, rfl, hp, atI_lastD hwne, ?_⟩
      refine ⟨.int (lastW B0 cs), rfl, .ref g, rfl, g, CB, dx, _, .int r, rfl, s1 _ _ e, G.gc.cl, G.nX, look_ext _ _ _ _ (by decide) (by decide), _, _, rfl, rfl, _, rfl, ?_⟩
      by_cases hb : r < lastW B0 cs
      · rw [decide_eq_true hb]
        refine iteT ⟨.int (lastW B0 cs), rfl, (by show 1 ≤ 1000; decide), fun a ha => ⟨a, lastW B0 cs, rfl, ?_, upd_same, fun d hd hne => ⟨rfl, d, [(("ticks" : Str), .int (lastW B0 cs))], upd_same, ?_, ?_, ?_⟩⟩⟩
        · have := waits_mem ok jo.row _ (last_mem hwne)
          exact log_small (by unfold lastW; omega)
        · rw [upd_ne hne]; exact upd_same
        · rw [upd_ne hne] at hd; exact hd
        · refine q2 ?_ d _ (s1.trans (made_exc ha hd hne)) ?_ upd_same
          · show (!decide (0 < cs.getLastD 0) || decide (lastW B0 cs ≤ r)) = false
            rw [decide_eq_true hpos, decide_eq_false (by omega)]; rfl
          · rw [upd_ne hne] at hd
            cases e0 : H d with
            | none => rfl
            | some o => rw [s1 _ _ e0] at hd; cases hd
      · rw [decide_eq_false hb]
        refine iteF ⟨g, dx, _, rfl, s1 _ _ e, .ref c, rfl, .ref t, rfl, ⟨dx, _, s1 _ _ e⟩, g, c, t, S, cs, ts, rfl, hG.same s1, ok, sameT s1 hc, sameT s1 ht, l1, l2, jo, fun _ => fun H' s' => q1 ?_ H' (s1.trans s'), fun hn => by cases hn⟩
        show (!decide (0 < cs.getLastD 0) || decide (lastW B0 cs ≤ r)) = true
        rw [decide_eq_true (show lastW B0 cs ≤ r by omega), Bool.or_true]
    · rw [decide_eq_false hpos]
      refine iteF ⟨g, dx, _, rfl, e, .ref c, rfl, .ref t, rfl, ⟨dx, _, e⟩, g, c, t, S, cs, ts, rfl, hG, ok, hc, ht, l1, l2, jo, fun _ => q1 ?_, fun hn => by cases hn⟩
      show (!decide (0 < cs.getLastD 0) || decide (lastW B0 cs ≤ r)) = true
      rw [decide_eq_false hpos]; rfl
end
end B50

set_option Elab.async false
set_option linter.all false
set_option maxRecDepth 100000
set_option maxHeartbeats 8000000
/-! The law's look at a Bounded and at a Prompt. -/
namespace B50
open PySem PySem.Spec PyProof.Rows L2 BX BM
structure TxtG (P : Program) (K : PySem.W.Frag) (mg : Str → Option Value) (CL : Addr) (F : GFn) (CG CB CP CT CFu CLa fG fB fP : Addr) : Prop where
  mgG : mg "Gate" = some (.ref CG)
  fs : GFs K F
  gg : GateC K F CG fG
  gx : GateX K CG fG
  b : BndC P K mg F CB fB
  p : PrmC P K mg F CP fP
  t : TryC K mg CT
  full : ExcC P K mg "Full" CFu sFullInit "Full.__init__" "amount"
  late : ExcC P K mg "Late" CLa sLateInit "Late.__init__" "ticks"
  z_super : mg "super" = none
  i_patience : ∃ t, mg "MOST_PATIENCE" = some (.int 100 t)
  nG : CL ≠ CG
  nB : CL ≠ CB
  nP : CL ≠ CP
  nT : CL ≠ CT
  xF : PySem.W.exmOne K (.ref CFu) (.ref CFu) = some true
  xL : PySem.W.exmOne K (.ref CLa) (.ref CLa) = some true
  g_ends : GF K mg "_law_ends_right" sEnds
  g_bnd : GF K mg "_law_bounded_right" sBoundedR
  g_prm : GF K mg "_law_prompt_right" sPromptR
  g_slow : GF K mg "_law_slow_right" sSlow
theorem catTo {K : PySem.W.Frag} {H : Hp} {a b : Addr} {xs ys : List Int} {Q : VK} (ha : TI K H a xs) (hb : TI K H b ys) (hz : xs.length ≤ 100000) (hz2 : ys.length ≤ 100000) (q : ∀ p H', Same H H' → TI K H' p (xs ++ ys) → Q (.ref p) H') : rCatA K (.ref a) (.ref b) H Q := by
  refine ⟨a, b, _, _, rfl, rfl, ha, hb, by rw [List.length_map, List.length_map, sizeLine_eq]; omega, fun e => ?_, fun _ e => ?_, fun _ _ p hp => ?_⟩
  · have : xs = [] := List.map_eq_nil_iff.mp e
    subst this
    exact q b H (Same.refl _) hb
  · have : ys = [] := List.map_eq_nil_iff.mp e
    subst this
    exact q a H (Same.refl _) (by rw [List.append_nil]; exact ha)
  · exact q p _ (sameW hp) (.inl (.inl (by rw [upd_same, List.map_append])))
theorem units64 {k : Nat} {A : Around} (hr : Room k A) : A.units + 64 < cLine := by have := units65 hr; omega
section
variable {P : Program} {w : World} {K : PySem.W.Frag} {mg : Str → Option Value} {base : Heap} {CL : Addr} {F : GFn} {CG CB CP CT CFu CLa fG fB fP : Addr}
/-- _law_bounded_right -/
def sp_bnd (K : PySem.W.Frag) (CL : Addr) : Sp := fun vs H Q _ => ∃ (l r : Addr) (B : List Pr) (xs : List Int) (m : Int), vs = [.ref l, .ref r, .int m] ∧ LimAt K CL H l B ∧ LimOk B ∧ TI K H r xs ∧ RowOk xs ∧ xs.length ≤ 1000 ∧ 0 ≤ m ∧ m ≤ 60 ∧ ∀ H', Same H H' → Q (.bl true) H'
theorem d_bnd (T : Txt K mg CL) (TG : TxtG P K mg CL F CG CB CP CT CFu CLa fG fB fP) : D0 P w K mg base "_law_bounded_right" 11 (sp_bnd K CL) := by
  have nd : (["_law_limits_here", "_law_row_here", "_law_room", "_law_gate", "_law_come", "_law_amount", "_law_left", "why"] : List Str).Nodup := by decide +kernel
  obtain ⟨fw, fdw, GW, bW, mW, kW⟩ := (d_waiting (P := P) (w := w) (base := base) T).ex
  obtain ⟨fi, MB, FI⟩ := f_binit (P := P) (w := w) (base := base) T TG.b TG.nB TG.z_super
  obtain ⟨fdc, FC⟩ := TG.fs.come
  obtain ⟨fdwt, FWt⟩ := TG.fs.waiting
  obtain ⟨pc, hpc⟩ := TG.b.gc.p_come
  obtain ⟨pw, hpw⟩ := TG.b.gc.p_waiting
  have FCall := fun (m : Int) (B : List Pr) => f_call (P := P) (w := w) (base := base) T TG.b.gc TG.fs TG.nB (J := JB m CFu) (ext := [("places", .int m)]) B (f_bjudge T TG.b TG.full TG.z_super m B) rfl rfl rfl (by show 1 ≤ 10; decide)
  refine D0.ofN (N := ["_law_limits_here", "_law_row_here", "_law_room", "_law_gate", "_law_come", "_law_amount", "_law_left", "why"]) (ps := ["_law_limits_here", "_law_row_here", "_law_room"]) TG.g_bnd ⟨rfl, rfl, rfl, nd, rfl, by decide +kernel, by decide +kernel⟩ (fun vs H Q E h => ?_) (fun _ _ _ _ _ _ us hl => match us, hl with | [_, _, _], _ => rfl) (fun f cdv A outer s H vs Q E hr h => ?_)
  · obtain ⟨l, r, B, xs, m, rfl, _⟩ := h; rfl
  · obtain ⟨l, r, B, xs, m, rfl, hL, ok, hT, hx, hz, hm0, hm1, q⟩ := h
    refine ⟨_, pss_cons (ps_par (i := 3) (j := 4) rfl nd rfl rfl (by decide) rfl rfl (pa_cons (StX.pe_makeR MB FI (hr.mono (by decide)) (by rfl) TG.b.mgC passL (pa_cons (pv 0) (pa_cons (pv 2) pa_nil))) (pa_cons (pe_tup pa_nil) pa_nil)) (by rfl))
      (pss_cons (ps_for PassesOwn.never rfl (pi_tup (pv 1)) (pg_name (i := 5) nd rfl (.inl rfl))
        (pss_cons (ps_set (i := 6) nd rfl (.inl rfl) (pe_ix ix_list (pe_listG (nm := "list") (pgen_call GW (hr.mono (by decide)) (by rfl) mW kW bW .nil (pa_cons (pv 0) (pa_cons (pe_op op_catA (pv 4) (pe_tup (pa_cons (pv 5) pa_nil))) pa_nil))) passL noStop0 (hr.mono (by decide)) (by rfl) T.z_list (by decide +kernel)) (pe_callB call_len_seq (by rfl) T.z_len PySem.boot_len (pa_cons (pv 4) pa_nil)) (fun _ _ => rfl)))
        (pss_cons (ps_try_as (i := 7) (Wout := fun _ _ _ _ => False) rfl rfl nd rfl rfl ⟨rfl, by decide, .inl TG.full.mgC⟩ takes0
            (tb := fun W => tSeq (tDrop (tCallOS CB (sp_tick K CL CB (JB m CFu) [("places", .int m)] B) (WE W) (tVar 3) (tCons (tVar 5) tNil))) (tSeq (tAsg (tOp (rCatA K) (tVar 4) (tTup (tCons (tVar 5) tNil))) (gName 4)) (tIfS (tTest (tOp (rI0 fun i j => .bl (decide (j < i))) (tVar 6) (tVar 2))) (tRet (tC (.bl false))) tNext)))
            (fun W pn xe tk _ => pss_cons (ps_expr (pe_callOS (pv 3) TG.b.gc.c_call (FCall m B) (hr.mono (by decide)) (fun σ => passAt tk σ) (pa_cons (pv 5) pa_nil)))
              (pss_cons (ps_set (i := 4) nd rfl (.inl rfl) (pe_op (r := rCatA K) op_catA (pv 4) (pe_tup (pa_cons (pv 5) pa_nil))))
              (pss_one (ps_if (pt_cmpR op_gt (pv 6) (pv 2) (nomark _)) (pss_one (ps_ret pe_bl)) pss_nil))))
            (fun a oe cls d pn hz hf => pss_one (ps_if (PW.pt (pw_or (pt_cmpR op_ne (pe_xf TG.full.xf TG.full.nF hz hf (pv 7)) (pv 6) (nomark _)) (pw_or1 (pt_cmpR op_le (pv 6) (pv 2) (nomark _))))) (pss_one (ps_ret pe_bl)) pss_nil)))
        (pss_one (ps_if (PW.pt (pw_or (pt_cmpR (op_neD (units64 hr)) (pe_come (CL := CL) (k := 0) TG.b.gc FC hpc (hr.mono (by decide)) (pv 3)) (pv 4) (nomark _)) (pw_or1 (pt_cmpR op_gt (pe_gwaiting (CL := CL) (k := 0) T TG.b.gc TG.fs FWt hpw (hr.mono (by decide)) (pv 3)) (pv 2) (nomark _))))) (pss_one (ps_ret pe_bl)) pss_nil)))))
      (pss_one (ps_ret pe_bl))), ?_⟩
    refine ⟨.ref l, rfl, .int m, rfl, fun x dx nx ndx nex => ?_⟩
    have s1 : Same H (upd (upd H dx (.own x)) x (.ins CB dx [])) := sameU (sameW ndx) nx
    refine ⟨x, l, dx, B, m, rfl, upd_same, hL.same s1, hm0, hm1, fun H2 s2 hG2 => ⟨rfl, (by show 0 ≤ sizeLine; decide), fun ct0 hct0 => ⟨_, _, rfl, ?_⟩⟩⟩
    have s02 : Same H H2 := fun b o eb => s2 b o (s1 b o eb) (ne_of_none eb nx)
    have s3 := sameW (o := .tup ([] : List V)) hct0
    have s03 := s02.trans s3
    have hG3 := hG2.same s3
    have hct3 : TI K (upd H2 ct0 (.tup [])) ct0 [] := .inl (.inl upd_same)
    obtain ⟨dg0, lim0, pt0, e0, _⟩ := id hG3
    generalize hHB : upd H2 ct0 (.tup []) = HB at s3 s03 hG3 hct3 e0 ⊢
    have hTB := sameT s03 hT
    have hLB := hL.same s03
    refine ⟨.ref r, rfl, r, rfl, ⟨_, hTB⟩, ?_⟩
    refine for_it (walk_tup (xs := xs.map V.int)) (fun i σ H3 => SameX x HB H3 ∧ ∃ (ct : Addr) (c : List Int) (S' : List St2) (y5 y6 y7 : Option V), σ = [some (.ref l), some (.ref r), some (.int m), some (.ref x), some (.ref ct), y5, y6, y7] ∧ TI K H3 ct c ∧ GateAt K CL CB H3 x B (S' ++ [runS B c]) [("places", .int m)] ∧ S'.length ≤ i ∧ c.length ≤ i ∧ (∀ a ∈ c, 0 ≤ a) ∧ c.sum ≤ cum xs i ∧ c.sum - R B c c.length ≤ m)
      ⟨SameX.refl _ _, ct0, [], [], _, _, _, rfl, hct3, hG3, Nat.le_refl _, Nat.le_refl _, fun _ h => (by cases h), by rw [cum_zero]; decide, by show (0 : Int) - 0 ≤ m; omega⟩ (fun i σ H3 _ pv => pv.1.tupN (nt_ins e0) hTB) (fun i v σ H3o H3 hi pvi y => ?_) (fun σ H3 pvn => ?_)
    · obtain ⟨sB, ct, c, S', y5, y6, y7, rfl, hct, hG, hS', hcl, hc0, hcs, hcm⟩ := pvi
      obtain ⟨rfl, hy⟩ := y
      have hix : i < xs.length := by rw [List.length_map] at hi; exact hi
      rw [List.getElem?_map, List.getElem?_eq_getElem hix] at hy
      obtain rfl : V.int xs[i] = v := Option.some.inj hy
      have eg : xs.getD i 0 = xs[i] := by rw [List.getD_eq_getElem?_getD, List.getElem?_eq_getElem hix]; rfl
      have hcu := cum_succ xs i
      have hle := cum_le_sum hx.1 (i + 1)
      have hx6 := hx.2
      have hn0 := hx.1 xs[i] (List.getElem_mem hix)
      rw [eg] at hcu
      generalize hn : xs[i] = n at hcu hn0 ⊢
      have e1 : ([n] : List Int).sum = n := by simp
      have hrow : RowOk (c ++ [n]) := by
        refine ⟨fun a ha => ?_, by rw [BM.sum_append, e1]; omega⟩
        rcases List.mem_append.mp ha with h | h
        · exact hc0 a h
        · have : a = n := by simpa using h
          omega
      have hcs0 : c.sum + n ≤ 60 := by have := hrow.2; rw [BM.sum_append, e1] at this; exact this
      have hrc := runS_eq B c
      have hst : stepG B (runS B c) n = (c ++ [n], thr B (c ++ [n]) (c ++ [n]).length) := by rw [← runS_snoc, runS_eq]
      have hwl := waiting_last ok.g hrow (by simp)
      obtain ⟨left, hleft⟩ : ∃ left, (c ++ [n]).sum - R B (c ++ [n]) (c ++ [n]).length = left := ⟨_, rfl⟩
      rw [hleft, show (c ++ [n]).length - 1 = c.length by simp] at hwl
      have hd2 : (stepG B (runS B c) n).1.sum - (stepG B (runS B c) n).2.sum = left := by rw [hst]; exact hleft
      obtain ⟨dg, limg, ptg, eg3, hLg, _⟩ := id hG
      have hL3 := sB.limN e0 TG.nB hLB
      -- left
      refine ⟨.ref l, rfl, .ref ct, rfl, .int n, rfl, (by show 1 ≤ sizeLine; decide), fun z hz' => ?_⟩
      have s4 := sameW (o := .tup [V.int n]) hz'
      refine catTo (ys := [n]) (sameT s4 hct) (.inl (.inl upd_same)) (by omega) (by show 1 ≤ 100000; omega) fun p H4 sp hp => ?_
      have s5 := s4.trans sp
      refine ⟨l, p, B, c ++ [n], rfl, hL3.same s5, ok, hp, hrow, by rw [List.length_append]; show c.length + 1 ≤ _; omega, fun Hq sq Lq hLq => ?_⟩
      have s6 := (s5.trans sq).trans (sameW (o := .lst ((waitingL B (c ++ [n])).map V.int)) hLq)
      refine ⟨.ref ct, rfl, ct, _, rfl, .inr (sameT s6 hct), Lq, _, (c.length : Nat), .int left, rfl, ?_, .inl (.inl upd_same), atI_nat (j := c.length) (by rw [List.getElem?_map, hwl]; rfl), ?_⟩
      · rw [List.length_map]
      have hG6 := hG.same s6
      have hct6 := sameT s6 hct
      have eg6 := s6 _ _ eg3
      generalize hHC : upd Hq Lq (.lst ((waitingL B (c ++ [n])).map V.int)) = HC at s6 hG6 hct6 eg6 ⊢
      -- the try
      have hsum0 := BM.sum_nonneg hc0
      have hlook : ∀ (z : V), ([(("amount" : Str), z)] : List (Str × V)).lookup ("amount" : Str) = some z := fun z => by simp [List.lookup]
      refine ⟨.ref x, rfl, x, rfl, .int n, rfl, ⟨dg, _, eg6⟩, x, n, S', runS B c, rfl, hG6, ok, hn0, by omega, ?_, ?_, ?_, by omega, jok_step ok hrow, fun hcond v H7 s7 hG7 => ?_, fun hcond d H7 s7 hd hdd => ?_⟩
      · rw [hrc]; exact hcs0
      · rw [hrc]; show c.length ≤ _; omega
      · rw [hrc]; show (thr _ _ _).length ≤ _; rw [thr_len]; omega
      · have hle2 : left ≤ m := by
          have := of_decide_eq_true hcond
          rw [hd2] at this; exact this
        rw [← runS_snoc] at hG7
        have hct7 : TI K H7 ct c := s7.tupN (nt_ins eg6) hct6
        refine ⟨.ref ct, rfl, .int n, rfl, (by show 1 ≤ sizeLine; decide), fun z2 hz2 => ?_⟩
        have s8 := sameW (o := .tup [V.int n]) hz2
        refine catTo (ys := [n]) (sameT s8 hct7) (.inl (.inl upd_same)) (by omega) (by show 1 ≤ 100000; omega) fun p2 H8 sp2 hp2 => ?_
        have hG8 := hG7.same (s8.trans sp2)
        refine ⟨.int left, rfl, .int m, rfl, _, _, rfl, rfl, _, rfl, ?_⟩
        rw [decide_eq_false (show ¬ m < left by omega)]
        refine iteF ?_
        obtain ⟨dh, limh, pth, eh, _⟩ := id hG8
        refine ⟨.ref x, rfl, x, dh, _, rfl, eh, x, B, _, _, _, rfl, hG8, fun cc hcc => ⟨.ref p2, rfl, _, _, dp_row hcc, dp_row hp2, dRow_shaped _, dRow_shaped _, _, rfl, ?_⟩⟩
        rw [dRow_eqv, decide_eq_true (show (runS B (c ++ [n])).1 = (c ++ [n]) by rw [runS_eq])]
        refine iteF ⟨.ref x, rfl, x, dh, _, rfl, eh, x, B, _, _, _, rfl, hG8, .int m, rfl, _, _, rfl, rfl, _, rfl, ?_⟩
        rw [decide_eq_false (show ¬ m < (runS B (c ++ [n])).1.sum - (runS B (c ++ [n])).2.sum by rw [runS_eq]; show ¬ m < ((c ++ [n])).sum - R B (c ++ [n]) ((c ++ [n])).length; omega)]
        refine iteF ?_
        exact ⟨((sB.trans (Same.x s6)).trans s7).trans (Same.x (s8.trans sp2)), p2, c ++ [n], _, _, _, _, rfl, hp2, hG8, by rw [List.length_append]; show S'.length + 1 ≤ _; omega, by rw [List.length_append]; show c.length + 1 ≤ _; omega, hrow.1, by rw [BM.sum_append, e1]; omega, by omega⟩
      · have hgt : m < left := by
          have := of_decide_eq_false hcond
          rw [hd2] at this; omega
        refine ⟨true, TG.xF, fun _ a ha => ?_, fun z => by cases z⟩
        have hdd2 : H7 d = some (.xd [(("amount" : Str), .int left)]) := by rw [← hd2]; exact hdd
        have hct7 := sameT s7 hct6
        have hG7 := hG6.same s7
        refine ⟨.ref a, rfl, rfl, rfl, d, _, .int left, rfl, hdd2, hlook _, .int left, rfl, rfl, _, rfl, ?_⟩
        rw [decide_eq_true rfl]
        refine iteF ⟨.int left, rfl, .int m, rfl, _, _, rfl, rfl, _, rfl, ?_⟩
        rw [decide_eq_false (show ¬ left ≤ m by omega)]
        refine iteF ?_
        obtain ⟨dh, limh, pth, eh, _⟩ := id hG7
        refine ⟨.ref x, rfl, x, dh, _, rfl, eh, x, B, _, _, _, rfl, hG7, fun cc hcc => ⟨.ref ct, rfl, _, _, dp_row hcc, dp_row hct7, dRow_shaped _, dRow_shaped _, _, rfl, ?_⟩⟩
        rw [dRow_eqv, decide_eq_true (show (runS B c).1 = c by rw [runS_eq])]
        refine iteF ⟨.ref x, rfl, x, dh, _, rfl, eh, x, B, _, _, _, rfl, hG7, .int m, rfl, _, _, rfl, rfl, _, rfl, ?_⟩
        rw [decide_eq_false (show ¬ m < (runS B c).1.sum - (runS B c).2.sum by rw [runS_eq]; show ¬ m < (c).sum - R B c (c).length; omega)]
        refine iteF ?_
        exact ⟨(sB.trans (Same.x s6)).trans (Same.x s7), ct, c, S', _, _, _, rfl, hct7, hG7, by omega, by omega, hc0, by omega, hcm⟩
    · exact q H3 fun b o eb => pvn.1 b o (s03 b o eb) (ne_of_none eb nx)
end
end B50

set_option Elab.async false
set_option linter.all false
set_option maxRecDepth 100000
set_option maxHeartbeats 8000000
/-! The law's look at a Prompt. -/
namespace B50
open PySem PySem.Spec PyProof.Rows L2 BX BM
theorem max_le {l : List Int} {M m : Int} (hM : M ∈ (0 : Int) :: l) (h0 : 0 ≤ m) (h : ∀ x ∈ l, x ≤ m) : M ≤ m := by
  rcases List.mem_cons.mp hM with e | e
  · omega
  · exact h M e
section
variable {P : Program} {w : World} {K : PySem.W.Frag} {mg : Str → Option Value} {base : Heap} {CL : Addr} {F : GFn} {CG CB CP CT CFu CLa fG fB fP : Addr}
/-- _law_prompt_right -/
def sp_prm (K : PySem.W.Frag) (CL : Addr) : Sp := fun vs H Q _ => ∃ (l r : Addr) (B : List Pr) (xs : List Int) (m : Int), vs = [.ref l, .ref r, .int m] ∧ LimAt K CL H l B ∧ LimOk B ∧ TI K H r xs ∧ RowOk xs ∧ xs.length ≤ 1000 ∧ 0 ≤ m ∧ m ≤ 100 ∧ ∀ H', Same H H' → Q (.bl true) H'
theorem d_prm (T : Txt K mg CL) (TG : TxtG P K mg CL F CG CB CP CT CFu CLa fG fB fP) : D0 P w K mg base "_law_prompt_right" 11 (sp_prm K CL) := by
  have nd : (["_law_limits_here", "_law_row_here", "_law_patience", "_law_gate", "_law_come", "_law_amount", "_law_longest", "why"] : List Str).Nodup := by decide +kernel
  obtain ⟨fi, MB, FI⟩ := f_pinit (P := P) (w := w) (base := base) T TG.p TG.nP TG.z_super TG.i_patience
  obtain ⟨fdc, FC⟩ := TG.fs.come
  obtain ⟨pc, hpc⟩ := TG.p.gc.p_come
  have FCall := fun (m : Int) (B : List Pr) => f_call (P := P) (w := w) (base := base) T TG.p.gc TG.fs TG.nP (J := JP B m CLa) (ext := [("ticks", .int m)]) B (f_pjudge T TG.p TG.late TG.z_super B m) rfl rfl rfl (by show 1 ≤ 10; decide)
  refine D0.ofN (N := ["_law_limits_here", "_law_row_here", "_law_patience", "_law_gate", "_law_come", "_law_amount", "_law_longest", "why"]) (ps := ["_law_limits_here", "_law_row_here", "_law_patience"]) TG.g_prm ⟨rfl, rfl, rfl, nd, rfl, by decide +kernel, by decide +kernel⟩ (fun vs H Q E h => ?_) (fun _ _ _ _ _ _ us hl => match us, hl with | [_, _, _], _ => rfl) (fun f cdv A outer s H vs Q E hr h => ?_)
  · obtain ⟨l, r, B, xs, m, rfl, _⟩ := h; rfl
  · obtain ⟨l, r, B, xs, m, rfl, hL, ok, hT, hx, hz, hm0, hm1, q⟩ := h
    refine ⟨_, pss_cons (ps_par (i := 3) (j := 4) rfl nd rfl rfl (by decide) rfl rfl (pa_cons (StX.pe_makeR MB FI (hr.mono (by decide)) (by rfl) TG.p.mgC passL (pa_cons (pv 0) (pa_cons (pv 2) pa_nil))) (pa_cons (pe_tup pa_nil) pa_nil)) (by rfl))
      (pss_cons (ps_for PassesOwn.never rfl (pi_tup (pv 1)) (pg_name (i := 5) nd rfl (.inl rfl))
        (pss_cons (ps_set (i := 6) nd rfl (.inl rfl) (pe_callB (cr_maxT rfl) (by rfl) T.z_max (by decide +kernel) (pa_cons (pe_op op_catA (pe_tup (pa_cons pe_int pa_nil)) (pe_D (d_waits T) hr (by rfl) (pa_cons (pv 0) (pa_cons (pe_op op_catA (pv 4) (pe_tup (pa_cons (pv 5) pa_nil))) pa_nil)))) pa_nil)))
        (pss_cons (ps_try_as (i := 7) (Wout := fun _ _ _ _ => False) rfl rfl nd rfl rfl ⟨rfl, by decide, .inl TG.late.mgC⟩ takes0
            (tb := fun W => tSeq (tDrop (tCallOS CP (sp_tick K CL CP (JP B m CLa) [("ticks", .int m)] B) (WE W) (tVar 3) (tCons (tVar 5) tNil))) (tSeq (tAsg (tOp (rCatA K) (tVar 4) (tTup (tCons (tVar 5) tNil))) (gName 4)) (tIfS (tTest (tOp (rI0 fun i j => .bl (decide (j < i))) (tVar 6) (tVar 2))) (tRet (tC (.bl false))) tNext)))
            (fun W pn xe tk _ => pss_cons (ps_expr (pe_callOS (pv 3) TG.p.gc.c_call (FCall m B) (hr.mono (by decide)) (fun σ => passAt tk σ) (pa_cons (pv 5) pa_nil)))
              (pss_cons (ps_set (i := 4) nd rfl (.inl rfl) (pe_op (r := rCatA K) op_catA (pv 4) (pe_tup (pa_cons (pv 5) pa_nil))))
              (pss_one (ps_if (pt_cmpR op_gt (pv 6) (pv 2) (nomark _)) (pss_one (ps_ret pe_bl)) pss_nil))))
            (fun a oe cls d pn hz hf => pss_one (ps_if (PW.pt (pw_or (pt_cmpR op_ne (pe_xf TG.late.xf TG.late.nF hz hf (pv 7)) (pv 6) (nomark _)) (pw_or1 (pt_cmpR op_le (pv 6) (pv 2) (nomark _))))) (pss_one (ps_ret pe_bl)) pss_nil)))
        (pss_one (ps_if (PW.pt (pw_or (pt_cmpR (op_neD (units64 hr)) (pe_come (CL := CL) (k := 0) TG.p.gc FC hpc (hr.mono (by decide)) (pv 3)) (pv 4) (nomark _)) (pw_or1 (pt_cmpR op_gt (pe_callB (cr_maxT rfl) (by rfl) T.z_max (by decide +kernel) (pa_cons (pe_op op_catA (pe_tup (pa_cons pe_int pa_nil)) (pe_D (d_waits T) hr (by rfl) (pa_cons (pv 0) (pa_cons (pe_come (CL := CL) (k := 0) TG.p.gc FC hpc (hr.mono (by decide)) (pv 3)) pa_nil)))) pa_nil)) (pv 2) (nomark _))))) (pss_one (ps_ret pe_bl)) pss_nil)))))
      (pss_one (ps_ret pe_bl))), ?_⟩
    refine ⟨.ref l, rfl, .int m, rfl, fun x dx nx ndx nex => ?_⟩
    have s1 : Same H (upd (upd H dx (.own x)) x (.ins CP dx [])) := sameU (sameW ndx) nx
    refine ⟨x, l, dx, B, m, rfl, upd_same, hL.same s1, hm0, hm1, fun H2 s2 hG2 => ⟨rfl, (by show 0 ≤ sizeLine; decide), fun ct0 hct0 => ⟨_, _, rfl, ?_⟩⟩⟩
    have s02 : Same H H2 := fun b o eb => s2 b o (s1 b o eb) (ne_of_none eb nx)
    have s3 := sameW (o := .tup ([] : List V)) hct0
    have s03 := s02.trans s3
    have hG3 := hG2.same s3
    have hct3 : TI K (upd H2 ct0 (.tup [])) ct0 [] := .inl (.inl upd_same)
    obtain ⟨dg0, lim0, pt0, e0, _⟩ := id hG3
    generalize hHB : upd H2 ct0 (.tup []) = HB at s3 s03 hG3 hct3 e0 ⊢
    have hTB := sameT s03 hT
    have hLB := hL.same s03
    refine ⟨.ref r, rfl, r, rfl, ⟨_, hTB⟩, ?_⟩
    refine for_it (walk_tup (xs := xs.map V.int)) (fun i σ H3 => SameX x HB H3 ∧ ∃ (ct : Addr) (c : List Int) (S' : List St2) (y5 y6 y7 : Option V), σ = [some (.ref l), some (.ref r), some (.int m), some (.ref x), some (.ref ct), y5, y6, y7] ∧ TI K H3 ct c ∧ GateAt K CL CP H3 x B (S' ++ [runS B c]) [("ticks", .int m)] ∧ S'.length ≤ i ∧ c.length ≤ i ∧ (∀ a ∈ c, 0 ≤ a) ∧ c.sum ≤ cum xs i ∧ (∀ z ∈ waitsL B c, z ≤ m))
      ⟨SameX.refl _ _, ct0, [], [], _, _, _, rfl, hct3, hG3, Nat.le_refl _, Nat.le_refl _, fun _ h => (by cases h), by rw [cum_zero]; decide, fun z h => by have := waits_len ok.g (show RowOk [] from ⟨fun _ h => (by cases h), by decide⟩); have h2 := List.length_pos_of_mem h; have h3 : ([] : List Int).sum = 0 := rfl; rw [h3] at this; omega⟩ (fun i σ H3 _ pv => pv.1.tupN (nt_ins e0) hTB) (fun i v σ H3o H3 hi pvi y => ?_) (fun σ H3 pvn => ?_)
    · obtain ⟨sB, ct, c, S', y5, y6, y7, rfl, hct, hG, hS', hcl, hc0, hcs, hcm⟩ := pvi
      obtain ⟨rfl, hy⟩ := y
      have hix : i < xs.length := by rw [List.length_map] at hi; exact hi
      rw [List.getElem?_map, List.getElem?_eq_getElem hix] at hy
      obtain rfl : V.int xs[i] = v := Option.some.inj hy
      have eg : xs.getD i 0 = xs[i] := by rw [List.getD_eq_getElem?_getD, List.getElem?_eq_getElem hix]; rfl
      have hcu := cum_succ xs i
      have hle := cum_le_sum hx.1 (i + 1)
      have hx6 := hx.2
      have hn0 := hx.1 xs[i] (List.getElem_mem hix)
      rw [eg] at hcu
      generalize hn : xs[i] = n at hcu hn0 ⊢
      have e1 : ([n] : List Int).sum = n := by simp
      have hrow : RowOk (c ++ [n]) := by
        refine ⟨fun a ha => ?_, by rw [BM.sum_append, e1]; omega⟩
        rcases List.mem_append.mp ha with h | h
        · exact hc0 a h
        · have : a = n := by simpa using h
          omega
      have hcs0 : c.sum + n ≤ 60 := by have := hrow.2; rw [BM.sum_append, e1] at this; exact this
      have hrc := runS_eq B c
      have hst : stepG B (runS B c) n = (c ++ [n], thr B (c ++ [n]) (c ++ [n]).length) := by rw [← runS_snoc, runS_eq]
      obtain ⟨dg, limg, ptg, eg3, hLg, _⟩ := id hG
      have hL3 := sB.limN e0 TG.nP hLB
      -- longest
      refine ⟨(by show 1 ≤ sizeLine; decide), fun z0 hz0 => ?_⟩
      have q0 := sameW (o := .tup [V.int 0]) hz0
      refine ⟨.ref l, rfl, .ref ct, rfl, .int n, rfl, (by show 1 ≤ sizeLine; decide), fun z hz' => ?_⟩
      have s4 := q0.trans (sameW (o := .tup [V.int n]) hz')
      refine catTo (ys := [n]) (sameT s4 hct) (.inl (.inl upd_same)) (by omega) (by show 1 ≤ 100000; omega) fun p H4 sp hp => ?_
      have s5 := s4.trans sp
      have hwn := waits_len ok.g hrow
      have hw60 := hrow.2
      refine ⟨l, p, B, c ++ [n], rfl, hL3.same s5, ok, hp, hrow, by rw [List.length_append]; show c.length + 1 ≤ _; omega, fun wa Hq sq hwa => ?_⟩
      refine catTo (xs := [0]) (sameT (((sameW (o := .tup [V.int n]) hz').trans sp).trans sq) (.inl (.inl upd_same))) hwa (by show 1 ≤ 100000; omega) (by omega) fun wz HC sz hwz => ?_
      have s6 := (s5.trans sq).trans sz
      refine ⟨wz, 0 :: waitsL B (c ++ [n]), rfl, hwz, by simp, fun left hl1 hl2 => ?_⟩
      have hG6 := hG.same s6
      have hct6 := sameT s6 hct
      have eg6 := s6 _ _ eg3
      -- the try
      have hsum0 := BM.sum_nonneg hc0
      have hlook : ∀ (z : V), ([(("ticks" : Str), z)] : List (Str × V)).lookup ("ticks" : Str) = some z := fun z => by simp [List.lookup]
      refine ⟨.ref x, rfl, x, rfl, .int n, rfl, ⟨dg, _, eg6⟩, x, n, S', runS B c, rfl, hG6, ok, hn0, by omega, ?_, ?_, ?_, by omega, jok_step ok hrow, fun hcond v H7 s7 hG7 => ?_, fun hcond d H7 s7 hd hdd => ?_⟩
      · rw [hrc]; exact hcs0
      · rw [hrc]; show c.length ≤ _; omega
      · rw [hrc]; show (thr _ _ _).length ≤ _; rw [thr_len]; omega
      · have hall : ∀ z ∈ waitsL B (c ++ [n]), z ≤ m := by
          refine waits_all ok.g hrow hcm fun hn1 => ?_
          have hc1 : (!decide (0 < (stepG B (runS B c) n).1.getLastD 0) || decide (lastW B (stepG B (runS B c) n).1 ≤ m)) = true := hcond
          rw [hst] at hc1
          have e3 : (c ++ [n]).getLastD 0 = n := by simp
          rw [e3, decide_eq_true hn1] at hc1
          exact of_decide_eq_true hc1
        have hle2 : left ≤ m := by
          refine max_le hl1 hm0 hall
        rw [← runS_snoc] at hG7
        have hct7 : TI K H7 ct c := s7.tupN (nt_ins eg6) hct6
        refine ⟨.ref ct, rfl, .int n, rfl, (by show 1 ≤ sizeLine; decide), fun z2 hz2 => ?_⟩
        have s8 := sameW (o := .tup [V.int n]) hz2
        refine catTo (ys := [n]) (sameT s8 hct7) (.inl (.inl upd_same)) (by omega) (by show 1 ≤ 100000; omega) fun p2 H8 sp2 hp2 => ?_
        have hG8 := hG7.same (s8.trans sp2)
        refine ⟨.int left, rfl, .int m, rfl, _, _, rfl, rfl, _, rfl, ?_⟩
        rw [decide_eq_false (show ¬ m < left by omega)]
        refine iteF ?_
        have hLf : LimAt K CL H8 l B := (s7.limN eg6 TG.nP (hL3.same s6)).same (s8.trans sp2)
        obtain ⟨dh, limh, pth, eh, hLh, _⟩ := id hG8
        refine ⟨.ref x, rfl, x, dh, _, rfl, eh, x, B, _, _, _, rfl, hG8, fun cc hcc => ⟨.ref p2, rfl, _, _, dp_row hcc, dp_row hp2, dRow_shaped _, dRow_shaped _, _, rfl, ?_⟩⟩
        rw [dRow_eqv, decide_eq_true (show (runS B (c ++ [n])).1 = (c ++ [n]) by rw [runS_eq])]
        refine iteF ⟨(by show 1 ≤ sizeLine; decide), fun z9 hz9 => ?_⟩
        have t9 := sameW (o := .tup [V.int 0]) hz9
        refine ⟨.ref l, rfl, .ref x, rfl, x, dh, _, rfl, t9 _ _ eh, x, B, _, _, _, rfl, (hG8).same t9, fun cc2 hcc2 => ?_⟩
        rw [show (runS B (c ++ [n])).1 = (c ++ [n]) by rw [runS_eq]] at hcc2
        have hwn9 := waits_len ok.g (show RowOk (c ++ [n]) from hrow)
        have hw9 := (show RowOk (c ++ [n]) from hrow).2
        refine ⟨l, cc2, B, (c ++ [n]), rfl, hLf.same t9, ok, hcc2, hrow, by rw [List.length_append]; show c.length + 1 ≤ _; omega, fun wa9 H9 s9 hwa9 => ?_⟩
        refine catTo (xs := [0]) (sameT s9 (.inl (.inl upd_same))) hwa9 (by show 1 ≤ 100000; omega) (by omega) fun wz9 HD sz9 hwz9 => ?_
        refine ⟨wz9, 0 :: waitsL B (c ++ [n]), rfl, hwz9, by simp, fun M9 hM1 hM2 => ?_⟩
        refine ⟨.int m, rfl, _, _, rfl, rfl, _, rfl, ?_⟩
        rw [decide_eq_false (show ¬ m < M9 by have := max_le hM1 hm0 hall; omega)]
        refine iteF ?_
        have u9 := (t9.trans s9).trans sz9
        exact ⟨((sB.trans (Same.x s6)).trans s7).trans (Same.x ((s8.trans sp2).trans u9)), p2, c ++ [n], _, _, _, _, rfl, sameT u9 hp2, hG8.same u9, by rw [List.length_append]; show S'.length + 1 ≤ _; omega, by rw [List.length_append]; show c.length + 1 ≤ _; omega, hrow.1, by rw [BM.sum_append, e1]; omega, hall⟩
      · have hc1 : (!decide (0 < (stepG B (runS B c) n).1.getLastD 0) || decide (lastW B (stepG B (runS B c) n).1 ≤ m)) = false := hcond
        rw [hst] at hc1
        have e3 : (c ++ [n]).getLastD 0 = n := by simp
        rw [e3] at hc1
        obtain ⟨hc2, hc3⟩ := Bool.or_eq_false_iff.mp hc1
        have hn1 : 0 < n := by
          simpa using hc2
        have hlt : m < lastW B (c ++ [n]) := by
          have hnle : ¬ lastW B (c ++ [n]) ≤ m := of_decide_eq_false hc3
          omega
        have hwne : waitsL B (c ++ [n]) ≠ [] := fun z => by
          have hz0 : ((waitsL B (c ++ [n])).length : Int) = 0 := by rw [z]; rfl
          rw [hz0, BM.sum_append, e1] at hwn; omega
        have hleft : lastW B (c ++ [n]) = left := by
          have a1 := hl2 _ (List.mem_cons_of_mem _ (last_mem hwne))
          have a2 : ∀ z ∈ waitsL B (c ++ [n]), z ≤ lastW B (c ++ [n]) := waits_all ok.g hrow (fun z hz => by have := hcm z hz; omega) fun _ => Int.le_refl _
          have a3 := max_le hl1 (by omega) a2
          unfold lastW at a1 a3 ⊢; omega
        have hgt : m < left := by omega
        have hd2 : lastW B (stepG B (runS B c) n).1 = left := by rw [hst]; exact hleft
        refine ⟨true, TG.xL, fun _ a ha => ?_, fun z => by cases z⟩
        have hdd2 : H7 d = some (.xd [(("ticks" : Str), .int left)]) := by rw [← hd2]; exact hdd
        have hct7 := sameT s7 hct6
        have hG7 := hG6.same s7
        refine ⟨.ref a, rfl, rfl, rfl, d, _, .int left, rfl, hdd2, hlook _, .int left, rfl, rfl, _, rfl, ?_⟩
        rw [decide_eq_true rfl]
        refine iteF ⟨.int left, rfl, .int m, rfl, _, _, rfl, rfl, _, rfl, ?_⟩
        rw [decide_eq_false (show ¬ left ≤ m by omega)]
        refine iteF ?_
        have hLf : LimAt K CL H7 l B := (hL3.same s6).same s7
        have hrowc : RowOk c := ⟨hc0, by omega⟩
        obtain ⟨dh, limh, pth, eh, hLh, _⟩ := id hG7
        refine ⟨.ref x, rfl, x, dh, _, rfl, eh, x, B, _, _, _, rfl, hG7, fun cc hcc => ⟨.ref ct, rfl, _, _, dp_row hcc, dp_row hct7, dRow_shaped _, dRow_shaped _, _, rfl, ?_⟩⟩
        rw [dRow_eqv, decide_eq_true (show (runS B c).1 = c by rw [runS_eq])]
        refine iteF ⟨(by show 1 ≤ sizeLine; decide), fun z9 hz9 => ?_⟩
        have t9 := sameW (o := .tup [V.int 0]) hz9
        refine ⟨.ref l, rfl, .ref x, rfl, x, dh, _, rfl, t9 _ _ eh, x, B, _, _, _, rfl, (hG7).same t9, fun cc2 hcc2 => ?_⟩
        rw [show (runS B c).1 = c by rw [runS_eq]] at hcc2
        have hwn9 := waits_len ok.g (show RowOk c from hrowc)
        have hw9 := (show RowOk c from hrowc).2
        refine ⟨l, cc2, B, c, rfl, hLf.same t9, ok, hcc2, hrowc, by omega, fun wa9 H9 s9 hwa9 => ?_⟩
        refine catTo (xs := [0]) (sameT s9 (.inl (.inl upd_same))) hwa9 (by show 1 ≤ 100000; omega) (by omega) fun wz9 HD sz9 hwz9 => ?_
        refine ⟨wz9, 0 :: waitsL B c, rfl, hwz9, by simp, fun M9 hM1 hM2 => ?_⟩
        refine ⟨.int m, rfl, _, _, rfl, rfl, _, rfl, ?_⟩
        rw [decide_eq_false (show ¬ m < M9 by have := max_le hM1 hm0 hcm; omega)]
        refine iteF ?_
        have u9 := (t9.trans s9).trans sz9
        exact ⟨(sB.trans (Same.x s6)).trans (Same.x (s7.trans u9)), ct, c, S', _, _, _, rfl, sameT u9 hct7, hG7.same u9, by omega, by omega, hc0, by omega, hcm⟩
    · exact q H3 fun b o eb => pvn.1 b o (s03 b o eb) (ne_of_none eb nx)
end
end B50

set_option Elab.async false
set_option linter.all false
set_option maxRecDepth 100000
set_option maxHeartbeats 8000000
/-! The law's look at a gate's end. -/
namespace B50
open PySem PySem.Spec PyProof.Rows L2 BX BM
/-- all but two -/
def SameX2 (g o : Addr) (H H' : Hp) : Prop := ∀ b u, H b = some u → b ≠ g → b ≠ o → H' b = some u
theorem shK : SeqAt.shaped (.tuple [.str "kept"]) = true := by decide +kernel
theorem take_passed (B : List Pr) (xs : List Int) (h : xs.length ≤ stop B xs) : (passedL B xs).take xs.length = thr B xs xs.length := thr_take B xs _ _ h
theorem and_key {b : Bool} {A : Prop} {R : Hp → Prop} {H2 : Hp} (hR : ∀ H3, Same H2 H3 → R H3) (k : (∀ H3, Same H2 H3 → R H3) → b = true → A) : if b = true then A else R H2 := by
  cases b with
  | false => exact hR H2 (fun _ _ e => e)
  | true => exact k hR rfl
section
variable {P : Program} {w : World} {K : PySem.W.Frag} {mg : Str → Option Value} {base : Heap} {CL : Addr} {F : GFn} {CG CB CP CT CFu CLa fG fB fP : Addr}
theorem SameX2.tup {g o : Addr} {H H' : Hp} (s : SameX2 g o H H') (hg : NT H g) (ho : NT H o) {a : Addr} {xs : List V} (hT : SqT K H a xs) : SqT K H' a xs := by
  rcases hT with (z | ⟨u, z⟩) | z
  · exact .inl (.inl (s _ _ z (fun e => (hg _ (e ▸ z)).1 _ rfl) fun e => (ho _ (e ▸ z)).1 _ rfl))
  · exact .inl (.inr ⟨u, s _ _ z (fun e => (hg _ (e ▸ z)).2 _ _ rfl) fun e => (ho _ (e ▸ z)).2 _ _ rfl⟩)
  · exact .inr z
theorem SameX.two {g o : Addr} {H H1 H2 : Hp} (s1 : SameX2 g o H H1) (s2 : SameX g H1 H2) : SameX2 g o H H2 := fun b u e n1 n2 => s2 _ _ (s1 b u e n1 n2) n1
theorem SameX.two' {g o : Addr} {H H1 H2 : Hp} (s1 : SameX2 g o H H1) (s2 : SameX o H1 H2) : SameX2 g o H H2 := fun b u e n1 n2 => s2 _ _ (s1 b u e n1 n2) n2
theorem Same.two {g o : Addr} {H H1 H2 : Hp} (s1 : SameX2 g o H H1) (s2 : Same H1 H2) : SameX2 g o H H2 := fun b u e n1 n2 => s2 _ _ (s1 b u e n1 n2)
theorem pe_changes {X : Cx} {e : Expr} {ta : TE} {pos : Pos} {k : Nat} {f p fj : Addr} {fd : FuncData} {C : Addr} (T : Txt X.K X.mg CL) (G : GateC X.K F C fj) (FF : Fun X.K "changes" "Gate.changes" sGChanges f fd) (hp : PropOf X.K C "changes" p f) (hr : Room (k + 2) X.A) (he : PE X e ta)
    (hab : attributeBase e "changes" X.env (eval e X.env) = eval e X.env := by rfl) : PE X (.Attribute e "changes" pos) (tProp C (sp_changes X.K CL C) [] E0 ta) :=
  pe_prop he G.cl hp (f_changes T G FF) (hr.mono (by omega)) (FF.binds (ps := ["self"]) fun _ _ _ _ _ _ us hl => match us, hl with | [_], _ => rfl) .nil passL hab
def sp_ends (K : PySem.W.Frag) (CL CG : Addr) : Sp := fun vs H Q _ => ∃ (g o l r : Addr) (B : List Pr) (S0 : List St2) (xs : List Int), vs = [.ref g, .ref o, .ref l, .ref r] ∧ g ≠ o ∧ LimAt K CL H l B ∧ LimOk B ∧ TI K H r xs ∧ RowOk xs ∧ xs.length ≤ 1000 ∧ GateAt K CL CG H g B (S0 ++ [runS B xs]) [] ∧ S0.length = xs.length ∧ GateAt K CL CG H o B [([], [])] [] ∧
  ∀ H' S', SameX2 g o H H' → GateAt K CL CG H' g B (S' ++ [(xs ++ List.replicate (stop B xs - xs.length) 0, passedL B xs)]) [] → Q (.bl true) H'
theorem d_ends (T : Txt K mg CL) (TG : TxtG P K mg CL F CG CB CP CT CFu CLa fG fB fP) : D0 P w K mg base "_law_ends_right" 12 (sp_ends K CL CG) := by
  have nd : (["_law_gate", "_law_other", "_law_limits_here", "_law_row_here", "_law_size", "_law_count"] : List Str).Nodup := by decide +kernel
  obtain ⟨fw, fdw, GW, bW, mW, kW⟩ := (d_waiting (P := P) (w := w) (base := base) T).ex
  obtain ⟨fdc, FC⟩ := TG.fs.come
  obtain ⟨fdt, FTh⟩ := TG.fs.through
  obtain ⟨fdwt, FWt⟩ := TG.fs.waiting
  obtain ⟨pc, hpc⟩ := TG.gg.p_come
  obtain ⟨pt, hpt⟩ := TG.gg.p_through
  obtain ⟨pw, hpw⟩ := TG.gg.p_waiting
  obtain ⟨fch, fdch, pch, FCh, hpch⟩ := TG.gx.changes
  obtain ⟨fas, fdas, FAs, MAs⟩ := TG.gx.assign
  obtain ⟨frs, fdrs, FRs, MRs⟩ := TG.gx.rest
  obtain ⟨fln, fdln, FLn, LO⟩ := TG.gx.len
  have FASR := f_assign (P := P) (w := w) (base := base) T TG.gg TG.fs TG.gx TG.nG FAs
  have FRSR := f_rest (P := P) (w := w) (base := base) T TG.gg TG.fs TG.gx TG.nG FRs
  have FLNR := f_glen (P := P) (w := w) (base := base) T TG.gg TG.fs FLn
  refine D0.ofN (N := ["_law_gate", "_law_other", "_law_limits_here", "_law_row_here", "_law_size", "_law_count"]) (ps := ["_law_gate", "_law_other", "_law_limits_here", "_law_row_here"]) TG.g_ends ⟨rfl, rfl, rfl, nd, rfl, by decide +kernel, by decide +kernel⟩ (fun vs H Q E h => ?_) (fun _ _ _ _ _ _ us hl => match us, hl with | [_, _, _, _], _ => rfl) (fun f cdv A outer s H vs Q E hr h => ?_)
  · obtain ⟨g, o, l, r, B, S0, xs, rfl, _⟩ := h; rfl
  · obtain ⟨g, o, l, r, B, S0, xs, rfl, hgo, hL, ok, hT, hx, hz, hG, hS0, hO, q⟩ := h
    refine' ⟨_, pss_cons ?s0 (pss_cons (ps_if (PW.pt (pw_or ?s1 (pw_or ?s2 (pw_or1 ?s3)))) (pss_one (ps_ret pe_bl)) pss_nil) (pss_cons (ps_if (PW.pt (pw_and (pt_cmpR op_gt (pv 4) pe_int (nomark _)) (pw_and1 ?s4))) (pss_one (ps_ret pe_bl)) pss_nil) (pss_cons (ps_expr ?s5) (pss_cons (ps_if (PW.pt (pw_or ?s6 (pw_or ?s7 (pw_or1 ?s8)))) (pss_one (ps_ret pe_bl)) pss_nil) (pss_cons ?s9 (pss_cons (ps_if (PW.pt (pw_or ?t0 (pw_or ?t1 (pw_or1 ?t2)))) (pss_one (ps_ret pe_bl)) pss_nil) (pss_one (ps_ret (pe_and ?t3 (pe_one ?t4)))))))))), ?rd⟩
    case s0 => exact ps_set (i := 4) nd rfl (.inl rfl) (pe_callB call_len_seq (by rfl) T.z_len PySem.boot_len (pa_cons (pv 3) pa_nil))
    case s1 => exact pt_cmpR (op_neD (units64 hr)) (pe_come (CL := CL) (k := 0) TG.gg FC hpc (hr.mono (by decide)) (pv 0)) (pv 3) (nomark _)
    case s2 => exact pt_cmpR (op_neD (units64 hr)) (pe_through (CL := CL) (k := 0) TG.gg FTh hpt (hr.mono (by decide)) (pv 0)) (pe_slice sl_tupA (pe_D (d_passed T) hr (by rfl) (pa_cons (pv 2) (pa_cons (pv 3) pa_nil))) po_none (po_some (pv 4))) (nomark _)
    case s3 => exact pt_cmpR op_ne (pe_callB (cr_lenOwn LO FLNR (hr.mono (by decide)) passL) (by rfl) T.z_len PySem.boot_len (pa_cons (pv 0) pa_nil)) (pv 4) (nomark _)
    case s4 => exact pt_cmpR op_ne (pe_gwaiting (CL := CL) (k := 0) T TG.gg TG.fs FWt hpw (hr.mono (by decide)) (pv 0)) (pe_ix ix_list (pe_listG (nm := "list") (pgen_call GW (hr.mono (by decide)) (by rfl) mW kW bW .nil (pa_cons (pv 2) (pa_cons (pv 3) pa_nil))) passL noStop0 (hr.mono (by decide)) (by rfl) T.z_list (by decide +kernel)) (pe_op op_sub (pv 4) pe_int) (fun _ _ => rfl)) (nomark _)
    case s5 => exact pe_methR (pv 1) TG.gg.cl MAs FASR hr passL (pa_cons (pv 3) pa_nil)
    case s6 => exact pt_cmpR (op_neD (units64 hr)) (pe_through (CL := CL) (k := 0) TG.gg FTh hpt (hr.mono (by decide)) (pv 1)) (pe_through (CL := CL) (k := 0) TG.gg FTh hpt (hr.mono (by decide)) (pv 0)) (nomark _)
    case s7 => exact pt_cmpR op_ne (pe_changes (CL := CL) (k := 0) T TG.gg FCh hpch (hr.mono (by decide)) (pv 1)) pe_int (nomark _)
    case s8 => exact pt_cmpR op_ne (pe_changes (CL := CL) (k := 0) T TG.gg FCh hpch (hr.mono (by decide)) (pv 0)) (pv 4) (nomark _)
    case s9 => exact ps_set (i := 5) nd rfl (.inl rfl) (pe_meth0 (pv 0) TG.gg.cl MRs FRSR (hr.mono (by decide)) (FRs.binds (ps := ["self"]) fun _ _ _ _ _ _ us hl => match us, hl with | [_], _ => rfl) .nil passL)
    case t0 => exact pt_cmpR (op_neD (units64 hr)) (pe_through (CL := CL) (k := 0) TG.gg FTh hpt (hr.mono (by decide)) (pv 0)) (pe_D (d_passed T) hr (by rfl) (pa_cons (pv 2) (pa_cons (pv 3) pa_nil))) (nomark _)
    case t1 => exact pt_cmpR op_ne (pv 5) (pe_op op_sub (pe_callB (cr_lenOwn LO FLNR (hr.mono (by decide)) passL) (by rfl) T.z_len PySem.boot_len (pa_cons (pv 0) pa_nil)) (pv 4)) (nomark _)
    case t2 => exact pt_cmpR op_ne (pe_gwaiting (CL := CL) (k := 0) T TG.gg TG.fs FWt hpw (hr.mono (by decide)) (pv 0)) pe_int (nomark _)
    case t3 => exact pe_cmpR (op_eqD (units64 hr)) (pe_D (d_verdict T) hr (by rfl) (pa_cons (pv 2) (pa_cons (pe_through (CL := CL) (k := 0) TG.gg FTh hpt (hr.mono (by decide)) (pv 0)) pa_nil))) (pe_tup (pa_cons pe_str pa_nil)) (nomark _)
    case t4 => exact pe_cmpR (op_eqD (units64 hr)) (pe_come (CL := CL) (k := 0) TG.gg FC hpc (hr.mono (by decide)) (pv 1)) (pv 3) (nomark _)
    have hlr : (xs.map V.int).length = xs.length := List.length_map ..
    obtain ⟨hs1, hs2, hs3, hs4⟩ := stop_spec ok.g hx
    have hrs := runS_eq B xs
    obtain ⟨dg, limg, ptg, eg, hLg, _⟩ := id hG
    obtain ⟨do', limo, pto, eo, _⟩ := id hO
    have hpl := passed_len_le ok.g hx
    -- size
    refine ⟨.ref r, rfl, r, _, rfl, .inr hT, ?_⟩
    rw [hlr]
    -- come, through, len
    refine ⟨.ref g, rfl, g, dg, _, rfl, eg, g, B, S0, _, [], rfl, hG, fun c hc => ⟨.ref r, rfl, _, _, dp_row hc, dp_row hT, dRow_shaped _, dRow_shaped _, _, rfl, ?_⟩⟩
    rw [dRow_eqv, decide_eq_true (show (runS B xs).1 = xs by rw [hrs])]
    refine iteF ⟨.ref g, rfl, g, dg, _, rfl, eg, g, B, S0, _, [], rfl, hG, fun t ht => ?_⟩
    refine ⟨.ref l, rfl, .ref r, rfl, l, r, B, xs, rfl, hL, ok, hT, hx, by omega, fun p H1 s1 hp => ⟨.int xs.length, rfl, _, rfl, ?_⟩⟩
    refine slA_to hp fun p2 H2 s2 hp2 => ?_
    rw [cutV_0n, ← List.map_take, take_passed B xs hs1] at hp2
    have s12 := s1.trans s2
    refine ⟨_, _, dp_row (sameT s12 ht), dp_row hp2, dRow_shaped _, dRow_shaped _, _, rfl, ?_⟩
    rw [dRow_eqv, decide_eq_true (show (runS B xs).2 = thr B xs xs.length by rw [hrs])]
    have hG2 := hG.same s12
    obtain ⟨dg2, limg2, ptg2, eg2, _⟩ := id hG2
    refine iteF ⟨.ref g, rfl, g, dg2, _, rfl, eg2, g, B, S0, _, [], rfl, hG2, _, rfl, ?_, ?_, .int xs.length, rfl, rfl, _, rfl, ?_⟩
    · omega
    · rw [hrs]; show (xs.length : Int) < 2 ^ 63; omega
    rw [decide_eq_true (show V.int ((runS B xs).1.length : Int) = V.int (xs.length : Int) by rw [hrs])]
    refine iteF ?_
    have hL2 := hL.same s12
    have hT2 := sameT s12 hT
    refine ⟨.int xs.length, rfl, _, _, rfl, rfl, _, rfl, and_key (fun H3 s3 => iteF ?_) (fun hR hpos => ?_)⟩
    · have s03 := s12.trans s3
      have hG3 := hG.same s03
      have hO3 := hO.same s03
      have hL3 := hL.same s03
      have hT3 := sameT s03 hT
      have eg3 := s03 _ _ eg
      have eo3 := s03 _ _ eo
      refine ⟨.ref o, rfl, o, do', _, rfl, eo3, look_no (by decide) (by decide) rfl, .ref r, rfl, o, r, B, [([], [])], xs, rfl, hO3, ok, hT3, hx, by omega, by show 1 ≤ 50000; decide, fun H4 s4 hO4 => ?_⟩
      have eg4 : H4 g = _ := s4 _ _ eg3 hgo
      have hG4 := s4.gateN eo3 TG.nG hgo hG3
      have hL4 := s4.limN eo3 TG.nG hL3
      have hT4 := s4.tupN (nt_ins eo3) hT3
      obtain ⟨do4, limo4, pto4, eo4, _⟩ := id hO4
      refine ⟨.ref o, rfl, o, do4, _, rfl, eo4, o, B, [([], [])], runS B xs, [], rfl, hO4, fun t ht => ⟨.ref g, rfl, g, dg, _, rfl, eg4, g, B, S0, _, [], rfl, hG4, fun t2 ht2 => ⟨_, _, dp_row ht, dp_row ht2, dRow_shaped _, dRow_shaped _, _, rfl, ?_⟩⟩⟩
      rw [dRow_eqv, decide_eq_true rfl]
      refine iteF ⟨.ref o, rfl, o, do4, _, rfl, eo4, o, B, _, [], rfl, hO4, rfl, _, rfl, ?_⟩
      refine iteF ⟨.ref g, rfl, g, dg, _, rfl, eg4, g, B, _, [], rfl, hG4, .int xs.length, rfl, rfl, _, rfl, ?_⟩
      rw [decide_eq_true (show V.int (((S0 ++ [runS B xs]).length : Int) - 1) = V.int (xs.length : Int) by rw [List.length_append, hS0]; congr 1; show ((xs.length + 1 : Nat) : Int) - 1 = _; omega)]
      refine iteF ?_
      refine ⟨.ref g, rfl, g, dg, _, rfl, eg4, look_no (by decide) (by decide) rfl, g, B, S0, xs, rfl, hG4, ok, hx, by omega, by omega, fun H5 S' s5 hG5 => ?_⟩
      have eo5 : H5 o = _ := s5 _ _ eo4 (Ne.symm hgo)
      have hO5 := s5.gateN eg4 TG.nG (Ne.symm hgo) hO4
      have hL5 := s5.limN eg4 TG.nG hL4
      have hT5 := s5.tupN (nt_ins eg4) hT4
      obtain ⟨fin, hfin⟩ : ∃ fin : List Int, xs ++ List.replicate (stop B xs - xs.length) 0 = fin := ⟨_, rfl⟩
      rw [hfin] at hG5
      have hsl : (fin.length : Int) = stop B xs := by rw [← hfin, List.length_append, List.length_replicate]; omega
      have hfs : fin.sum = xs.sum := by rw [← hfin, BM.sum_append, sum_replicate]; omega
      obtain ⟨dg5, limg5, ptg5, eg5, _⟩ := id hG5
      refine ⟨.ref g, rfl, g, dg5, _, rfl, eg5, g, B, S', _, [], rfl, hG5, fun t ht => ⟨.ref l, rfl, .ref r, rfl, l, r, B, xs, rfl, hL5, ok, hT5, hx, by omega, fun p H6 s6 hp => ⟨_, _, dp_row (sameT s6 ht), dp_row hp, dRow_shaped _, dRow_shaped _, _, rfl, ?_⟩⟩⟩
      rw [dRow_eqv, decide_eq_true rfl]
      have hG6 := hG5.same s6
      have eg6 := s6 _ _ eg5
      refine iteF ⟨.int ((stop B xs : Int) - xs.length), rfl, .ref g, rfl, g, dg5, _, rfl, eg6, g, B, S', _, [], rfl, hG6, _, rfl, ?_, ?_, .int xs.length, rfl, _, _, rfl, rfl, rfl, _, rfl, ?_⟩
      · omega
      · show (fin.length : Int) < 2 ^ 63
        omega
      rw [decide_eq_true (show V.int ((stop B xs : Int) - xs.length) = V.int ((fin.length : Int) - xs.length) by rw [hsl])]
      refine iteF ⟨.ref g, rfl, g, dg5, _, rfl, eg6, g, B, S', _, [], rfl, hG6, rfl, _, rfl, ?_⟩
      rw [decide_eq_true (show V.int (fin.sum - (passedL B xs).sum) = V.int 0 by rw [hfs, passed_sum ok.g hx, Int.sub_self])]
      refine iteF ?_
      have hL6 := hL5.same s6
      have eo6 := s6 _ _ eo5
      refine ⟨.ref l, rfl, .ref g, rfl, g, dg5, _, rfl, eg6, g, B, S', _, [], rfl, hG6, fun t ht => ⟨l, t, B, passedL B xs, rfl, hL6, ok, ht, passed_ok ok.g hx, by omega, fun p7 H7 s7 ⟨vs, hvs, ds, hds, hsh, heq⟩ => ?_⟩⟩
      refine ⟨by show 1 ≤ sizeLine; decide, fun z hz => ?_⟩
      have s8 := sameW (o := .tup [V.str "kept"]) hz
      refine ⟨_, _, .tup (sameT s8 hvs) (hds _), .tup (.inl (.inl upd_same)) (.cons (.str _) .nil), hsh, shK, _, rfl, ?_⟩
      rw [heq, passed_keeps ok.g hx]
      have s68 := s7.trans s8
      have hO8 := (hO5.same s6).same s68
      refine ⟨.ref o, rfl, o, do4, _, rfl, s68 _ _ eo6, o, B, [([], [])], runS B xs, [], rfl, hO8, fun c hc => ⟨.ref r, rfl, _, _, dp_row hc, dp_row (sameT (s6.trans s68) hT5), dRow_shaped _, dRow_shaped _, ?_⟩⟩
      rw [dRow_eqv, decide_eq_true (show (runS B xs).1 = xs by rw [hrs])]
      subst hfin
      exact q _ S' (Same.two (SameX.two (SameX.two' (fun b u e _ _ => s03 b u e) s4) s5) (s6.trans s68)) (hG6.same s68)
    · have hpos : (0 : Int) < xs.length := of_decide_eq_true hpos
      have hne : xs ≠ [] := fun e => by rw [e] at hpos; exact absurd hpos (by decide)
      have hwl := waiting_last ok.g hx hne
      refine ⟨.ref g, rfl, g, dg2, _, rfl, eg2, g, B, S0, _, [], rfl, hG2, .ref l, rfl, .ref r, rfl, l, r, B, xs, rfl, hL2, ok, hT2, hx, by omega, fun Hq sq Lq hLq => ⟨.int xs.length, rfl, _, _, rfl, rfl, Lq, _, ((xs.length - 1 : Nat) : Int), .int (xs.sum - R B xs xs.length), rfl, ?_, .inl (.inl upd_same), atI_nat (j := xs.length - 1) (by rw [List.getElem?_map, hwl]; rfl), rfl, _, rfl, ?_⟩⟩
      · show V.int ((xs.length : Int) - 1) = V.int ((xs.length - 1 : Nat) : Int)
        rw [show ((xs.length : Int) - 1) = ((xs.length - 1 : Nat) : Int) by omega]
      · rw [decide_eq_true (show V.int ((runS B xs).1.sum - (runS B xs).2.sum) = V.int (xs.sum - R B xs xs.length) by rw [hrs]; rfl)]
        exact hR _ (sq.trans (sameW (o := .lst ((waitingL B xs).map V.int)) hLq))
end
end B50

set_option Elab.async false
set_option linter.all false
set_option maxRecDepth 100000
set_option maxHeartbeats 8000000
/-! The law's look at a slow gate. -/
namespace B50
open PySem PySem.Spec PyProof.Rows L2 BX BM
section
variable {P : Program} {w : World} {K : PySem.W.Frag} {mg : Str → Option Value} {base : Heap} {CL : Addr} {F : GFn} {CG CB CP CT CFu CLa fG fB fP : Addr}
/-- a def without arguments -/
structure D00 (P : Program) (w : World) (K : PySem.W.Frag) (mg : Str → Option Value) (base : Heap) (x : Str) (k : Nat) (sp : Sp) : Prop where
  ex : ∃ f fd, FnOk P w K mg base (L2.CX P w) k f fd [] sp ∧ Binds K fd [] [] ∧ mg x = some (.ref f) ∧ PySem.W.keepIn K (.ref f) = true
theorem slow_ok : LimOk [(20, 1)] := by
  refine ⟨⟨fun p hp => ?_, by simp⟩, ?_, ?_⟩
  · have e : p = (20, 1) := by simpa using hp
    subst e; decide
  all_goals first | decide | simp
theorem slow_row : RowOk [58, 0, 2] := by
  refine ⟨fun a ha => ?_, by decide⟩
  have : a = 58 ∨ a = 0 ∨ a = 2 := by simpa using ha
  omega
def sp_slow : Sp := fun vs H Q _ => vs = [] ∧ ∀ H', Same H H' → Q (.bl true) H'
theorem d_slow (T : Txt K mg CL) (TG : TxtG P K mg CL F CG CB CP CT CFu CLa fG fB fP) : D00 P w K mg base "_law_slow_right" 11 sp_slow := by
  have nd : (["_law_limits_here", "_law_gate"] : List Str).Nodup := by decide +kernel
  obtain ⟨fs, fds, ps, mcs, FS, cr, cm⟩ := T.sgl
  obtain ⟨fi, fdi, FI0, MG⟩ := TG.gx.ini
  obtain ⟨fdt, FTh⟩ := TG.fs.through
  obtain ⟨pt, hpt⟩ := TG.gg.p_through
  obtain ⟨fru, fdru, FRu, MRu⟩ := TG.gx.run
  obtain ⟨frs, fdrs, FRs, MRs⟩ := TG.gx.rest
  obtain ⟨fln, fdln, FLn, LO⟩ := TG.gx.len
  obtain ⟨fdj, FJ⟩ := TG.gx.judge
  have FI := f_ginit (P := P) (w := w) (base := base) T TG.gg TG.nG FI0
  have FT := fun B => f_tick (P := P) (w := w) (base := base) T TG.gg TG.fs TG.nG (J := JG) (ext := []) B ((f_gjudge FJ [] B).mono (by decide)) rfl rfl (by decide)
  have FRUR := f_run (P := P) (w := w) (base := base) T TG.gg TG.fs TG.gx TG.t TG.nG TG.nT FRu
  have FRSR := f_rest (P := P) (w := w) (base := base) T TG.gg TG.fs TG.gx TG.nG FRs
  have FLNR := f_glen (P := P) (w := w) (base := base) T TG.gg TG.fs FLn
  obtain ⟨f, fd, GF, hm⟩ := TG.g_slow.ex
  refine ⟨f, fd, ?_, GF.binds (ps := []) (fun _ _ _ _ _ _ us hl => match us, hl with | [], _ => rfl), hm, GF.kp⟩
  refine okNk (N := ["_law_limits_here", "_law_gate"]) (ps := []) GF ⟨rfl, rfl, rfl, nd, rfl, by decide +kernel, by decide +kernel⟩ (fun vs H Q E h => ?_) (fun cdv A outer s H vs Q E hr h => ?_)
  · obtain ⟨rfl, _⟩ := h; rfl
  · obtain ⟨rfl, q⟩ := h
    refine' ⟨_, pss_cons ?s0 (pss_cons ?s1 (pss_cons (ps_expr ?s2) (pss_cons (ps_expr ?s3) (pss_one (ps_ret (pe_and ?t0 (pe_and ?t1 (pe_one ?t2)))))))), ?rd⟩
    case s0 => exact ps_set (i := 0) nd rfl (.inl rfl) (ClX.pe_cmeth (pe_glob (v := .ref CL) (by rfl) T.mgC rfl) cr cm (f_single T FS) (hr.mono (by decide)) passL (pa_cons pe_int (pa_cons pe_int pa_nil)))
    case s1 => exact ps_set (i := 1) nd rfl (.inl rfl) (StX.pe_makeR MG FI (hr.mono (by decide)) (by rfl) TG.mgG passL (pa_cons (pv 0) pa_nil))
    case s2 => exact pe_methR (pv 1) TG.gg.cl TG.gg.m_tick (FT [(20, 1)]) (hr.mono (by decide)) passL (pa_cons pe_int pa_nil)
    case s3 => exact pe_methR (pv 1) TG.gg.cl MRu FRUR (hr.mono (by decide)) passL (pa_cons pe_int (pa_cons pe_int pa_nil))
    case t0 => exact pe_cmpR op_eq (pe_meth0 (pv 1) TG.gg.cl MRs FRSR (hr.mono (by decide)) (FRs.binds (ps := ["self"]) fun _ _ _ _ _ _ us hl => match us, hl with | [_], _ => rfl) .nil passL) pe_int (nomark _)
    case t1 => exact pe_cmpR (op_eqD (units64 hr)) (pe_through (CL := CL) (k := 0) TG.gg FTh hpt (hr.mono (by decide)) (pv 1)) (pe_D (d_passed T) hr (by rfl) (pa_cons (pv 0) (pa_cons (pe_tup (pa_cons pe_int (pa_cons pe_int (pa_cons pe_int pa_nil)))) pa_nil))) (nomark _)
    case t2 => exact pe_cmpR op_eq (pe_callB (cr_lenOwn LO FLNR (hr.mono (by decide)) passL) (by rfl) T.z_len PySem.boot_len (pa_cons (pv 1) pa_nil)) pe_int (nomark _)
    have ok := slow_ok
    have hx := slow_row
    refine ⟨rfl, 20, 1, rfl, ok, fun l H1 s1 hL1 => ?_⟩
    refine ⟨.ref l, rfl, fun g dx nx ndx nex => ?_⟩
    have s2 : Same H1 (upd (upd H1 dx (.own g)) g (.ins CG dx [])) := sameU (sameW ndx) nx
    refine ⟨g, l, dx, [(20, 1)], rfl, upd_same, hL1.same s2, fun H2 s3 hG2 => ⟨rfl, ?_⟩⟩
    have s02 : Same H H2 := fun b o eb => s3 b o (s2 b o (s1 b o eb)) (ne_of_none (s1 b o eb) nx)
    have hL2 : LimAt K CL H2 l [(20, 1)] := s3.limN (C := CG) upd_same TG.nG (hL1.same s2)
    obtain ⟨dg2, lim2, pt2, eg2, _⟩ := id hG2
    refine ⟨.ref g, rfl, g, dg2, _, rfl, eg2, look_no (by decide) (by decide) rfl, ?_⟩
    refine ⟨g, 58, [], ([], []), rfl, hG2, ok, by decide, by decide, by decide, by decide, by decide, by decide, jok_step (xs := []) (a := 58) ok ⟨by simp, by decide⟩, fun _ v H3 s4 hG3 => ?_, fun hn => by cases hn⟩
    have hG3' : GateAt K CL CG H3 g [(20, 1)] ([([], [])] ++ [runS [(20, 1)] [58]]) [] := hG3
    have hL3 := s4.limN eg2 TG.nG hL2
    obtain ⟨dg3, lim3, pt3, eg3, _⟩ := id hG3'
    refine ⟨.ref g, rfl, g, dg3, _, rfl, eg3, look_no (by decide) (by decide) rfl, ?_⟩
    refine ⟨g, [(20, 1)], [([], [])], [58], [0, 2], rfl, hG3', ok, hx, by decide, by decide, fun H4 S' rr s5 hG4 hS' => ?_⟩
    have hG4' : GateAt K CL CG H4 g [(20, 1)] (S' ++ [runS [(20, 1)] [58, 0, 2]]) [] := hG4
    have hL4 := s5.limN eg3 TG.nG hL3
    have hS4 : S'.length ≤ 20000 := Nat.le_trans hS' (by decide)
    obtain ⟨dg4, lim4, pt4, eg4, _⟩ := id hG4'
    refine ⟨.ref g, rfl, g, dg4, _, rfl, eg4, look_no (by decide) (by decide) rfl, g, [(20, 1)], S', [58, 0, 2], rfl, hG4', ok, hx, by decide, hS4, fun H5 S5 s6 hG5 => ?_⟩
    have hL5 := s6.limN eg4 TG.nG hL4
    obtain ⟨fin, hfin⟩ : ∃ fin : List Int, [58, 0, 2] ++ List.replicate (stop [(20, 1)] [58, 0, 2] - ([58, 0, 2] : List Int).length) 0 = fin := ⟨_, rfl⟩
    rw [hfin] at hG5
    have hsl : (fin.length : Int) = 1181 := by rw [← hfin, slow_stop, List.length_append, List.length_replicate]; rfl
    clear hfin
    refine ⟨rfl, true, (by rw [slow_stop]; rfl), ?_⟩
    obtain ⟨dg5, lim5, pt5, eg5, _⟩ := id hG5
    refine ⟨.ref g, rfl, g, dg5, _, rfl, eg5, g, _, S5, _, [], rfl, hG5, fun t ht => ⟨.ref l, rfl, (by show 3 ≤ sizeLine; decide), fun z hz => ?_⟩⟩
    have s7 := sameW (o := .tup [V.int 58, V.int 0, V.int 2]) hz
    refine ⟨l, z, [(20, 1)], [58, 0, 2], rfl, hL5.same s7, ok, .inl (.inl upd_same), hx, by decide, fun p H6 s8 hp => ⟨_, _, dp_row (sameT (s7.trans s8) ht), dp_row hp, dRow_shaped _, dRow_shaped _, true, (by rw [dRow_eqv, decide_eq_true rfl]), ?_⟩⟩
    have s78 := s7.trans s8
    have hG6 := hG5.same s78
    refine ⟨.ref g, rfl, g, dg5, _, rfl, s78 _ _ eg5, g, _, S5, _, [], rfl, hG6, _, rfl, ?_, ?_, rfl, ?_⟩
    · show (0 : Int) ≤ fin.length
      omega
    · show (fin.length : Int) < 2 ^ 63
      omega
    · rw [decide_eq_true (show V.int (fin.length : Int) = V.int 1181 by rw [hsl])]
      refine q _ fun b u e => ?_
      have ng : b ≠ g := ne_of_none (s1 b u e) nx
      exact s78 _ _ (s6 _ _ (s5 _ _ (s4 _ _ (s02 b u e) ng) ng) ng)
end
end B50

set_option Elab.async false
set_option linter.all false
set_option maxRecDepth 100000
set_option maxHeartbeats 8000000
/-! One case of the law of gates and rows. -/
namespace B50
open PySem PySem.Spec PyProof.Rows L2 BX BM
def sp_right : Sp := fun vs H Q _ => ∃ p : Addr, vs = [.ref p] ∧ PenAt H p ∧ ∀ H', SameX p H H' → PenAt H' p → Q (.bl true) H'
/-- all that a gate has gone through -/
def pastS (B : List Pr) (zs : List Int) : List St2 := (List.range (zs.length + 1)).map fun j => runS B (zs.take j)
theorem pastS_nil (B : List Pr) : pastS B [] = [([], [])] := rfl
theorem pastS_last (B : List Pr) (zs : List Int) : ∃ S0, pastS B zs = S0 ++ [runS B zs] ∧ S0.length = zs.length := by
  refine ⟨(List.range zs.length).map fun j => runS B (zs.take j), ?_, by simp⟩
  unfold pastS
  rw [List.range_succ, List.map_append, List.map_singleton, List.take_length]
theorem pastS_snoc (B : List Pr) (zs : List Int) (a : Int) : pastS B (zs ++ [a]) = pastS B zs ++ [runS B (zs ++ [a])] := by
  unfold pastS
  rw [List.length_append, List.length_singleton, List.range_succ, List.map_append, List.map_singleton]
  congr 1
  · refine List.map_congr_left fun j hj => ?_
    have : j < zs.length + 1 := List.mem_range.mp hj
    rw [List.take_append_of_le_length (by omega)]
  · rw [List.take_of_length_le (by simp)]
theorem if_key {b : Bool} {A : Prop} {R : Hp → Prop} {H2 : Hp} (T : Hp → Prop) (hR : ∀ H3, T H3 → R H3) (k : (∀ H3, T H3 → R H3) → b = true → A) (h2 : b = false → T H2) : if b = true then A else R H2 := by
  cases b with
  | false => exact hR H2 (h2 rfl)
  | true => exact k hR rfl
theorem take_more {zs : List Int} {i : Nat} (h : i < zs.length) : zs.take (i + 1) = zs.take i ++ [zs[i]] := by
  rw [List.take_succ, List.getElem?_eq_getElem h]; rfl
theorem take_same {zs : List Int} {i : Nat} (h : ¬ i < zs.length) : zs.take (i + 1) = zs.take i := by
  rw [List.take_of_length_le (by omega), List.take_of_length_le (by omega)]
def S3 (p g o : Addr) (H H' : Hp) : Prop := ∀ b u, H b = some u → b ≠ p → b ≠ g → b ≠ o → H' b = some u
def sp_tickE (K : PySem.W.Frag) (CL C : Addr) : Sp := fun vs H Q E => ∃ B, sp_tick K CL C JG [] B vs H Q E
section
variable {P : Program} {w : World} {K : PySem.W.Frag} {mg : Str → Option Value} {base : Heap} {CL : Addr} {F : GFn} {CG CB CP CT CFu CLa fG fB fP : Addr}
theorem SameX2.lim {p q : Addr} {H H' : Hp} (s : SameX2 p q H H') {C1 C2 d1 d2 : Addr} {f1 f2 : List (Str × V)} (e1 : H p = some (.ins C1 d1 f1)) (e2 : H q = some (.ins C2 d2 f2)) (n1 : CL ≠ C1) (n2 : CL ≠ C2) {x : Addr} {PP : List Pr} (hL : LimAt K CL H x PP) : LimAt K CL H' x PP := by
  obtain ⟨dx, t, h1, as, h2, h3, h4⟩ := hL
  have T := fun {a xs} (h : SqT K H a xs) => s.tup (nt_ins e1) (nt_ins e2) h
  refine ⟨dx, t, s _ _ h1 (fun z => ?_) (fun z => ?_), as, T h2, h3, fun i a q x y => T (h4 i a q x y)⟩
  · rw [z, e1] at h1; cases h1; exact n1 rfl
  · rw [z, e2] at h1; cases h1; exact n2 rfl
theorem SameX2.gate {p q : Addr} {H H' : Hp} (s : SameX2 p q H H') {C C1 C2 d1 d2 : Addr} {f1 f2 : List (Str × V)} (e1 : H p = some (.ins C1 d1 f1)) (e2 : H q = some (.ins C2 d2 f2)) (n1 : CL ≠ C1) (n2 : CL ≠ C2) {g : Addr} (g1 : g ≠ p) (g2 : g ≠ q) {B : List Pr} {S : List St2} {ext : List (Str × V)} (h : GateAt K CL C H g B S ext) : GateAt K CL C H' g B S ext := by
  obtain ⟨dx, lim, pt, h1, h2, as, h3, h4, h5⟩ := h
  have T := fun {a xs} (h : SqT K H a xs) => s.tup (nt_ins e1) (nt_ins e2) h
  refine ⟨dx, lim, pt, s _ _ h1 g1 g2, s.lim e1 e2 n1 n2 h2, as, T h3, h4, fun i a z x y => ?_⟩
  obtain ⟨c, t, k1, k2, k3⟩ := h5 i a z x y
  exact ⟨c, t, T k1, T k2, T k3⟩
theorem fnR_ex {k : Nat} {f : Addr} {sp : List Pr → Sp} (h : ∀ B, FnR P w K mg base (L2.CX P w) k f (sp B)) : FnR P w K mg base (L2.CX P w) k f (fun vs H Q E => ∃ B, sp B vs H Q E) := by
  intro A outer s H us vs Q E hr e0 r ⟨B, hs⟩
  exact h B A outer s H us vs Q E hr e0 r hs
theorem d_right (T : Txt K mg CL) (TG : TxtG P K mg CL F CG CB CP CT CFu CLa fG fB fP) : D0 P w K mg base "_law_right" 14 sp_right := by
  have nd : (["_law_pen_here", "_law_limits_here", "_law_row_here", "_law_others", "_law_first", "_law_second", "_law_third", "_law_at", "_law_lap"] : List Str).Nodup := by decide +kernel
  obtain ⟨fi, fdi, FI0, MG⟩ := TG.gx.ini
  obtain ⟨fdc, FC⟩ := TG.fs.come
  obtain ⟨fdt, FTh⟩ := TG.fs.through
  obtain ⟨fdwt, FWt⟩ := TG.fs.waiting
  obtain ⟨pc, hpc⟩ := TG.gg.p_come
  obtain ⟨pt, hpt⟩ := TG.gg.p_through
  obtain ⟨pw, hpw⟩ := TG.gg.p_waiting
  obtain ⟨fun', fdun, FUn, MUn⟩ := TG.gx.undo
  obtain ⟨fdj, FJ⟩ := TG.gx.judge
  have FI := f_ginit (P := P) (w := w) (base := base) T TG.gg TG.nG FI0
  have FUN := f_undo (P := P) (w := w) (base := base) T TG.gg TG.nG FUn
  have FT := fnR_ex fun B => f_tick (P := P) (w := w) (base := base) T TG.gg TG.fs TG.nG (J := JG) (ext := []) B ((f_gjudge FJ [] B).mono (by decide)) rfl rfl (by decide)
  have FCall := fnR_ex fun B => f_call (P := P) (w := w) (base := base) T TG.gg TG.fs TG.nG (J := JG) (ext := []) B ((f_gjudge FJ [] B).mono (by decide)) rfl rfl rfl (by decide)
  have DB := d_bnd (P := P) (w := w) (base := base) T TG
  have DP := d_prm (P := P) (w := w) (base := base) T TG
  have DE := d_ends (P := P) (w := w) (base := base) T TG
  refine D0.ofN (N := ["_law_pen_here", "_law_limits_here", "_law_row_here", "_law_others", "_law_first", "_law_second", "_law_third", "_law_at", "_law_lap"]) (ps := ["_law_pen_here"]) T.g_right ⟨rfl, rfl, rfl, nd, rfl, by decide +kernel, by decide +kernel⟩ (fun vs H Q E h => ?_) (fun _ _ _ _ _ _ us hl => match us, hl with | [_], _ => rfl) (fun f cdv A outer s H vs Q E hr h => ?_)
  · obtain ⟨p, rfl, _⟩ := h; rfl
  · obtain ⟨p, rfl, hp, q⟩ := h
    refine' ⟨_, pss_cons ?s0 (pss_cons ?s1 (pss_cons ?s2 (pss_cons (ps_if (PW.pt (pw_or ?a0 (pw_or ?a1 (pw_or1 ?a2)))) (pss_one (ps_ret pe_bl)) pss_nil) (pss_cons ?s4 (pss_cons (ps_if (PW.pt (pw_or ?b0 (pw_or ?b1 (pw_or ?b2 (pw_or1 ?b3))))) (pss_one (ps_ret pe_bl)) pss_nil) (pss_one (ps_ret (pe_and ?c0 (pe_one ?c1))))))))), ?rd⟩
    case s0 => exact ps_par3 (i := 1) (j := 2) (l := 3) rfl nd rfl rfl rfl (by decide) (by decide) (by decide) rfl rfl rfl (pa_cons (pe_D (d_llim T) hr (by rfl) (pa_cons (pe_D (d_lpairs T) hr (by rfl) (pa_cons (pv 0) (pa_cons pe_int pa_nil))) pa_nil)) (pa_cons (pe_D (d_lrow T) hr (by rfl) (pa_cons (pv 0) (pa_cons pe_int pa_nil))) (pa_cons (pe_D (d_lrow T) hr (by rfl) (pa_cons (pv 0) (pa_cons pe_int pa_nil))) pa_nil))) (by rfl)
    case s1 => exact ps_par3 (i := 4) (j := 5) (l := 6) rfl nd rfl rfl rfl (by decide) (by decide) (by decide) rfl rfl rfl (pa_cons (StX.pe_makeR MG FI (hr.mono (by decide)) (by rfl) TG.mgG passL (pa_cons (pv 1) pa_nil)) (pa_cons (StX.pe_makeR MG FI (hr.mono (by decide)) (by rfl) TG.mgG passL (pa_cons (pv 1) pa_nil)) (pa_cons (StX.pe_makeR MG FI (hr.mono (by decide)) (by rfl) TG.mgG passL (pa_cons (pv 1) pa_nil)) pa_nil))) (by rfl)
    case s2 => exact ps_for PassesOwn.never rfl (pi_range1 (by rfl) T.z_range (pa_cons (pe_callB (call_max2 rfl) (by rfl) T.z_max (by decide +kernel) (pa_cons (pe_callB call_len_seq (by rfl) T.z_len PySem.boot_len (pa_cons (pv 2) pa_nil)) (pa_cons (pe_callB call_len_seq (by rfl) T.z_len PySem.boot_len (pa_cons (pv 3) pa_nil)) pa_nil))) pa_nil)) (pg_name (i := 7) nd rfl (.inl rfl))
                    (pss_cons (ps_if (pt_cmpR op_lt (pv 7) (pe_callB call_len_seq (by rfl) T.z_len PySem.boot_len (pa_cons (pv 2) pa_nil)) (nomark _)) (pss_one (ps_expr (pe_methR (pv 4) TG.gg.cl TG.gg.m_tick FT (hr.mono (by decide)) passL (pa_cons (pe_ix ix_tup (pv 2) (pv 7) (fun _ _ => rfl)) pa_nil)))) pss_nil)
                    (pss_one (ps_if (pt_cmpR op_lt (pv 7) (pe_callB call_len_seq (by rfl) T.z_len PySem.boot_len (pa_cons (pv 3) pa_nil)) (nomark _)) (pss_one (ps_expr (StX.pe_callO (pv 5) TG.gg.c_call FCall (hr.mono (by decide)) passL (pa_cons (pe_ix ix_tup (pv 3) (pv 7) (fun _ _ => rfl)) pa_nil)))) pss_nil)))
    case a0 => exact pt_cmpR (op_neD (units64 hr)) (pe_come (CL := CL) (k := 0) TG.gg FC hpc (hr.mono (by decide)) (pv 6)) (pe_tup pa_nil) (nomark _)
    case a1 => exact pt_cmpR (op_neD (units64 hr)) (pe_come (CL := CL) (k := 0) TG.gg FC hpc (hr.mono (by decide)) (pv 5)) (pv 3) (nomark _)
    case a2 => exact pt_not (pt_val (pe_D DE hr (by rfl) (pa_cons (pv 4) (pa_cons (pv 6) (pa_cons (pv 1) (pa_cons (pv 2) pa_nil))))))
    case s4 => exact ps_for PassesOwn.never rfl (pi_range1 (by rfl) T.z_range (pa_cons (pe_callB call_len_seq (by rfl) T.z_len PySem.boot_len (pa_cons (pv 3) pa_nil)) pa_nil)) (pg_name (i := 8) nd rfl (.inl rfl))
                    (pss_one (ps_expr (pe_meth0 (pv 5) TG.gg.cl MUn FUN (hr.mono (by decide)) (FUn.binds (ps := ["self"]) fun _ _ _ _ _ _ us hl => match us, hl with | [_], _ => rfl) .nil passL)))
    case b0 => exact pt_cmpR (op_neD (units64 hr)) (pe_come (CL := CL) (k := 0) TG.gg FC hpc (hr.mono (by decide)) (pv 5)) (pe_tup pa_nil) (nomark _)
    case b1 => exact pt_cmpR (op_neD (units64 hr)) (pe_through (CL := CL) (k := 0) TG.gg FTh hpt (hr.mono (by decide)) (pv 5)) (pe_tup pa_nil) (nomark _)
    case b2 => exact pt_cmpR op_ne (pe_gwaiting (CL := CL) (k := 0) T TG.gg TG.fs FWt hpw (hr.mono (by decide)) (pv 5)) pe_int (nomark _)
    case b3 => exact pt_cmpR (op_neD (units64 hr)) (pe_slice sl_tupA (pe_come (CL := CL) (k := 0) TG.gg FC hpc (hr.mono (by decide)) (pv 4)) po_none (po_some (pe_callB call_len_seq (by rfl) T.z_len PySem.boot_len (pa_cons (pv 2) pa_nil)))) (pv 2) (nomark _)
    case c0 => exact pe_D DB hr (by rfl) (pa_cons (pv 1) (pa_cons (pv 2) (pa_cons (pe_D (d_draw T) hr (by rfl) (pa_cons (pv 0) (pa_cons pe_int pa_nil))) pa_nil)))
    case c1 => exact pe_D DP hr (by rfl) (pa_cons (pv 1) (pa_cons (pv 2) (pa_cons (pe_D (d_draw T) hr (by rfl) (pa_cons (pv 0) (pa_cons pe_int pa_nil))) pa_nil)))
    -- the draws
    refine ⟨.ref p, rfl, p, 4, rfl, hp, by decide, by decide, fun D1 H1 B0 s1 hp1 hD1 hB1 gd1 nd1 l1 => ?_⟩
    refine ⟨D1, B0, rfl, hB1, gd1, by omega, fun l H2 B s2 hL2 ok n2 => ?_⟩
    have hp2 := hp1.same s2
    refine ⟨.ref p, rfl, p, 12, rfl, hp2, by decide, by decide, fun r H3 xs s3 hp3 hT3 hx hz => ?_⟩
    refine ⟨.ref p, rfl, p, 12, rfl, hp3, by decide, by decide, fun r2 H4 ys s4 hp4 hT4 hy hz2 => ⟨_, _, _, rfl, ?_⟩⟩
    have s04 : SameX p H H4 := ((s1.trans (Same.x s2)).trans s3).trans s4
    have hL4 := s4.lim hp3 (s3.lim hp2 hL2)
    have hT4' := s4.tup hp3 hT3
    -- the first gate
    refine ⟨.ref l, rfl, fun g dx nx ndx nex => ?_⟩
    have t1 : Same H4 (upd (upd H4 dx (.own g)) g (.ins CG dx [])) := sameU (sameW ndx) nx
    refine ⟨g, l, dx, B, rfl, upd_same, hL4.same t1, fun H5 t2 hG5 => ⟨rfl, ?_⟩⟩
    have u5 : Same H4 H5 := fun b u e => t2 b u (t1 b u e) (ne_of_none e nx)
    have hL5 := hL4.same u5
    obtain ⟨dg5, lim5, pt5, eg5, _⟩ := id hG5
    -- the second gate
    refine ⟨.ref l, rfl, fun g2 dx2 nx2 ndx2 nex2 => ?_⟩
    have t3 : Same H5 (upd (upd H5 dx2 (.own g2)) g2 (.ins CG dx2 [])) := sameU (sameW ndx2) nx2
    refine ⟨g2, l, dx2, B, rfl, upd_same, hL5.same t3, fun H6 t4 hG6 => ⟨rfl, ?_⟩⟩
    have u6 : Same H5 H6 := fun b u e => t4 b u (t3 b u e) (ne_of_none e nx2)
    have hL6 := hL5.same u6
    obtain ⟨dg6, lim6, pt6, eg6, _⟩ := id hG6
    have n12 : g ≠ g2 := ne_of_none eg5 nx2
    -- the third gate
    refine ⟨.ref l, rfl, fun g3 dx3 nx3 ndx3 nex3 => ?_⟩
    have t5 : Same H6 (upd (upd H6 dx3 (.own g3)) g3 (.ins CG dx3 [])) := sameU (sameW ndx3) nx3
    refine ⟨g3, l, dx3, B, rfl, upd_same, hL6.same t5, fun H7 t6 hG7 => ⟨rfl, ⟨_, _, _, rfl, ?_⟩⟩⟩
    have u7 : Same H6 H7 := fun b u e => t6 b u (t5 b u e) (ne_of_none e nx3)
    have n13 : g ≠ g3 := ne_of_none (u6 _ _ eg5) nx3
    have n23 : g2 ≠ g3 := ne_of_none eg6 nx3
    have u47 := (u5.trans u6).trans u7
    have hp7 := hp4.same u47
    have hG7a := (hG5.same u6).same u7
    have hG7b := hG6.same u7
    have hL7 := hL6.same u7
    have hT7 := sameT u47 hT4'
    have hU7 := sameT u47 hT4
    have s07 : SameX p H H7 := s04.trans (Same.x u47)
    have hTl : (xs.map V.int).length = xs.length := List.length_map ..
    have hUl : (ys.map V.int).length = ys.length := List.length_map ..
    refine ⟨.ref r, rfl, r, _, rfl, .inr hT7, .ref r2, rfl, r2, _, rfl, .inr hU7, _, _, rfl, _, rfl, ?_, ?_, ?_⟩
    · split <;> omega
    · split <;> omega
    refine for_it walk_range (fun i σ H8 => (∃ y7 y8, σ = [some (.ref p), some (.ref l), some (.ref r), some (.ref r2), some (.ref g), some (.ref g2), some (.ref g3), y7, y8]) ∧ SameX2 g g2 H7 H8 ∧ GateAt K CL CG H8 g B (pastS B (xs.take i)) [] ∧ GateAt K CL CG H8 g2 B (pastS B (ys.take i)) [] ∧ GateAt K CL CG H8 g3 B [([], [])] [] ∧ LimAt K CL H8 l B) ⟨⟨_, _, rfl⟩, fun _ _ e _ _ => e, hG7a, hG7b, hG7, hL7⟩ (fun _ _ _ _ _ => trivial) (fun i v σ H8o H8 hi pvi y => ?_) (fun σ H8 pvn => ?_)
    · obtain ⟨⟨y7, y8, rfl⟩, s8, hg, hg2, hg3, hl⟩ := pvi
      obtain ⟨rfl, rfl⟩ := y
      have e7a := u7 _ _ (u6 _ _ eg5)
      have e7b := u7 _ _ eg6
      have hT8 := s8.tup (nt_ins e7a) (nt_ins e7b) hT7
      have hU8 := s8.tup (nt_ins e7a) (nt_ins e7b) hU7
      obtain ⟨dg8, lim8, pt8, eg8, _⟩ := id hg
      refine ⟨.int (0 + i), rfl, .ref r, rfl, r, _, rfl, .inr hT8, _, _, rfl, rfl, _, rfl, ?_⟩
      have ez : (0 : Int) + i = i := Int.zero_add _
      rw [ez]
      refine if_key (fun H9 => SameX2 g g2 H7 H9 ∧ GateAt K CL CG H9 g B (pastS B (xs.take (i + 1))) [] ∧ GateAt K CL CG H9 g2 B (pastS B (ys.take i)) [] ∧ GateAt K CL CG H9 g3 B [([], [])] [] ∧ LimAt K CL H9 l B) (fun H9 ⟨s9, hg9, hg92, hg93, hl9⟩ => ?_) (fun hR hb => ?_) (fun hb => ?_)
      · obtain ⟨dg9, lim9, pt9, eg9, _⟩ := id hg92
        have hU9 := s9.tup (nt_ins e7a) (nt_ins e7b) hU7
        refine ⟨.int (0 + i), rfl, .ref r2, rfl, r2, _, rfl, .inr hU9, _, _, rfl, rfl, _, rfl, ?_⟩
        rw [ez]
        refine if_key _ (fun H3 h => h) (fun _ hb => ?_) (fun hb => ?_)
        · have hix : i < ys.length := by have := of_decide_eq_true hb; omega
          obtain ⟨S0, hS0, hS0l⟩ := pastS_last B (ys.take i)
          have hrow : RowOk (ys.take i ++ [ys[i]]) := by rw [← take_more hix]; exact row_take hy _
          have hg' := hg92
          rw [hS0] at hg'
          have h0 := hy.1 ys[i] (List.getElem_mem hix)
          have hsum := hrow.2
          rw [BM.sum_append, show ([ys[i]] : List Int).sum = ys[i] by simp] at hsum
          have hts := BM.sum_nonneg (fun a h => hrow.1 a (List.mem_append_left _ h))
          have htl : (ys.take i).length ≤ 12 := by rw [List.length_take]; omega
          refine ⟨.ref g2, rfl, g2, rfl, .ref r2, rfl, .int (0 + i), rfl, r2, _, ((0 : Int) + i), .int ys[i], rfl, rfl, hU9, (by rw [ez]; exact atI_nat (j := i) (by rw [List.getElem?_map, List.getElem?_eq_getElem hix]; rfl)), .inr ⟨dg9, _, eg9⟩, ?_⟩
          refine ⟨B, g2, ys[i], S0, runS B (ys.take i), rfl, hg', ok, h0, by omega, ?_, ?_, ?_, by omega, jok_step ok hrow, fun _ v H10 s10 hg10 => ?_, fun hn => by cases hn⟩
          · rw [runS_eq]; exact hsum
          · rw [runS_eq]; show (ys.take i).length ≤ _; omega
          · rw [runS_eq]; show (thr _ _ _).length ≤ _; rw [thr_len]; omega
          · exact ⟨⟨_, _, rfl⟩, SameX.two' s9 s10, s10.gateN eg9 TG.nG n12 hg9, by rw [take_more hix, pastS_snoc, hS0, runS_snoc]; exact hg10, s10.gateN eg9 TG.nG (Ne.symm n23) hg93, s10.limN eg9 TG.nG hl9⟩
        · have hix : ¬ i < ys.length := by have := of_decide_eq_false hb; omega
          exact ⟨⟨_, _, rfl⟩, s9, hg9, by rw [take_same hix]; exact hg92, hg93, hl9⟩
      · have hix : i < xs.length := by have := of_decide_eq_true hb; omega
        obtain ⟨S0, hS0, hS0l⟩ := pastS_last B (xs.take i)
        have hrow : RowOk (xs.take i ++ [xs[i]]) := by rw [← take_more hix]; exact row_take hx _
        have hg' := hg
        rw [hS0] at hg'
        have h0 := hx.1 xs[i] (List.getElem_mem hix)
        have hsum := hrow.2
        rw [BM.sum_append, show ([xs[i]] : List Int).sum = xs[i] by simp] at hsum
        have hts := BM.sum_nonneg (fun a h => hrow.1 a (List.mem_append_left _ h))
        have htl : (xs.take i).length ≤ 12 := by rw [List.length_take]; omega
        refine ⟨.ref g, rfl, g, dg8, _, rfl, eg8, look_no (by decide) (by decide) rfl, .ref r, rfl, .int (0 + i), rfl, r, _, ((0 : Int) + i), .int xs[i], rfl, rfl, hT8, (by rw [ez]; exact atI_nat (j := i) (by rw [List.getElem?_map, List.getElem?_eq_getElem hix]; rfl)), ?_⟩
        refine ⟨B, g, xs[i], S0, runS B (xs.take i), rfl, hg', ok, h0, by omega, ?_, ?_, ?_, by omega, jok_step ok hrow, fun _ v H9 s9 hg9 => ?_, fun hn => by cases hn⟩
        · rw [runS_eq]; exact hsum
        · rw [runS_eq]; show (xs.take i).length ≤ _; omega
        · rw [runS_eq]; show (thr _ _ _).length ≤ _; rw [thr_len]; omega
        · exact hR H9 ⟨SameX.two s8 s9, by rw [take_more hix, pastS_snoc, hS0, runS_snoc]; exact hg9, s9.gateN eg8 TG.nG (Ne.symm n12) hg2, s9.gateN eg8 TG.nG (Ne.symm n13) hg3, s9.limN eg8 TG.nG hl⟩
      · have hix : ¬ i < xs.length := by have := of_decide_eq_false hb; omega
        exact ⟨s8, by rw [take_same hix]; exact hg, hg2, hg3, hl⟩
    · obtain ⟨⟨y7, y8, rfl⟩, s8, hg, hg2, hg3, hl⟩ := pvn
      rw [List.take_of_length_le (by split <;> omega)] at hg hg2
      have e7a := u7 _ _ (u6 _ _ eg5)
      have e7b := u7 _ _ eg6
      have hT8 := s8.tup (nt_ins e7a) (nt_ins e7b) hT7
      have hU8 := s8.tup (nt_ins e7a) (nt_ins e7b) hU7
      obtain ⟨dg8, lim8, pt8, eg8, _⟩ := id hg
      obtain ⟨dh8, limh8, pth8, eh8, _⟩ := id hg2
      obtain ⟨di8, limi8, pti8, ei8, _⟩ := id hg3
      obtain ⟨S1, hS1, hS1l⟩ := pastS_last B xs
      obtain ⟨S2, hS2, hS2l⟩ := pastS_last B ys
      rw [hS1] at hg
      have hg2' := hg2
      rw [hS2] at hg2'
      refine ⟨.ref g3, rfl, g3, di8, _, rfl, ei8, g3, B, [], ([], []), [], rfl, hg3, fun c hc => ⟨by show 0 ≤ sizeLine; decide, fun z hz => ?_⟩⟩
      have s9 := sameW (o := .tup ([] : List V)) hz
      refine ⟨_, _, dp_row (sameT s9 hc), dp_row (xs := []) (.inl (.inl upd_same)), dRow_shaped _, dRow_shaped _, _, rfl, ?_⟩
      rw [dRow_eqv, decide_eq_true rfl]
      have hga := hg.same s9
      have hgb := hg2'.same s9
      refine iteF ⟨.ref g2, rfl, g2, dh8, _, rfl, s9 _ _ eh8, g2, B, S2, runS B ys, [], rfl, hgb, fun c2 hc2 => ⟨.ref r2, rfl, _, _, dp_row hc2, dp_row (sameT s9 hU8), dRow_shaped _, dRow_shaped _, _, rfl, ?_⟩⟩
      rw [dRow_eqv, decide_eq_true (show (runS B ys).1 = ys by rw [runS_eq])]
      refine iteF ⟨.ref g, rfl, .ref g3, rfl, .ref l, rfl, .ref r, rfl, g, g3, l, r, B, S1, xs, rfl, n13, hl.same s9, ok, sameT s9 hT8, hx, by omega, hga, hS1l, hg3.same s9, fun H9 S' s10 hg9 => ?_⟩
      have ei9 := s9 _ _ ei8
      have eg9 := s9 _ _ eg8
      have hgb9 := s10.gate eg9 ei9 TG.nG TG.nG (Ne.symm n12) n23 (hg2.same s9)
      have hl9 := s10.lim eg9 ei9 TG.nG TG.nG (hl.same s9)
      have hT9 := s10.tup (nt_ins eg9) (nt_ins ei9) (sameT s9 hT8)
      have hU9 := s10.tup (nt_ins eg9) (nt_ins ei9) (sameT s9 hU8)
      refine ⟨true, rfl, iteF ?_⟩
      refine ⟨.ref r2, rfl, r2, _, rfl, .inr hU9, _, rfl, ?_, ?_, ?_⟩
      · exact Int.natCast_nonneg _
      · rw [hUl]; omega
      refine for_it walk_range (fun i σ H10 => (∃ y7 y8, σ = [some (.ref p), some (.ref l), some (.ref r), some (.ref r2), some (.ref g), some (.ref g2), some (.ref g3), y7, y8]) ∧ SameX g2 H9 H10 ∧ GateAt K CL CG H10 g2 B (pastS B (ys.take (ys.length - i))) []) ⟨⟨_, _, rfl⟩, SameX.refl _ _, by rw [Nat.sub_zero, List.take_length]; exact hgb9⟩ (fun _ _ _ _ _ => trivial) (fun i v σ H10o H10 hi pvi y => ?_) (fun σ H10 pvn => ?_)
      · obtain ⟨⟨y7, y8, rfl⟩, sA, hgA⟩ := pvi
        obtain ⟨rfl, rfl⟩ := y
        have hiy : i < ys.length := by rw [hUl] at hi; omega
        obtain ⟨j, hj⟩ : ∃ j, ys.length - i = j + 1 := ⟨ys.length - i - 1, by omega⟩
        obtain ⟨S0, hS0, _⟩ := pastS_last B (ys.take j)
        have hjy : j < ys.length := by omega
        rw [hj, take_more hjy, pastS_snoc, hS0] at hgA
        obtain ⟨dhA, limhA, pthA, ehA, _⟩ := id hgA
        refine ⟨.ref g2, rfl, g2, dhA, _, rfl, ehA, look_no (by decide) (by decide) rfl, g2, B, S0, runS B (ys.take j), _, rfl, hgA, fun H11 sB hgB => ⟨⟨_, _, rfl⟩, sA.trans sB, ?_⟩⟩
        rw [show ys.length - (i + 1) = j by omega, hS0]
        exact hgB
      · obtain ⟨⟨y7, y8, rfl⟩, sA, hgA⟩ := pvn
        rw [show ys.length - (((ys.map V.int).length : Int)).toNat = 0 by rw [hUl]; omega, List.take_zero] at hgA
        have hgA' : GateAt K CL CG H10 g2 B ([] ++ [([], [])]) [] := hgA
        obtain ⟨dgA, limA, ptA, egA, _⟩ := id hgA'
        have eh9 : ∃ dh lim pt, H9 g2 = some (.ins CG dh ((("base" : Str), V.ref lim) :: (("past" : Str), V.ref pt) :: [])) := by
          obtain ⟨a1, a2, a3, a4, _⟩ := hgb9
          exact ⟨a1, a2, a3, a4⟩
        obtain ⟨dh9, limh9, pth9, eh9⟩ := eh9
        have hg10 := sA.gateN eh9 TG.nG n12 hg9
        have hl10 := sA.limN eh9 TG.nG hl9
        have hT10 := sA.tupN (nt_ins eh9) hT9
        obtain ⟨dx10, limx10, ptx10, ex10, _⟩ := id hg10
        have np1 : p ≠ g := (pen_ne hp4 nx).symm
        have np2 : p ≠ g2 := (pen_ne (hp4.same u5) nx2).symm
        have np3 : p ≠ g3 := (pen_ne ((hp4.same u5).same u6) nx3).symm
        have hp10 : PenAt H10 p := by
          obtain ⟨a1, a2, a3, a4⟩ := hp7
          exact ⟨a1, a2, a3, sA _ _ (s10 _ _ (s9 _ _ (s8 _ _ a4 np1 np2)) np1 np3) np2⟩
        have s710 : S3 g g2 g3 H7 H10 := fun b u e m1 m2 m3 => sA _ _ (s10 _ _ (s9 _ _ (s8 _ _ e m1 m2)) m1 m3) m2
        -- nothing has come
        refine ⟨.ref g2, rfl, g2, dgA, _, rfl, egA, g2, B, [], ([], []), [], rfl, hgA', fun c hc => ⟨by show 0 ≤ sizeLine; decide, fun z hz => ?_⟩⟩
        have w1 := sameW (o := .tup ([] : List V)) hz
        refine ⟨_, _, dp_row (sameT w1 hc), dp_row (xs := []) (.inl (.inl upd_same)), dRow_shaped _, dRow_shaped _, _, rfl, ?_⟩
        rw [dRow_eqv, decide_eq_true rfl]
        refine iteF ⟨.ref g2, rfl, g2, dgA, _, rfl, w1 _ _ egA, g2, B, [], ([], []), [], rfl, hgA'.same w1, fun c2 hc2 => ⟨by show 0 ≤ sizeLine; decide, fun z2 hz2 => ?_⟩⟩
        have w2 := w1.trans (sameW (o := .tup ([] : List V)) hz2)
        refine ⟨_, _, dp_row (sameT (sameW (o := .tup ([] : List V)) hz2) hc2), dp_row (xs := []) (.inl (.inl upd_same)), dRow_shaped _, dRow_shaped _, _, rfl, ?_⟩
        rw [dRow_eqv, decide_eq_true rfl]
        refine iteF ⟨.ref g2, rfl, g2, dgA, _, rfl, w2 _ _ egA, g2, B, [], ([], []), [], rfl, hgA'.same w2, rfl, _, rfl, ?_⟩
        rw [decide_eq_true (show V.int ((([], []) : St2).1.sum - (([], []) : St2).2.sum) = V.int 0 from rfl)]
        -- the first gate's come
        refine iteF ⟨.ref g, rfl, g, dx10, _, rfl, w2 _ _ ex10, g, B, S', _, [], rfl, hg10.same w2, fun c3 hc3 => ⟨.ref r, rfl, r, _, rfl, .inr (sameT w2 hT10), _, rfl, ?_⟩⟩
        refine slA_to hc3 fun p3 H11 s11 hp3' => ?_
        have e3 : SqT K H11 p3 (xs.map V.int) := by
          rw [hTl, cutV_0n, ← List.map_take] at hp3'
          have z : ((xs ++ List.replicate (stop B xs - xs.length) 0, passedL B xs) : St2).1.take xs.length = xs := List.take_left ..
          rw [z] at hp3'
          exact hp3'
        have w3 := w2.trans s11
        refine ⟨.ref r, rfl, _, _, dp_row e3, dp_row (sameT w3 hT10), dRow_shaped _, dRow_shaped _, _, rfl, ?_⟩
        rw [dRow_eqv, decide_eq_true rfl]
        refine iteF ?_
        -- a Bounded, a Prompt
        have hp11 := hp10.same w3
        refine ⟨.ref l, rfl, .ref r, rfl, .ref p, rfl, p, 12, rfl, hp11, by decide, by decide, fun k H12 k0 k1 s12 hp12 => ?_⟩
        have hL12 := s12.lim hp11 (hl10.same w3)
        have hT12 := s12.tup hp11 (sameT w3 hT10)
        refine ⟨l, r, B, xs, k, rfl, hL12, ok, hT12, hx, by omega, k0, by omega, fun H13 s13 => ⟨true, rfl, iteT ?_⟩⟩
        have hp13 := hp12.same s13
        refine ⟨.ref l, rfl, .ref r, rfl, .ref p, rfl, p, 12, rfl, hp13, by decide, by decide, fun k' H14 k2 k3 s14 hp14 => ?_⟩
        refine ⟨l, r, B, xs, k', rfl, s14.lim hp13 (hL12.same s13), ok, s14.tup hp13 (sameT s13 hT12), hx, by omega, k2, by omega, fun H15 s15 => q H15 (fun b u e n => ?_) (hp14.same s15)⟩
        have b4 := s04 b u e n
        have b5 := u5 _ _ b4
        have b6 := u6 _ _ b5
        exact s15 _ _ (s14 _ _ (s13 _ _ (s12 _ _ (w3 _ _ (s710 _ _ (u7 _ _ b6) (ne_of_none b4 nx) (ne_of_none b5 nx2) (ne_of_none b6 nx3))) n)) n)
end
end B50

set_option Elab.async false
set_option linter.all false
set_option maxRecDepth 100000
set_option maxHeartbeats 8000000
/-! The law of gates and rows. -/
namespace B50
open PySem PySem.Spec PyProof.Rows L2 BX BM
theorem SameX.sqL {K : PySem.W.Frag} {p a : Addr} {H H' : Hp} (s : SameX p H H') (n : a ≠ p) {xs : List V} (h : SqL K H a xs) : SqL K H' a xs := by
  rcases h with (z | ⟨o, z⟩) | z
  · exact .inl (.inl (s _ _ z n))
  · exact .inl (.inr ⟨o, s _ _ z n⟩)
  · exact .inr z
section
variable {P : Program} {w : World} {K : PySem.W.Frag} {mg : Str → Option Value} {base : Heap} {CL : Addr} {F : GFn} {CG CB CP CT CFu CLa fG fB fP : Addr}
def sp_law (K : PySem.W.Frag) : Sp := fun vs H Q _ => ∃ (a : Addr) (ns : List Int), vs = [.ref a] ∧ SqL K H a (ns.map V.int) ∧ ns.length ≤ 1000 ∧ ∀ H', Q (.bl true) H'
theorem ok_law (T : Txt K mg CL) (TG : TxtG P K mg CL F CG CB CP CT CFu CLa fG fB fP) {f : Addr} {fd : FuncData} (FF : Fun K "law" "law" sLaw f fd) : FnOk P w K mg base (L2.CX P w) 15 f fd ["_law_script"] (sp_law K) := by
  have nd : (["_law_script", "_law_k", "_law_pen_here", "_law_lap"] : List Str).Nodup := by decide +kernel
  have S : FnScope ["_law_script", "_law_k", "_law_pen_here", "_law_lap"] ["_law_script"] (defScope sLaw) := ⟨rfl, rfl, rfl, nd, rfl, by decide +kernel, by decide +kernel⟩
  obtain ⟨fsl, fdsl, FSL, BSL, MSL, KSL⟩ := (d_slow (P := P) (w := w) (base := base) T TG).ex
  have DR := d_right (P := P) (w := w) (base := base) T TG
  refine FF.okX S (fun vs H Q E h => ?_) fun cdv A outer s H vs Q E hr h => ?_
  · obtain ⟨a, ns, rfl, _⟩ := h; rfl
  · obtain ⟨a, ns, rfl, hS, hlen, q⟩ := h
    have hin : (∃ o, H a = some o) ∨ ∀ H' : Hp, SqL K H' a (ns.map V.int) := by
      rcases hS with (z | ⟨o, z⟩) | z
      · exact .inl ⟨_, z⟩
      · exact .inl ⟨_, z⟩
      · exact .inr fun _ => .inr z
    have hln : (ns.map V.int).length = ns.length := List.length_map ..
    refine ⟨_, PSs.nox (pss_cons (ps_for PassesOwn.never rfl (pi_range1 (by rfl) T.z_range (pa_cons (pe_callB (call_max2 rfl) (by rfl) T.z_max (by decide +kernel) (pa_cons pe_int (pa_cons (pe_callB (call_min2 rfl) (by rfl) T.z_min (by decide +kernel) (pa_cons (pe_callB call_len_seq (by rfl) T.z_len PySem.boot_len (pa_cons (pv 0) pa_nil)) (pa_cons pe_int pa_nil))) pa_nil))) pa_nil)) (pg_name (i := 1) nd rfl (.inl rfl))
        (pss_cons (ps_set (i := 2) nd rfl (.inl rfl) (pe_D (d_pen T) hr (by rfl) (pa_cons (pe_D (d_cell T) hr (by rfl) (pa_cons (pv 0) (pa_cons (pv 1) pa_nil))) pa_nil)))
        (pss_cons (ps_if (PW.pt (pw_and (pt_cmpR op_eq (pv 1) pe_int (nomark _)) (pw_and1 (pt_not (pt_val (pe_call0 FSL (hr.mono (by decide)) (by rfl) MSL KSL BSL .nil passL)))))) (pss_one (ps_ret pe_bl)) pss_nil)
        (pss_one (ps_for PassesOwn.never rfl (pi_range1 (by rfl) T.z_range (pa_cons pe_int pa_nil)) (pg_name (i := 3) nd rfl (.inl rfl))
          (pss_one (ps_if (pt_not (pt_val (pe_D DR hr (by rfl) (pa_cons (pv 2) pa_nil)))) (pss_one (ps_ret pe_bl)) pss_nil)))))))
      (pss_one (ps_ret pe_bl))), ?_⟩
    refine ⟨.ref a, rfl, a, _, rfl, .inl hS, _, _, rfl, _, _, rfl, _, rfl, ?_, ?_, ?_⟩
    · split <;> split <;> omega
    · split <;> split <;> omega
    refine for_it walk_range (fun i σ H2 => (∃ y1 y2 y3, σ = [some (.ref a), y1, y2, y3]) ∧ SqL K H2 a (ns.map V.int) ∧ ((∃ o, H2 a = some o) ∨ ∀ H' : Hp, SqL K H' a (ns.map V.int))) ⟨⟨_, _, _, rfl⟩, hS, hin⟩ (fun _ _ _ _ _ => trivial) (fun i x σ H2o H2 hi pvi y => ?_) (fun σ H2 pvn => ?_)
    · obtain ⟨⟨y1, y2, y3, rfl⟩, hS2, hin2⟩ := pvi
      obtain ⟨rfl, rfl⟩ := y
      refine ⟨.ref a, rfl, .int ((0 : Int) + i), rfl, a, ns, i, by rw [Int.zero_add], hS2, fun v => ⟨v, rfl, fun p H3 s3 np hp => ?_⟩⟩
      refine ⟨.int ((0 : Int) + i), rfl, rfl, _, rfl, if_key (fun H4 => Same H3 H4) (fun H4 s4 => iteF ?_) (fun hR _ => ?_) (fun _ => Same.refl _)⟩
      · refine ⟨3, rfl, by decide, by decide, ?_⟩
        refine for_it walk_range (fun i σ H5 => (∃ y1 y3, σ = [some (.ref a), y1, some (.ref p), y3]) ∧ SameX p H4 H5 ∧ PenAt H5 p) ⟨⟨_, _, rfl⟩, SameX.refl _ _, hp.same s4⟩ (fun _ _ _ _ _ => trivial) (fun j x σ H5o H5 hj pvj y => ?_) (fun σ H5 pvj => ?_)
        · obtain ⟨⟨y1, y3, rfl⟩, s5, hp5⟩ := pvj
          obtain ⟨rfl, rfl⟩ := y
          exact ⟨.ref p, rfl, p, rfl, hp5, fun H6 s6 hp6 => ⟨true, rfl, iteF ⟨⟨_, _, rfl⟩, s5.trans s6, hp6⟩⟩⟩
        · obtain ⟨⟨y1, y3, rfl⟩, s5, hp5⟩ := pvj
          have s24 := (Same.x (s3.trans s4)).trans s5
          rcases hin2 with ⟨o2, ho2⟩ | hall
          · have nap : a ≠ p := fun e => by rw [e, np] at ho2; cases ho2
            exact ⟨⟨_, _, _, rfl⟩, s24.sqL nap hS2, .inl ⟨o2, s24 _ _ ho2 nap⟩⟩
          · exact ⟨⟨_, _, _, rfl⟩, hall _, .inr hall⟩
      · exact ⟨rfl, fun H4 s4 => ⟨true, rfl, iteF (hR H4 s4)⟩⟩
    · exact q H2
end
end B50

set_option Elab.async false
set_option linter.all false
set_option maxRecDepth 100000
set_option maxHeartbeats 4000000
/-! What the top leaves of the classes of gates, as tests of the heap. -/
namespace B50
open PySem PySem.Spec PyProof.Rows L2 BX BM
section
variable {K : PySem.W.Frag} {C D CG : Addr} {m : Str}
theorem inAll {l : List Bool} (h : l.all id = true) (i : Nat) {b : Bool} (e : l[i]? = some b) : b = true := List.all_eq_true.mp h b (List.mem_of_getElem? e)
def eqV (a b : Option Value) : Bool := decide (a = b)
theorem eqV_ok {a b : Option Value} (h : eqV a b = true) : a = b := of_decide_eq_true h
/-! ### properties, methods, makers -/
def hasGet (K : PySem.W.Frag) (p : Addr) : Bool := match PySem.W.recIn K p "property" with
  | some (.ref _ :: _) => true
  | _ => false
def propB (K : PySem.W.Frag) (C : Addr) (m : Str) : List Bool := [He.eqO (PySem.W.findIn K (.ref C) m) (some (some (.ref (He.ma K C m)))), He.eqO (PySem.W.specialIn K (.ref (He.ma K C m)) "__get__") (some (some (.builtin "property.__get__"))), decide (PySem.W.takesIn K (.ref (He.ma K C m)) = some true), hasGet K (He.ma K C m)]
theorem hasGet_ok {C : Addr} {m : Str} (h : hasGet K (He.ma K C m) = true) : ∃ rest, PySem.W.recIn K (He.ma K C m) "property" = some (.ref (He5.wf K C "property" m) :: rest) := by
  unfold He5.wf
  unfold hasGet at h
  split at h
  · rename_i f r e
    exact ⟨r, by rw [e]⟩
  · cases h
theorem propB_ok (h : (propB K C m).all id = true) : PropOf K C m (He.ma K C m) (He5.wf K C "property" m) :=
  ⟨He.eqO_ok (inAll h 0 rfl), He.eqO_ok (inAll h 1 rfl), of_decide_eq_true (inAll h 2 rfl), hasGet_ok (inAll h 3 rfl)⟩
/-- a property's setter -/
def ws (K : PySem.W.Frag) (C : Addr) (m : Str) : Addr := match PySem.W.recIn K (He.ma K C m) "property" with
  | some (_ :: .ref g :: _) => g
  | _ => 0
def hasSet (K : PySem.W.Frag) (p : Addr) : Bool := match PySem.W.recIn K p "property" with
  | some (_ :: .ref _ :: _) => true
  | _ => false
theorem hasSet_ok {C : Addr} {m : Str} (h : hasSet K (He.ma K C m) = true) : ∃ a rest, PySem.W.recIn K (He.ma K C m) "property" = some (a :: .ref (ws K C m) :: rest) := by
  unfold ws
  unfold hasSet at h
  split at h
  · rename_i a g r e
    exact ⟨a, r, by rw [e]⟩
  · cases h
def setB (K : PySem.W.Frag) (C : Addr) (m : Str) : List Bool := [He.eqO (PySem.W.takerIn K C m) (some (some (.ref (He.ma K C m)))), eqV (PySem.W.typeIn K (.ref (He.ma K C m))) (some (.type "property")), hasSet K (He.ma K C m)]
theorem setB_ok (h : (setB K C m).all id = true) : PropSet K C m (He.ma K C m) (ws K C m) := ⟨He.eqO_ok (inAll h 0 rfl), eqV_ok (inAll h 1 rfl), hasSet_ok (inAll h 2 rfl)⟩
def methB (K : PySem.W.Frag) (C : Addr) (m : Str) : List Bool := [He.eqO (PySem.W.findIn K (.ref C) m) (some (some (.ref (He.ma K C m)))), PySem.W.isFn K (.ref (He.ma K C m)), PySem.W.keepIn K (.ref (He.ma K C m)), PySem.W.fnIn K (He.ma K C m)]
theorem methB_ok (h : (methB K C m).all id = true) : Meth K C m (He.ma K C m) := ⟨He.eqO_ok (inAll h 0 rfl), inAll h 1 rfl, inAll h 2 rfl⟩
theorem callB_ok (h : (methB K C "__call__").all id = true) : StX.CallO K C (He.ma K C "__call__") := ⟨He.eqO_ok (inAll h 0 rfl), inAll h 1 rfl, inAll h 3 rfl⟩
theorem lenB_ok (h : (methB K C "__len__").all id = true) : LenOwn K C (He.ma K C "__len__") := ⟨He.eqO_ok (inAll h 0 rfl), inAll h 1 rfl⟩
def mkB (K : PySem.W.Frag) (C : Addr) : Bool := PySem.W.makesIn K C && PySem.W.keepIn K (.ref C)
theorem mkB_ok (h : (methB K C "__init__").all id = true) (h2 : mkB K C = true) : Mk K C (He.ma K C "__init__") := ⟨(He.ba h2).1, He.eqO_ok (inAll h 0 rfl), inAll h 1 rfl, (He.ba h2).2⟩
theorem withB_ok (h : (methB K C "__enter__").all id = true) (h2 : (methB K C "__exit__").all id = true) : WithOwn K C (He.ma K C "__enter__") (He.ma K C "__exit__") := ⟨He.eqO_ok (inAll h 0 rfl), inAll h 1 rfl, He.eqO_ok (inAll h2 0 rfl), inAll h2 1 rfl⟩
def clsB (K : PySem.W.Frag) (C : Addr) : List Bool := [PySem.W.plainGet K C Str.empty, PySem.W.hasDictIn K C, PySem.W.plainOver K C, He.eqO (PySem.W.findIn K (.ref C) "__setattr__") (some (some (.builtin "object.__setattr__")))]
theorem clsB_ok (h : (clsB K C).all id = true) : Cls K C := ⟨inAll h 0 rfl, inAll h 1 rfl, inAll h 2 rfl, He.eqO_ok (inAll h 3 rfl)⟩
def noB (K : PySem.W.Frag) (C : Addr) (f : Str) : Bool := He.eqO (PySem.W.findIn K (.ref C) f) (some none)
theorem noB_ok {f : Str} (h : noB K C f = true) : NoAttr K C f := He.eqO_ok h
/-! ### a class of gates -/
abbrev gfn (K : PySem.W.Frag) (CG : Addr) : GFn := ⟨He5.wf K CG "property" "come", He5.wf K CG "property" "through", He5.wf K CG "property" "waiting", He.ma K CG "after", He.ma K CG "tick", He.ma K CG "__call__"⟩
def gateB (K : PySem.W.Frag) (CG C : Addr) : List Bool := [(clsB K C).all id, noB K C "base", noB K C "past", (propB K C "come").all id, (propB K C "through").all id, (propB K C "waiting").all id, (methB K C "after").all id, (methB K C "tick").all id, (methB K C "judge").all id, (methB K C "__call__").all id,
  decide (He5.wf K C "property" "come" = He5.wf K CG "property" "come"), decide (He5.wf K C "property" "through" = He5.wf K CG "property" "through"), decide (He5.wf K C "property" "waiting" = He5.wf K CG "property" "waiting"), decide (He.ma K C "after" = He.ma K CG "after"), decide (He.ma K C "tick" = He.ma K CG "tick"), decide (He.ma K C "__call__" = He.ma K CG "__call__")]
theorem gateB_ok (h : (gateB K CG C).all id = true) : GateC K (gfn K CG) C (He.ma K C "judge") where
  cl := clsB_ok (inAll h 0 rfl)
  nB := noB_ok (inAll h 1 rfl)
  nP := noB_ok (inAll h 2 rfl)
  p_come := ⟨_, by have z := propB_ok (inAll h 3 rfl); rw [of_decide_eq_true (inAll h 10 rfl)] at z; exact z⟩
  p_through := ⟨_, by have z := propB_ok (inAll h 4 rfl); rw [of_decide_eq_true (inAll h 11 rfl)] at z; exact z⟩
  p_waiting := ⟨_, by have z := propB_ok (inAll h 5 rfl); rw [of_decide_eq_true (inAll h 12 rfl)] at z; exact z⟩
  m_after := by have z := methB_ok (inAll h 6 rfl); rw [of_decide_eq_true (inAll h 13 rfl)] at z; exact z
  m_tick := by have z := methB_ok (inAll h 7 rfl); rw [of_decide_eq_true (inAll h 14 rfl)] at z; exact z
  m_judge := methB_ok (inAll h 8 rfl)
  c_call := by have z := callB_ok (inAll h 9 rfl); rw [of_decide_eq_true (inAll h 15 rfl)] at z; exact z
/-! ### defs that close over their class -/
def cloC (K : PySem.W.Frag) (f : Addr) : Addr := match K.lookup f with
  | some ⟨_, _, .func fd, _⟩ => (match fd.closure with
    | (_, c) :: _ => c
    | _ => 0)
  | _ => 0
def cloD (K : PySem.W.Frag) (f : Addr) : Addr := match K.lookup f with
  | some ⟨_, _, .func fd, _⟩ => (match fd.code with
    | .ref c => c
    | _ => 0)
  | _ => 0
structure DefC where
  at_ : PySem.W.Frag → Addr
  name : Str
  qual : Str
  params : Arguments
  body : List Stmt
  scope : Scope
  dcl : PySem.W.Frag → Addr
def fnC (K : PySem.W.Frag) (a : Addr) : He.FnW := match K.lookup a with
  | some ⟨_, _, .func fd, _⟩ => some (fd.name, fd.qualname, fd.params, fd.body, fd.scope, fd.globals, fd.closure.map (fun q => (q.1, 0)), fd.builtins)
  | _ => none
def DefC.val (d : DefC) : He.FnW := some (d.name, d.qual, d.params, .stmts d.body, d.scope, mainGlobals, [("__class__", 0)], builtinsNs)
def isCode (K : PySem.W.Frag) (q : Str) : Value → Bool
  | .ref c => PySem.W.codeIn K (.ref c) q
  | _ => false
def cellOf (K : PySem.W.Frag) (c D : Addr) : Bool := match K.lookup c with
  | some ⟨_, _, .cell (some (.ref E)), _⟩ => decide (E = D)
  | _ => false
def DefC.ok (K : PySem.W.Frag) (d : DefC) : Bool := PySem.W.keepIn K (.ref (d.at_ K)) && ((match K.lookup (d.at_ K) with
  | some ⟨_, _, .func fd, _⟩ => isCode K d.qual fd.code && decide (fd.defaults = .none)
  | _ => false) && cellOf K (cloC K (d.at_ K)) (d.dcl K))
theorem DefC.funC {d : DefC} {st : Stmt} (e : fnC K (d.at_ K) = d.val) (c : d.ok K = true) (h1 : d.params = defArgs st) (h2 : d.body = defBody st) (h3 : d.scope = defScope st) : ∃ fd, FunC K d.name d.qual st (d.at_ K) fd (d.dcl K) (cloC K (d.at_ K)) (cloD K (d.at_ K)) := by
  obtain ⟨kp, c2⟩ := He.ba c
  obtain ⟨c3, c4⟩ := He.ba c2
  have hcell : ∃ cl cld csl, K.lookup (cloC K (d.at_ K)) = some ⟨cl, cld, .cell (some (.ref (d.dcl K))), csl⟩ := by
    unfold cellOf at c4
    split at c4
    · rename_i a b E x z
      rw [of_decide_eq_true c4] at z
      exact ⟨_, _, _, z⟩
    · cases c4
  unfold fnC at e
  cases q : K.lookup (d.at_ K) with
  | none => rw [q] at c3; cases c3
  | some o =>
    obtain ⟨oc, od, dt, osl⟩ := o
    rw [q] at c3 e
    cases dt with
    | func fd =>
      obtain ⟨n1, n2, n3, n4, n5, n6, n7, n8, n9, n10, n11, n12, n13, n14, n15⟩ := fd
      have e2 : (some (n1, n2, n3, n4, n5, n6, n7.map (fun q => (q.1, (0 : Addr))), n15) : Option (Str × Str × Arguments × FuncBody × Scope × Addr × List (Str × Addr) × Addr)) = some (d.name, d.qual, d.params, FuncBody.stmts d.body, d.scope, mainGlobals, [(("__class__" : Str), (0 : Addr))], builtinsNs) := e
      simp only [Option.some.injEq, Prod.mk.injEq] at e2
      obtain ⟨g1, g2, g3, g4, g5, g6, g7, g8⟩ := e2
      have c5 : (isCode K d.qual n13 && decide (n8 = .none)) = true := c3
      obtain ⟨k1, k2⟩ := He.ba c5
      have k2 := of_decide_eq_true k2
      have hcl : ∃ cc : Addr, n7 = [(("__class__" : Str), cc)] := by
        match n7, g7 with
        | [(x, cc)], g7 =>
          have : x = ("__class__" : Str) := by
            have z := List.cons.inj g7
            exact (Prod.mk.inj z.1).1
          exact ⟨cc, by rw [this]⟩
      obtain ⟨cc, hcc⟩ := hcl
      have hcode : ∃ cda, n13 = .ref cda ∧ PySem.W.codeIn K (.ref cda) d.qual = true := by
        cases n13 with
        | ref c => exact ⟨c, rfl, k1⟩
        | _ => cases k1
      obtain ⟨cda, hcd, hcd2⟩ := hcode
      subst hcc hcd k2 g1 g2 g3 g4 g5 g6 g8
      have z1 : cloC K (d.at_ K) = cc := by unfold cloC; rw [q]
      have z2 : cloD K (d.at_ K) = cda := by unfold cloD; rw [q]
      rw [z1] at hcell
      rw [z1, z2]
      rw [h1, h2, h3] at q
      exact ⟨_, ⟨oc, od, n9, n10, n11, n12, n14, osl, rfl, q, hcd2⟩, kp, hcell⟩
    | _ => cases c3
/-! ### super() -/
def fileB (K : PySem.W.Frag) (file : Str) (c : Addr) : Bool := match K.lookup c with
  | some ⟨_, _, .fields vs, _⟩ => (match (vs[2]? : Option Value) with
    | some (.str z _) => file == z
    | _ => false)
  | _ => false
theorem fileB_ok {file : Str} {c : Addr} (h : fileB K file c = true) : ∃ ccl cdd ccs vs z tf, K.lookup c = some ⟨ccl, cdd, .fields vs, ccs⟩ ∧ vs[2]? = some (.str z tf) ∧ (file == z) = true := by
  unfold fileB at h
  split at h
  · rename_i a b vs d e
    split at h
    · rename_i z t e2
      exact ⟨_, _, _, vs, z, t, e, e2, h⟩
    · cases h
  · cases h
def superB (K : PySem.W.Frag) (file : Str) (f C D g2 : Addr) (name : Str) : List Bool := [fileB K file (cloD K f), (PySem.W.clsIn K D).isSome, decide (PySem.W.mroIn K C (.ref D) = some true), He.eqO (PySem.W.ks_superIn K C D name) (some (some (.ref g2))), eqV (PySem.W.typeIn K (.ref g2)) (some (.type "function")), PySem.W.fnIn K g2, He.eqO (PySem.W.nsIn K PySem.cStatics "thirdparty.any") (some none)]
theorem superB_ok {P : Program} {f g2 : Addr} {fd : FuncData} {x qual name : Str} {st : Stmt} (F : FunC K x qual st f fd D (cloC K f) (cloD K f)) (top : (P.main.scope.names.lookup ("super" : Str)).isSome = false) (h : (superB K P.main.file f C D g2 name).all id = true) : SuperAt P K f fd C D g2 (cloC K f) (cloD K f) name := by
  obtain ⟨oc, od, kV, doc, pm, an, ct, osl, e1, e2, _⟩ := F.ex
  exact ⟨⟨oc, od, osl, e2⟩, fileB_ok (inAll h 0 rfl), F.cell, Option.isSome_iff_exists.mp (inAll h 1 rfl), of_decide_eq_true (inAll h 2 rfl), He.eqO_ok (inAll h 3 rfl), eqV_ok (inAll h 4 rfl), inAll h 5 rfl, He.eqO_ok (inAll h 6 rfl), top⟩
/-! ### own exceptions -/
def oexC1 (K : PySem.W.Frag) (C : Addr) : Bool := match K.lookup C with
  | some ⟨.type "type", _, .cls cd, sl⟩ => (match cd.mro, sl.toList with
    | .ref C' :: bm, [_, _, _, _, some (.builtin n), _] => C' == C && n == "ValueError.__new__" && !cd.hasDel && cd.hasDict && PySem.HandSPX.refsVE bm
    | _, _ => false)
  | _ => false
theorem oexC1_ok (q : oexC1 K C = true) : ∃ nm q N bs bm sn sub ab col dd k0 k1 k2 k3 k5, K.lookup C = some (excClassObj nm q C N bs bm true sn sub ab col dd k0 k1 k2 k3 k5 "ValueError.__new__") ∧ PySem.HandSPX.refsVE bm = true := by
  unfold oexC1 at q
  split at q
  · rename_i dd cd sl ho
    split at q
    · rename_i C' bm k0 k1 k2 k3 n k5 hm hs
      simp only [Bool.and_eq_true, beq_iff_eq, Bool.not_eq_true'] at q
      obtain ⟨⟨⟨⟨rfl, rfl⟩, hdel⟩, hdict⟩, ht⟩ := q
      obtain ⟨nm, bs, mro, ns, qn, hd, sn, sub, ab, col, del⟩ := cd
      dsimp only at hm hdel hdict
      subst hm hdel hdict
      have hsl : sl = #[k0, k1, k2, k3, some (.builtin "ValueError.__new__"), k5] := by
        obtain ⟨l⟩ := sl
        simp only at hs
        rw [hs]
      subst hsl
      exact ⟨nm, qn, ns, bs, bm, sn, sub, ab, col, dd, k0, k1, k2, k3, k5, ho, ht⟩
    · cases q
  · cases q
def oexB (K : PySem.W.Frag) (C : Addr) : List Bool := [oexC1 K C, He.eqO (PySem.W.findIn K (.ref C) "__setattr__") (some (some (.builtin "object.__setattr__"))), decide (PySem.W.subIn K (.ref C) (.type "BaseException") = some true), eqV (PySem.W.typeIn K (.ref C)) (some (.type "type")), PySem.W.keepIn K (.ref C)]
theorem oexB_ok (h : (oexB K C).all id = true) : OexC K C := ⟨oexC1_ok (inAll h 0 rfl), He.eqO_ok (inAll h 1 rfl), of_decide_eq_true (inAll h 2 rfl), eqV_ok (inAll h 3 rfl), inAll h 4 rfl⟩
def excB (K : PySem.W.Frag) (file : Str) (C : Addr) (fld : Str) : List Bool := [(oexB K C).all id, noB K C fld, L2.xfB K C, He.eqO (PySem.W.findIn K (.ref C) "__init__") (some (some (.ref (He.ma K C "__init__")))), eqV (PySem.W.typeIn K (.ref (He.ma K C "__init__"))) (some (.type "function")),
  fileB K file (cloD K (He.ma K C "__init__")), decide (PySem.W.mroIn K C (.ref C) = some true), He.eqO (PySem.W.ks_superIn K C C "__init__") (some (some (.builtin "ValueError.__init__"))), decide (PySem.W.subIn K (.ref C) (.type "ValueError") = some true), He.eqO (PySem.W.nsIn K PySem.cStatics "thirdparty.any") (some none), decide (PySem.W.exmOne K (.ref C) (.ref C) = some true)]
theorem excB_ok {P : Program} {mg : Str → Option Value} {fd : FuncData} {x qual fld : Str} {st : Stmt} (hm : mg x = some (.ref C)) (F : FunC K "__init__" qual st (He.ma K C "__init__") fd C (cloC K (He.ma K C "__init__")) (cloD K (He.ma K C "__init__"))) (top : (P.main.scope.names.lookup ("super" : Str)).isSome = false) (h : (excB K P.main.file C fld).all id = true) : ExcC P K mg x C st qual fld := by
  obtain ⟨oc, od, kV, doc, pm, an, ct, osl, e1, e2, _⟩ := id F.ex
  have ox := oexB_ok (inAll h 0 rfl)
  exact ⟨hm, ox, noB_ok (inAll h 1 rfl), L2.xfB_ok (inAll h 2 rfl), ⟨_, fd, _, _, F, He.eqO_ok (inAll h 3 rfl), eqV_ok (inAll h 4 rfl),
    ⟨⟨oc, od, osl, e2⟩, fileB_ok (inAll h 5 rfl), F.cell, ox, of_decide_eq_true (inAll h 6 rfl), He.eqO_ok (inAll h 7 rfl), of_decide_eq_true (inAll h 8 rfl), He.eqO_ok (inAll h 9 rfl), top⟩⟩⟩
end
end B50

set_option Elab.async false
set_option linter.all false
set_option maxRecDepth 100000
set_option maxHeartbeats 0
/-! The head: the top's facts by names. -/
namespace B50
open PySem PySem.Spec PyProof.Rows L2 BX BM
/-! ### what the walk asks of the class -/
def exB (K : PySem.W.Frag) : Bool :=
  PySem.W.selfFirst K (He.ga K "Limits") && (He.eqO (PySem.W.findIn K (.ref (He.ga K "Limits")) "__add__") (some (some (.ref (He.ma K (He.ga K "Limits") "__add__")))) && (PySem.W.isFn K (.ref (He.ma K (He.ga K "Limits") "__add__")) &&
  (He.eqO (PySem.W.findIn K (.ref (He.ga K "Limits")) "pairs") (some (some (.ref (He.ma K (He.ga K "Limits") "pairs")))) && (He.eqO (PySem.W.specialIn K (.ref (He.ma K (He.ga K "Limits") "pairs")) "__get__") (some (some (.builtin "property.__get__"))) &&
  (decide (PySem.W.takesIn K (.ref (He.ma K (He.ga K "Limits") "pairs")) = some true) && ((match PySem.W.recIn K (He.ma K (He.ga K "Limits") "pairs") "property" with
    | some (.ref _ :: _) => true
    | _ => false) &&
  (PySem.W.readsIn K (He.ga K "Limits") (.type "type") && (He5.wrapB K (He.ga K "Limits") "classmethod" "classmethod.__get__" "single" && (PySem.W.fnIn K (He5.wf K (He.ga K "Limits") "classmethod" "single") &&
  (He.eqO (PySem.W.findIn K (.ref (He.ga K "Limits")) "__class__") (some (some (.builtin "object.__class__"))) && (He.eqO (PySem.W.specialIn K (.builtin "object.__class__") "__get__") (some (some (.builtin "getset_descriptor.__get__"))) &&
  (decide (PySem.W.takesIn K (.builtin "object.__class__") = some true) && decide (PySem.W.mroIn K (He.ga K "Limits") (.type "object") = some true)))))))))))))
theorem cread_plain {K : PySem.W.Frag} {C : Addr} (h0 : PySem.W.readsIn K C (.type "type") = true) : ClX.CRead K C (.type "type") := by
  refine ⟨h0, ?_⟩
  have h := h0
  unfold PySem.W.readsIn at h
  obtain ⟨h, _⟩ := He.ba h
  obtain ⟨h, _⟩ := He.ba h
  obtain ⟨h, h3⟩ := He.ba h
  obtain ⟨_, h2⟩ := He.ba h
  unfold PySem.W.specialIn
  rw [beq_iff_eq.mp h2, Option.bind_some]
  exact beq_iff_eq.mp h3
structure ExF (K : PySem.W.Frag) : Prop where
  ad : AddOwn K (He.ga K "Limits") (He.ma K (He.ga K "Limits") "__add__")
  pr : PropOf K (He.ga K "Limits") "pairs" (He.ma K (He.ga K "Limits") "pairs") (He5.wf K (He.ga K "Limits") "property" "pairs")
  cr : ClX.CRead K (He.ga K "Limits") (.type "type")
  cm : ClX.CMet K (He.ga K "Limits") (.type "type") "single" (He.ma K (He.ga K "Limits") "single") (He5.wf K (He.ga K "Limits") "classmethod" "single")
  ty : ∀ {H : Hp} {a dx : Addr} {fs : List (Str × V)}, H a = some (.ins (He.ga K "Limits") dx fs) → Cls K (He.ga K "Limits") → TyOf K H (.ref a) (.ref (He.ga K "Limits"))
theorem ex_ok {K : PySem.W.Frag} (h : exB K = true) : ExF K := by
  obtain ⟨h1, h⟩ := He.ba h
  obtain ⟨h2, h⟩ := He.ba h
  obtain ⟨h3, h⟩ := He.ba h
  obtain ⟨h4, h⟩ := He.ba h
  obtain ⟨h5, h⟩ := He.ba h
  obtain ⟨h6, h⟩ := He.ba h
  obtain ⟨h7, h⟩ := He.ba h
  obtain ⟨h8, h⟩ := He.ba h
  obtain ⟨h9, h⟩ := He.ba h
  obtain ⟨h10, h⟩ := He.ba h
  obtain ⟨h11, h⟩ := He.ba h
  obtain ⟨h12, h⟩ := He.ba h
  obtain ⟨h13, h14⟩ := He.ba h
  refine ⟨⟨h1, He.eqO_ok h2, h3⟩, ⟨He.eqO_ok h4, He.eqO_ok h5, of_decide_eq_true h6, ?_⟩, cread_plain h8, He5.cmet_of h9 h10, fun e cl => .ins e cl (He.eqO_ok h11) (He.eqO_ok h12) (of_decide_eq_true h13) (of_decide_eq_true h14)⟩
  unfold He5.wf
  split at h7
  · rename_i f r e
    exact ⟨r, by rw [e]⟩
  · cases h7
/-! ### the classes of gates -/
abbrev PP : Program := (PySem.Challenge.rw_burstlimits_k50_whole_gates_and_rows).prog
def exG (K : PySem.W.Frag) : List Bool :=
  [(gateB K (He.ga K "Gate") (He.ga K "Gate")).all id, (gateB K (He.ga K "Gate") (He.ga K "Bounded")).all id, (gateB K (He.ga K "Gate") (He.ga K "Prompt")).all id,
   !decide (He.ga K "Limits" = He.ga K "Gate"), !decide (He.ga K "Limits" = He.ga K "Bounded"), !decide (He.ga K "Limits" = He.ga K "Prompt"), !decide (He.ga K "Limits" = He.ga K "Trying"),
   (methB K (He.ga K "Gate") "__init__").all id, mkB K (He.ga K "Gate"), (propB K (He.ga K "Gate") "changes").all id, (setB K (He.ga K "Gate") "come").all id,
   (methB K (He.ga K "Gate") "assign_come").all id, (methB K (He.ga K "Gate") "rest").all id, (methB K (He.ga K "Gate") "undo").all id, (methB K (He.ga K "Gate") "run").all id, (methB K (He.ga K "Gate") "trying").all id, (methB K (He.ga K "Gate") "__len__").all id,
   noB K (He.ga K "Bounded") "places", (methB K (He.ga K "Bounded") "__init__").all id, mkB K (He.ga K "Bounded"),
   (superB K PP.main.file (He.ma K (He.ga K "Bounded") "__init__") (He.ga K "Bounded") (He.ga K "Bounded") (He.ma K (He.ga K "Gate") "__init__") "__init__").all id,
   (superB K PP.main.file (He.ma K (He.ga K "Bounded") "judge") (He.ga K "Bounded") (He.ga K "Bounded") (He.ma K (He.ga K "Gate") "judge") "judge").all id,
   noB K (He.ga K "Prompt") "ticks", (methB K (He.ga K "Prompt") "__init__").all id, mkB K (He.ga K "Prompt"),
   (superB K PP.main.file (He.ma K (He.ga K "Prompt") "__init__") (He.ga K "Prompt") (He.ga K "Prompt") (He.ma K (He.ga K "Gate") "__init__") "__init__").all id,
   (superB K PP.main.file (He.ma K (He.ga K "Prompt") "judge") (He.ga K "Prompt") (He.ga K "Prompt") (He.ma K (He.ga K "Gate") "judge") "judge").all id,
   (clsB K (He.ga K "Trying")).all id, noB K (He.ga K "Trying") "gate", noB K (He.ga K "Trying") "kept", (methB K (He.ga K "Trying") "__init__").all id, mkB K (He.ga K "Trying"), (methB K (He.ga K "Trying") "__enter__").all id, (methB K (He.ga K "Trying") "__exit__").all id,
   (excB K PP.main.file (He.ga K "Full") "amount").all id, (excB K PP.main.file (He.ga K "Late") "ticks").all id]
theorem ne_ok {a b : Addr} (h : (!decide (a = b)) = true) : a ≠ b := of_decide_eq_false (by simpa using h)
/-! ### the part of the heap that is looked at -/
def refN (o : Obj) : List Addr := match o.data with
  | .func fd => He.refV fd.code ++ fd.closure.map (·.2)
  | .cls cd => [cd.ns]
  | .dict es _ => es.toList.flatMap fun e => He.refV e.val
  | .fields vs => (match o.cls with
    | .type t => if (t == "property" || t == "classmethod") = true then vs.toList.flatMap He.refV else []
    | _ => [])
  | _ => []
def stepN (g : Addr → Option Obj) (as : List Addr) : List Addr := as.flatMap fun a => match g a with
  | some o => refN o
  | none => []
def namedN (g : Addr → Option Obj) (names : List Str) : List Addr := match g mainGlobals with
  | some ⟨_, _, .dict es _, _⟩ => names.flatMap fun x => (match es.toList.find? (·.key.isStr x) with
    | some e => He.refV e.val
    | none => [])
  | _ => []
def asN (g : Addr → Option Obj) (cs fs : List Str) : List Addr :=
  (fun as1 => (fun as2 => (fun as3 => (fun as4 => (fun bs => mainGlobals :: PySem.cStatics :: (as1 ++ (as2 ++ (as3 ++ (bs ++ (stepN g bs ++ (as4 ++ stepN g as4))))))) (namedN g fs)) (stepN g as3)) (stepN g as2)) (stepN g as1)) (namedN g cs)
/-! ### the Hook -/
def obsB (fa : List He.Fa) (fn : List He5.DefA) (cn : List DefC) (K : PySem.W.Frag) : He.AlD := ((fa.all fun f => f.ok K) && ((fn.all fun d => d.ok K) && ((cn.all fun d => d.ok K) && (exB K && (exG K).all id))), (fn.map fun d => He5.fnA K (d.at_ K)) ++ cn.map fun d => fnC K (d.at_ K))
def valB (fn : List He5.DefA) (cn : List DefC) : He.AlD := (true, fn.map He5.DefA.val ++ cn.map DefC.val)
def SaysB (fa : List He.Fa) (fn : List He5.DefA) (cn : List DefC) (K : PySem.W.Frag) : Prop := obsB fa fn cn K = valB fn cn
def obsBG (cs fs : List Str) (fa : List He.Fa) (fn : List He5.DefA) (cn : List DefC) (g : Addr → Option Obj) : He.AlD := obsB fa fn cn (He.frG g (asN g cs fs))
def hookB (cs fs : List Str) (fa : List He.Fa) (fn : List He5.DefA) (cn : List DefC) : PySem.W.Hook where
  α := He.AlD
  obs := fun s => obsBG cs fs fa fn cn s.heap.get?
  val := fun _ => valB fn cn
  says := fun _ h => ∃ K : PySem.W.Frag, K.In h ∧ SaysB fa fn cn K
  of := fun _ _ e => ⟨_, He.frG_in, e⟩
  keeps := fun _ _ _ ⟨K, hK, c⟩ k => ⟨K, PySem.W.Frag.In.keeps hK k, c⟩
theorem obsBG_eq {cs fs : List Str} {fa : List He.Fa} {fn : List He5.DefA} {cn : List DefC} {g : Addr → Option Obj} {s : Shared} (h : ∀ a, g a = s.heap.get? a) : obsBG cs fs fa fn cn g = (hookB cs fs fa fn cn).obs s := by
  have e : g = s.heap.get? := funext h
  rw [e] <;> rfl
section
variable {fa : List He.Fa} {fn : List He5.DefA} {cn : List DefC} {K : PySem.W.Frag}
theorem SaysB.all (c : SaysB fa fn cn K) : ((fa.all fun f => f.ok K) && ((fn.all fun d => d.ok K) && ((cn.all fun d => d.ok K) && (exB K && (exG K).all id)))) = true := congrArg (fun z : He.AlD => z.1) c
theorem SaysB.fact (c : SaysB fa fn cn K) (i : Nat) {f : He.Fa} (h : fa[i]? = some f := by rfl) : f.ok K = true :=
  List.all_eq_true.mp (He.ba c.all).1 f (List.mem_of_getElem? h)
theorem SaysB.ex (c : SaysB fa fn cn K) : exB K = true := (He.ba (He.ba (He.ba (He.ba c.all).2).2).2).1
theorem SaysB.exg (c : SaysB fa fn cn K) (i : Nat) {b : Bool} (h : (exG K)[i]? = some b := by rfl) : b = true := inAll (He.ba (He.ba (He.ba (He.ba c.all).2).2).2).2 i h
theorem SaysB.lists (c : SaysB fa fn cn K) : fn.map (fun d => He5.fnA K (d.at_ K)) = fn.map He5.DefA.val ∧ cn.map (fun d => fnC K (d.at_ K)) = cn.map DefC.val := by
  have e : (fn.map fun d => He5.fnA K (d.at_ K)) ++ (cn.map fun d => fnC K (d.at_ K)) = fn.map He5.DefA.val ++ cn.map DefC.val := congrArg (fun z : He.AlD => z.2) c
  exact List.append_inj e (by rw [List.length_map, List.length_map])
theorem SaysB.def_ (c : SaysB fa fn cn K) (i : Nat) {d : He5.DefA} (h : fn[i]? = some d := by rfl) : ∃ fd, L2.FunD K d.name d.qual d.params d.body d.scope (d.dvs K) (d.kws K) (d.at_ K) fd := by
  have c2 := (He.ba (He.ba c.all).2).1
  have e2 : (fn.map fun d => He5.fnA K (d.at_ K))[i]? = (fn.map He5.DefA.val)[i]? := by rw [c.lists.1]
  rw [List.getElem?_map, List.getElem?_map, h] at e2
  exact He5.DefA.funD (Option.some.inj e2) (List.all_eq_true.mp c2 d (List.mem_of_getElem? h))
theorem SaysB.clo (c : SaysB fa fn cn K) (i : Nat) {d : DefC} {st : Stmt} (h : cn[i]? = some d := by rfl) (h1 : d.params = defArgs st := by rfl) (h2 : d.body = defBody st := by rfl) (h3 : d.scope = defScope st := by rfl) : ∃ fd, FunC K d.name d.qual st (d.at_ K) fd (d.dcl K) (cloC K (d.at_ K)) (cloD K (d.at_ K)) := by
  have c2 := (He.ba (He.ba (He.ba c.all).2).2).1
  have e2 : (cn.map fun d => fnC K (d.at_ K))[i]? = (cn.map DefC.val)[i]? := by rw [c.lists.2]
  rw [List.getElem?_map, List.getElem?_map, h] at e2
  exact DefC.funC (Option.some.inj e2) (List.all_eq_true.mp c2 d (List.mem_of_getElem? h)) h1 h2 h3
theorem fn_of {x qual : Str} {st : Stmt} {f : Addr} {kws : List (Str × V)} (h : ∃ fd, L2.FunD K x qual (defArgs st) (defBody st) (defScope st) [] kws f fd) : ∃ fd, Fun K x qual st f fd := by
  obtain ⟨fd, F⟩ := h
  exact ⟨fd, He5.fun_of F⟩
theorem gf_of {mg : Str → Option Value} {x : Str} {st : Stmt} {kws : List (Str × V)} (h : ∃ fd, L2.FunD K x x (defArgs st) (defBody st) (defScope st) [] kws (He.ga K x) fd) (g : mg x = some (.ref (He.ga K x))) : GF K mg x st := by
  obtain ⟨fd, F⟩ := h
  exact ⟨_, fd, He5.fun_of F, g⟩
end
def DEF0 : He5.DefA := ⟨fun K => He.ga K "is_integer", "is_integer", "is_integer", defArgs sIsInteger, defBody sIsInteger, defScope sIsInteger, [], []⟩
def DEF1 : He5.DefA := ⟨fun K => He.ga K "is_between", "is_between", "is_between", defArgs sIsBetween, defBody sIsBetween, defScope sIsBetween, [], []⟩
def DEF2 : He5.DefA := ⟨fun K => He.ga K "is_pair", "is_pair", "is_pair", defArgs sIsPair, defBody sIsPair, defScope sIsPair, [], []⟩
def DEF3 : He5.DefA := ⟨fun K => He.ga K "is_row", "is_row", "is_row", defArgs sIsRow, defBody sIsRow, defScope sIsRow, [], []⟩
def DEF4 : He5.DefA := ⟨fun K => He.ga K "stretch_sum", "stretch_sum", "stretch_sum", defArgs sStretch, defBody sStretch, defScope sStretch, [], []⟩
def DEF5 : He5.DefA := ⟨fun K => He.ga K "are_pairs", "are_pairs", "are_pairs", defArgs sArePairs, defBody sArePairs, defScope sArePairs, [], []⟩
def DEF6 : He5.DefA := ⟨fun K => He.ga K "need_limits", "need_limits", "need_limits", defArgs sNeedLimits, defBody sNeedLimits, defScope sNeedLimits, [], []⟩
def DEF7 : He5.DefA := ⟨fun K => He.ga K "need_row", "need_row", "need_row", defArgs sNeedRow, defBody sNeedRow, defScope sNeedRow, [], []⟩
def DEF8 : He5.DefA := ⟨fun K => He.ga K "first_broken", "first_broken", "first_broken", defArgs sFirstBroken, defBody sFirstBroken, defScope sFirstBroken, [], []⟩
def DEF9 : He5.DefA := ⟨fun K => He.ga K "verdict", "verdict", "verdict", defArgs sVerdict, defBody sVerdict, defScope sVerdict, [], []⟩
def DEF10 : He5.DefA := ⟨fun K => He.ga K "allowed_now", "allowed_now", "allowed_now", defArgs sAllowed, defBody sAllowed, defScope sAllowed, [], []⟩
def DEF11 : He5.DefA := ⟨fun K => He.ga K "let_through", "let_through", "let_through", defArgs sLetThrough, defBody sLetThrough, defScope sLetThrough, [], []⟩
def DEF12 : He5.DefA := ⟨fun K => He.ga K "passed", "passed", "passed", defArgs sPassed, defBody sPassed, defScope sPassed, [], []⟩
def DEF13 : He5.DefA := ⟨fun K => He.ga K "ticks_of", "ticks_of", "ticks_of", defArgs sTicksOf, defBody sTicksOf, defScope sTicksOf, [], []⟩
def DEF14 : He5.DefA := ⟨fun K => He.ga K "waits_of", "waits_of", "waits_of", defArgs sWaitsOf, defBody sWaitsOf, defScope sWaitsOf, [], []⟩
def DEF15 : He5.DefA := ⟨fun K => He.ga K "waits", "waits", "waits", defArgs sWaits, defBody sWaits, defScope sWaits, [], []⟩
def DEF16 : He5.DefA := ⟨fun K => He.ga K "waiting", "waiting", "waiting", defArgs sWaiting, defBody sWaiting, defScope sWaiting, [], []⟩
def DEF17 : He5.DefA := ⟨fun K => He.ga K "_law_cell", "_law_cell", "_law_cell", defArgs sCell, defBody sCell, defScope sCell, [], []⟩
def DEF18 : He5.DefA := ⟨fun K => He.ga K "_law_pen", "_law_pen", "_law_pen", defArgs sPen, defBody sPen, defScope sPen, [], []⟩
def DEF19 : He5.DefA := ⟨fun K => He.ga K "_law_draw", "_law_draw", "_law_draw", defArgs sDraw, defBody sDraw, defScope sDraw, [], []⟩
def DEF20 : He5.DefA := ⟨fun K => He.ga K "_law_pairs", "_law_pairs", "_law_pairs", defArgs sLawPairs, defBody sLawPairs, defScope sLawPairs, [], []⟩
def DEF21 : He5.DefA := ⟨fun K => He.ga K "_law_limits", "_law_limits", "_law_limits", defArgs sLawLimits, defBody sLawLimits, defScope sLawLimits, [], []⟩
def DEF22 : He5.DefA := ⟨fun K => He.ga K "_law_row", "_law_row", "_law_row", defArgs sLawRow, defBody sLawRow, defScope sLawRow, [], []⟩
def DEF23 : He5.DefA := ⟨fun K => He.ga K "_law_right", "_law_right", "_law_right", defArgs sRight, defBody sRight, defScope sRight, [], []⟩
def DEF24 : He5.DefA := ⟨fun K => He.ma K (He.ga K "Limits") "__init__", "__init__", "Limits.__init__", defArgs sLimInit, defBody sLimInit, defScope sLimInit, [], []⟩
def DEF25 : He5.DefA := ⟨fun K => He5.wf K (He.ga K "Limits") "classmethod" "single", "single", "Limits.single", defArgs sSingle, defBody sSingle, defScope sSingle, [], []⟩
def DEF26 : He5.DefA := ⟨fun K => He5.wf K (He.ga K "Limits") "property" "pairs", "pairs", "Limits.pairs", defArgs sPairs, defBody sPairs, defScope sPairs, [], []⟩
def DEF27 : He5.DefA := ⟨fun K => He.ma K (He.ga K "Limits") "__add__", "__add__", "Limits.__add__", defArgs sLimAdd, defBody sLimAdd, defScope sLimAdd, [], []⟩
def DEF28 : He5.DefA := ⟨fun K => He.ga K "law", "law", "law", defArgs sLaw, defBody sLaw, defScope sLaw, [], []⟩
def DEF29 : He5.DefA := ⟨fun K => He5.wf K (He.ga K "Gate") "property" "come", "come", "Gate.come", defArgs sGCome, defBody sGCome, defScope sGCome, [], []⟩
def DEF30 : He5.DefA := ⟨fun K => He5.wf K (He.ga K "Gate") "property" "through", "through", "Gate.through", defArgs sGThrough, defBody sGThrough, defScope sGThrough, [], []⟩
def DEF31 : He5.DefA := ⟨fun K => He5.wf K (He.ga K "Gate") "property" "waiting", "waiting", "Gate.waiting", defArgs sGWaiting, defBody sGWaiting, defScope sGWaiting, [], []⟩
def DEF32 : He5.DefA := ⟨fun K => He.ma K (He.ga K "Gate") "after", "after", "Gate.after", defArgs sGAfter, defBody sGAfter, defScope sGAfter, [], []⟩
def DEF33 : He5.DefA := ⟨fun K => He.ma K (He.ga K "Gate") "tick", "tick", "Gate.tick", defArgs sGTick, defBody sGTick, defScope sGTick, [], []⟩
def DEF34 : He5.DefA := ⟨fun K => He.ma K (He.ga K "Gate") "__call__", "__call__", "Gate.__call__", defArgs sGCall, defBody sGCall, defScope sGCall, [], []⟩
def DEF35 : He5.DefA := ⟨fun K => He.ma K (He.ga K "Gate") "__init__", "__init__", "Gate.__init__", defArgs sGInit, defBody sGInit, defScope sGInit, [], []⟩
def DEF36 : He5.DefA := ⟨fun K => He.ma K (He.ga K "Gate") "judge", "judge", "Gate.judge", defArgs sGJudge, defBody sGJudge, defScope sGJudge, [], []⟩
def DEF37 : He5.DefA := ⟨fun K => He5.wf K (He.ga K "Gate") "property" "changes", "changes", "Gate.changes", defArgs sGChanges, defBody sGChanges, defScope sGChanges, [], []⟩
def DEF38 : He5.DefA := ⟨fun K => ws K (He.ga K "Gate") "come", "come", "Gate.come", defArgs sGSet, defBody sGSet, defScope sGSet, [], []⟩
def DEF39 : He5.DefA := ⟨fun K => He.ma K (He.ga K "Gate") "assign_come", "assign_come", "Gate.assign_come", defArgs sGAssign, defBody sGAssign, defScope sGAssign, [], []⟩
def DEF40 : He5.DefA := ⟨fun K => He.ma K (He.ga K "Gate") "rest", "rest", "Gate.rest", defArgs sGRest, defBody sGRest, defScope sGRest, [], []⟩
def DEF41 : He5.DefA := ⟨fun K => He.ma K (He.ga K "Gate") "undo", "undo", "Gate.undo", defArgs sGUndo, defBody sGUndo, defScope sGUndo, [], []⟩
def DEF42 : He5.DefA := ⟨fun K => He.ma K (He.ga K "Gate") "run", "run", "Gate.run", defArgs sGRun, defBody sGRun, defScope sGRun, [], []⟩
def DEF43 : He5.DefA := ⟨fun K => He.ma K (He.ga K "Gate") "trying", "trying", "Gate.trying", defArgs sGTrying, defBody sGTrying, defScope sGTrying, [], []⟩
def DEF44 : He5.DefA := ⟨fun K => He.ma K (He.ga K "Gate") "__len__", "__len__", "Gate.__len__", defArgs sGLen, defBody sGLen, defScope sGLen, [], []⟩
def DEF45 : He5.DefA := ⟨fun K => He.ma K (He.ga K "Trying") "__init__", "__init__", "Trying.__init__", defArgs sTryInit, defBody sTryInit, defScope sTryInit, [], []⟩
def DEF46 : He5.DefA := ⟨fun K => He.ma K (He.ga K "Trying") "__enter__", "__enter__", "Trying.__enter__", defArgs sTryEnter, defBody sTryEnter, defScope sTryEnter, [], []⟩
def DEF47 : He5.DefA := ⟨fun K => He.ma K (He.ga K "Trying") "__exit__", "__exit__", "Trying.__exit__", defArgs sTryExit, defBody sTryExit, defScope sTryExit, [], []⟩
def DEF48 : He5.DefA := ⟨fun K => He.ga K "_law_ends_right", "_law_ends_right", "_law_ends_right", defArgs sEnds, defBody sEnds, defScope sEnds, [], []⟩
def DEF49 : He5.DefA := ⟨fun K => He.ga K "_law_bounded_right", "_law_bounded_right", "_law_bounded_right", defArgs sBoundedR, defBody sBoundedR, defScope sBoundedR, [], []⟩
def DEF50 : He5.DefA := ⟨fun K => He.ga K "_law_prompt_right", "_law_prompt_right", "_law_prompt_right", defArgs sPromptR, defBody sPromptR, defScope sPromptR, [], []⟩
def DEF51 : He5.DefA := ⟨fun K => He.ga K "_law_slow_right", "_law_slow_right", "_law_slow_right", defArgs sSlow, defBody sSlow, defScope sSlow, [], []⟩
def fn0 : List He5.DefA := [DEF0, DEF1, DEF2, DEF3, DEF4, DEF5, DEF6, DEF7, DEF8, DEF9, DEF10, DEF11, DEF12, DEF13, DEF14, DEF15, DEF16, DEF17, DEF18, DEF19, DEF20, DEF21, DEF22, DEF23, DEF24, DEF25, DEF26, DEF27, DEF28, DEF29]
def fn1 : List He5.DefA := [DEF30, DEF31, DEF32, DEF33, DEF34, DEF35, DEF36, DEF37, DEF38, DEF39, DEF40, DEF41, DEF42, DEF43, DEF44, DEF45, DEF46, DEF47, DEF48, DEF49, DEF50, DEF51]
abbrev fn : List He5.DefA := fn0 ++ fn1
def fa0 : List He.Fa := [.cls "Limits", .noat "Limits" "kept", .glo "Limits", .free "isinstance", .free "int", .free "bool", .free "tuple", .free "list", .free "len", .free "all", .free "sum", .free "set", .free "range", .free "enumerate", .free "min", .free "max", .free "zip", .int "MOST_LENGTH" 20, .int "MOST_NUMBER" 20, .int "MOST_REQUESTS" 60, .int "MOST_LIMITS" 6, .str "KEPT" "kept", .str "BROKEN" "broken", .glo "is_integer", .glo "is_between", .glo "is_pair", .glo "is_row", .glo "stretch_sum", .glo "are_pairs", .glo "need_limits"]
def fa1 : List He.Fa := [.glo "need_row", .glo "first_broken", .glo "verdict", .glo "allowed_now", .glo "let_through", .glo "passed", .glo "ticks_of", .glo "waits_of", .glo "waits", .glo "waiting", .glo "_law_cell", .glo "_law_pen", .glo "_law_draw", .glo "_law_pairs", .glo "_law_limits", .glo "_law_row", .glo "_law_right", .mkr "Limits", .glo "law", .glo "Gate", .glo "Bounded", .glo "Prompt", .glo "Trying", .glo "Full", .glo "Late", .free "super", .int "MOST_PATIENCE" 100, .glo "_law_ends_right", .glo "_law_bounded_right", .glo "_law_prompt_right"]
def fa2 : List He.Fa := [.glo "_law_slow_right"]
abbrev fa : List He.Fa := fa0 ++ fa1 ++ fa2
def loose0 : List PySem.Str := ["_wall", "BurstError", "NoLimit", "NoLimits", "NoRow", "NoNumber", "NoLength", "NoAmount", "NoText", "NothingDone", "TooMany", "Full", "Late", "MOST_LENGTH", "MOST_NUMBER", "MOST_REQUESTS", "is_integer", "is_between", "is_pair", "is_row", "stretch_sum", "MOST_LIMITS", "MOST_ASKED", "HEAD", "DIGITS", "number_in", "pair_in", "are_pairs", "Limits", "need_limits"]
def loose1 : List PySem.Str := ["sums_up_to", "KEPT", "BROKEN", "need_row", "first_broken", "verdict", "allowed_now", "let_through", "passed", "ticks_of", "waits_of", "waits", "waiting", "MOST_PATIENCE", "Trying", "Gate", "Bounded", "Prompt", "_law_cell", "_law_pen", "_law_draw", "_law_pairs", "_law_limits", "_law_row", "_law_ends_right", "_law_bounded_right", "_law_prompt_right", "_law_right", "_law_slow_right"]
abbrev loose : List PySem.Str := loose0 ++ loose1
def CLO0 : DefC := ⟨fun K => He.ma K (He.ga K "Bounded") "__init__", "__init__", "Bounded.__init__", defArgs sBInit, defBody sBInit, defScope sBInit, fun K => He.ga K "Bounded"⟩
def CLO1 : DefC := ⟨fun K => He.ma K (He.ga K "Bounded") "judge", "judge", "Bounded.judge", defArgs sBJudge, defBody sBJudge, defScope sBJudge, fun K => He.ga K "Bounded"⟩
def CLO2 : DefC := ⟨fun K => He.ma K (He.ga K "Prompt") "__init__", "__init__", "Prompt.__init__", defArgs sPInit, defBody sPInit, defScope sPInit, fun K => He.ga K "Prompt"⟩
def CLO3 : DefC := ⟨fun K => He.ma K (He.ga K "Prompt") "judge", "judge", "Prompt.judge", defArgs sPJudge, defBody sPJudge, defScope sPJudge, fun K => He.ga K "Prompt"⟩
def CLO4 : DefC := ⟨fun K => He.ma K (He.ga K "Full") "__init__", "__init__", "Full.__init__", defArgs sFullInit, defBody sFullInit, defScope sFullInit, fun K => He.ga K "Full"⟩
def CLO5 : DefC := ⟨fun K => He.ma K (He.ga K "Late") "__init__", "__init__", "Late.__init__", defArgs sLateInit, defBody sLateInit, defScope sLateInit, fun K => He.ga K "Late"⟩
def nmC : List PySem.Str := ["Limits", "Gate", "Bounded", "Prompt", "Trying", "Full", "Late", "BurstError"]
def nmF : List PySem.Str := ["is_integer", "is_between", "is_pair", "is_row", "stretch_sum", "are_pairs", "need_limits", "need_row", "first_broken", "verdict", "allowed_now", "let_through", "passed", "ticks_of", "waits_of", "waits", "waiting", "_law_cell", "_law_pen", "_law_draw", "_law_pairs", "_law_limits", "_law_row", "_law_right", "law", "_law_ends_right", "_law_bounded_right", "_law_prompt_right", "_law_slow_right"]
def cn : List DefC := [CLO0, CLO1, CLO2, CLO3, CLO4, CLO5]
abbrev R : PySem.W.OpenRow := PySem.W.OpenLaw.row PySem.Challenge.rw_burstlimits_k50_whole_gates_and_rows
abbrev hk : PySem.W.Hook := hookB nmC nmF fa fn cn
def ob (s : PySem.W.SharedT) : He.AlD := obsBG nmC nmF fa fn cn (HandSHeadRun.getT s)
theorem ob_eq (s : PySem.W.SharedT) : ob s = hk.obs s.abs := obsBG_eq (HandSHeadRun.getT_eq s)
theorem run (w : World) : HandSHeadRun.RunEq R (PySem.W.view R.prog [66]) hk ob 16000 loose w := by
  intro os
  kernel_rfl
theorem txt_of {K : PySem.W.Frag} {h : Heap} {mg : Str → Option Value} (X : K.In h) (G : h.Ns mainGlobals mg) (c : SaysB fa fn cn K) : Txt K mg (He.ga K "Limits") :=
  { cl := He.cls_ok (c.fact 0 (f := .cls "Limits") rfl),
    nK := He.noat_ok (c.fact 1 (f := .noat "Limits" "kept") rfl),
    mgC := He.glo_ok X G (c.fact 2 (f := .glo "Limits") rfl),
    z_isinstance := He.free_ok X G (c.fact 3 (f := .free "isinstance") rfl),
    z_int := He.free_ok X G (c.fact 4 (f := .free "int") rfl),
    z_bool := He.free_ok X G (c.fact 5 (f := .free "bool") rfl),
    z_tuple := He.free_ok X G (c.fact 6 (f := .free "tuple") rfl),
    z_list := He.free_ok X G (c.fact 7 (f := .free "list") rfl),
    z_len := He.free_ok X G (c.fact 8 (f := .free "len") rfl),
    z_all := He.free_ok X G (c.fact 9 (f := .free "all") rfl),
    z_sum := He.free_ok X G (c.fact 10 (f := .free "sum") rfl),
    z_set := He.free_ok X G (c.fact 11 (f := .free "set") rfl),
    z_range := He.free_ok X G (c.fact 12 (f := .free "range") rfl),
    z_enumerate := He.free_ok X G (c.fact 13 (f := .free "enumerate") rfl),
    z_min := He.free_ok X G (c.fact 14 (f := .free "min") rfl),
    z_max := He.free_ok X G (c.fact 15 (f := .free "max") rfl),
    z_zip := He.free_ok X G (c.fact 16 (f := .free "zip") rfl),
    i_length := He.int_ok X G (c.fact 17 (f := .int "MOST_LENGTH" 20) rfl),
    i_number := He.int_ok X G (c.fact 18 (f := .int "MOST_NUMBER" 20) rfl),
    i_requests := He.int_ok X G (c.fact 19 (f := .int "MOST_REQUESTS" 60) rfl),
    i_limits := He.int_ok X G (c.fact 20 (f := .int "MOST_LIMITS" 6) rfl),
    t_kept := He.str_ok X G (c.fact 21 (f := .str "KEPT" "kept") rfl),
    t_broken := He.str_ok X G (c.fact 22 (f := .str "BROKEN" "broken") rfl),
    g_is_integer := gf_of (c.def_ 0 (d := DEF0) rfl) (He.glo_ok X G (c.fact 23 (f := .glo "is_integer") rfl)),
    g_is_between := gf_of (c.def_ 1 (d := DEF1) rfl) (He.glo_ok X G (c.fact 24 (f := .glo "is_between") rfl)),
    g_is_pair := gf_of (c.def_ 2 (d := DEF2) rfl) (He.glo_ok X G (c.fact 25 (f := .glo "is_pair") rfl)),
    g_is_row := gf_of (c.def_ 3 (d := DEF3) rfl) (He.glo_ok X G (c.fact 26 (f := .glo "is_row") rfl)),
    g_stretch := gf_of (c.def_ 4 (d := DEF4) rfl) (He.glo_ok X G (c.fact 27 (f := .glo "stretch_sum") rfl)),
    g_are_pairs := gf_of (c.def_ 5 (d := DEF5) rfl) (He.glo_ok X G (c.fact 28 (f := .glo "are_pairs") rfl)),
    g_need_limits := gf_of (c.def_ 6 (d := DEF6) rfl) (He.glo_ok X G (c.fact 29 (f := .glo "need_limits") rfl)),
    g_need_row := gf_of (c.def_ 7 (d := DEF7) rfl) (He.glo_ok X G (c.fact 30 (f := .glo "need_row") rfl)),
    g_first_broken := gf_of (c.def_ 8 (d := DEF8) rfl) (He.glo_ok X G (c.fact 31 (f := .glo "first_broken") rfl)),
    g_verdict := gf_of (c.def_ 9 (d := DEF9) rfl) (He.glo_ok X G (c.fact 32 (f := .glo "verdict") rfl)),
    g_allowed := gf_of (c.def_ 10 (d := DEF10) rfl) (He.glo_ok X G (c.fact 33 (f := .glo "allowed_now") rfl)),
    g_let_through := gf_of (c.def_ 11 (d := DEF11) rfl) (He.glo_ok X G (c.fact 34 (f := .glo "let_through") rfl)),
    g_passed := gf_of (c.def_ 12 (d := DEF12) rfl) (He.glo_ok X G (c.fact 35 (f := .glo "passed") rfl)),
    g_ticks_of := gf_of (c.def_ 13 (d := DEF13) rfl) (He.glo_ok X G (c.fact 36 (f := .glo "ticks_of") rfl)),
    g_waits_of := gf_of (c.def_ 14 (d := DEF14) rfl) (He.glo_ok X G (c.fact 37 (f := .glo "waits_of") rfl)),
    g_waits := gf_of (c.def_ 15 (d := DEF15) rfl) (He.glo_ok X G (c.fact 38 (f := .glo "waits") rfl)),
    g_waiting := gf_of (c.def_ 16 (d := DEF16) rfl) (He.glo_ok X G (c.fact 39 (f := .glo "waiting") rfl)),
    g_cell := gf_of (c.def_ 17 (d := DEF17) rfl) (He.glo_ok X G (c.fact 40 (f := .glo "_law_cell") rfl)),
    g_pen := gf_of (c.def_ 18 (d := DEF18) rfl) (He.glo_ok X G (c.fact 41 (f := .glo "_law_pen") rfl)),
    g_draw := gf_of (c.def_ 19 (d := DEF19) rfl) (He.glo_ok X G (c.fact 42 (f := .glo "_law_draw") rfl)),
    g_pairs := gf_of (c.def_ 20 (d := DEF20) rfl) (He.glo_ok X G (c.fact 43 (f := .glo "_law_pairs") rfl)),
    g_limits := gf_of (c.def_ 21 (d := DEF21) rfl) (He.glo_ok X G (c.fact 44 (f := .glo "_law_limits") rfl)),
    g_row := gf_of (c.def_ 22 (d := DEF22) rfl) (He.glo_ok X G (c.fact 45 (f := .glo "_law_row") rfl)),
    g_right := gf_of (c.def_ 23 (d := DEF23) rfl) (He.glo_ok X G (c.fact 46 (f := .glo "_law_right") rfl)),
    isC := if_pos (by simp),
    ty := fun H a dx fs e => (ex_ok c.ex).ty e (He.cls_ok (c.fact 0 (f := .cls "Limits") rfl)),
    ini := by obtain ⟨fd, F⟩ := c.def_ 24 (d := DEF24) rfl; exact ⟨_, fd, He5.fun_of F, He.mkr_ok (c.fact 47 (f := .mkr "Limits") rfl)⟩,
    sgl := by obtain ⟨fd, F⟩ := c.def_ 25 (d := DEF25) rfl; exact ⟨_, fd, _, _, He5.fun_of F, (ex_ok c.ex).cr, (ex_ok c.ex).cm⟩,
    prs := by obtain ⟨fd, F⟩ := c.def_ 26 (d := DEF26) rfl; exact ⟨_, fd, _, He5.fun_of F, (ex_ok c.ex).pr⟩,
    add := by obtain ⟨fd, F⟩ := c.def_ 27 (d := DEF27) rfl; exact ⟨_, fd, He5.fun_of F, (ex_ok c.ex).ad⟩ }
theorem top_super : (PP.main.scope.names.lookup ("super" : Str)).isSome = false := by kernel_rfl
theorem txtg_of {K : PySem.W.Frag} {h : Heap} {mg : Str → Option Value} (X : K.In h) (G : h.Ns mainGlobals mg) (c : SaysB fa fn cn K) :
    TxtG PP K mg (He.ga K "Limits") (gfn K (He.ga K "Gate")) (He.ga K "Gate") (He.ga K "Bounded") (He.ga K "Prompt") (He.ga K "Trying") (He.ga K "Full") (He.ga K "Late") (He.ma K (He.ga K "Gate") "judge") (He.ma K (He.ga K "Bounded") "judge") (He.ma K (He.ga K "Prompt") "judge") :=
  { mgG := He.glo_ok X G (c.fact 49 (f := .glo "Gate") rfl),
    fs := ⟨(fn_of (x := "come") (qual := "Gate.come") (st := sGCome) (f := (fun K => He5.wf K (He.ga K "Gate") "property" "come") K) (kws := He5.DefA.kws K DEF29) (c.def_ 29 (d := DEF29) rfl)), (fn_of (x := "through") (qual := "Gate.through") (st := sGThrough) (f := (fun K => He5.wf K (He.ga K "Gate") "property" "through") K) (kws := He5.DefA.kws K DEF30) (c.def_ 30 (d := DEF30) rfl)), (fn_of (x := "waiting") (qual := "Gate.waiting") (st := sGWaiting) (f := (fun K => He5.wf K (He.ga K "Gate") "property" "waiting") K) (kws := He5.DefA.kws K DEF31) (c.def_ 31 (d := DEF31) rfl)), (fn_of (x := "after") (qual := "Gate.after") (st := sGAfter) (f := (fun K => He.ma K (He.ga K "Gate") "after") K) (kws := He5.DefA.kws K DEF32) (c.def_ 32 (d := DEF32) rfl)), (fn_of (x := "tick") (qual := "Gate.tick") (st := sGTick) (f := (fun K => He.ma K (He.ga K "Gate") "tick") K) (kws := He5.DefA.kws K DEF33) (c.def_ 33 (d := DEF33) rfl)), (fn_of (x := "__call__") (qual := "Gate.__call__") (st := sGCall) (f := (fun K => He.ma K (He.ga K "Gate") "__call__") K) (kws := He5.DefA.kws K DEF34) (c.def_ 34 (d := DEF34) rfl))⟩,
    gg := gateB_ok (c.exg 0),
    gx := {
      ini := by obtain ⟨fd, F⟩ := (fn_of (x := "__init__") (qual := "Gate.__init__") (st := sGInit) (f := (fun K => He.ma K (He.ga K "Gate") "__init__") K) (kws := He5.DefA.kws K DEF35) (c.def_ 35 (d := DEF35) rfl)); exact ⟨_, fd, F, mkB_ok (c.exg 7) (c.exg 8)⟩,
      judge := (fn_of (x := "judge") (qual := "Gate.judge") (st := sGJudge) (f := (fun K => He.ma K (He.ga K "Gate") "judge") K) (kws := He5.DefA.kws K DEF36) (c.def_ 36 (d := DEF36) rfl)),
      changes := by obtain ⟨fd, F⟩ := (fn_of (x := "changes") (qual := "Gate.changes") (st := sGChanges) (f := (fun K => He5.wf K (He.ga K "Gate") "property" "changes") K) (kws := He5.DefA.kws K DEF37) (c.def_ 37 (d := DEF37) rfl)); exact ⟨_, fd, _, F, propB_ok (c.exg 9)⟩,
      set := by obtain ⟨fd, F⟩ := (fn_of (x := "come") (qual := "Gate.come") (st := sGSet) (f := (fun K => ws K (He.ga K "Gate") "come") K) (kws := He5.DefA.kws K DEF38) (c.def_ 38 (d := DEF38) rfl)); exact ⟨_, fd, _, F, setB_ok (c.exg 10)⟩,
      assign := by obtain ⟨fd, F⟩ := (fn_of (x := "assign_come") (qual := "Gate.assign_come") (st := sGAssign) (f := (fun K => He.ma K (He.ga K "Gate") "assign_come") K) (kws := He5.DefA.kws K DEF39) (c.def_ 39 (d := DEF39) rfl)); exact ⟨_, fd, F, methB_ok (c.exg 11)⟩,
      rest := by obtain ⟨fd, F⟩ := (fn_of (x := "rest") (qual := "Gate.rest") (st := sGRest) (f := (fun K => He.ma K (He.ga K "Gate") "rest") K) (kws := He5.DefA.kws K DEF40) (c.def_ 40 (d := DEF40) rfl)); exact ⟨_, fd, F, methB_ok (c.exg 12)⟩,
      undo := by obtain ⟨fd, F⟩ := (fn_of (x := "undo") (qual := "Gate.undo") (st := sGUndo) (f := (fun K => He.ma K (He.ga K "Gate") "undo") K) (kws := He5.DefA.kws K DEF41) (c.def_ 41 (d := DEF41) rfl)); exact ⟨_, fd, F, methB_ok (c.exg 13)⟩,
      run := by obtain ⟨fd, F⟩ := (fn_of (x := "run") (qual := "Gate.run") (st := sGRun) (f := (fun K => He.ma K (He.ga K "Gate") "run") K) (kws := He5.DefA.kws K DEF42) (c.def_ 42 (d := DEF42) rfl)); exact ⟨_, fd, F, methB_ok (c.exg 14)⟩,
      trying := by obtain ⟨fd, F⟩ := (fn_of (x := "trying") (qual := "Gate.trying") (st := sGTrying) (f := (fun K => He.ma K (He.ga K "Gate") "trying") K) (kws := He5.DefA.kws K DEF43) (c.def_ 43 (d := DEF43) rfl)); exact ⟨_, fd, F, methB_ok (c.exg 15)⟩,
      len := by obtain ⟨fd, F⟩ := (fn_of (x := "__len__") (qual := "Gate.__len__") (st := sGLen) (f := (fun K => He.ma K (He.ga K "Gate") "__len__") K) (kws := He5.DefA.kws K DEF44) (c.def_ 44 (d := DEF44) rfl)); exact ⟨_, fd, F, lenB_ok (c.exg 16)⟩ },
    b := {
      mgC := He.glo_ok X G (c.fact 50 (f := .glo "Bounded") rfl), gc := gateB_ok (c.exg 1), nX := noB_ok (c.exg 17),
      ini := by obtain ⟨fd, F⟩ := c.clo 0 (d := CLO0) (st := sBInit); obtain ⟨fdg, FG⟩ := (fn_of (x := "__init__") (qual := "Gate.__init__") (st := sGInit) (f := (fun K => He.ma K (He.ga K "Gate") "__init__") K) (kws := He5.DefA.kws K DEF35) (c.def_ 35 (d := DEF35) rfl)); exact ⟨_, fd, _, _, _, fdg, F, mkB_ok (c.exg 18) (c.exg 19), superB_ok F top_super (c.exg 20), FG⟩,
      jd := by obtain ⟨fd, F⟩ := c.clo 1 (d := CLO1) (st := sBJudge); obtain ⟨fdg, FG⟩ := (fn_of (x := "judge") (qual := "Gate.judge") (st := sGJudge) (f := (fun K => He.ma K (He.ga K "Gate") "judge") K) (kws := He5.DefA.kws K DEF36) (c.def_ 36 (d := DEF36) rfl)); exact ⟨fd, _, _, _, fdg, F, superB_ok F top_super (c.exg 21), FG⟩ },
    p := {
      mgC := He.glo_ok X G (c.fact 51 (f := .glo "Prompt") rfl), gc := gateB_ok (c.exg 2), nX := noB_ok (c.exg 22),
      ini := by obtain ⟨fd, F⟩ := c.clo 2 (d := CLO2) (st := sPInit); obtain ⟨fdg, FG⟩ := (fn_of (x := "__init__") (qual := "Gate.__init__") (st := sGInit) (f := (fun K => He.ma K (He.ga K "Gate") "__init__") K) (kws := He5.DefA.kws K DEF35) (c.def_ 35 (d := DEF35) rfl)); exact ⟨_, fd, _, _, _, fdg, F, mkB_ok (c.exg 23) (c.exg 24), superB_ok F top_super (c.exg 25), FG⟩,
      jd := by obtain ⟨fd, F⟩ := c.clo 3 (d := CLO3) (st := sPJudge); obtain ⟨fdg, FG⟩ := (fn_of (x := "judge") (qual := "Gate.judge") (st := sGJudge) (f := (fun K => He.ma K (He.ga K "Gate") "judge") K) (kws := He5.DefA.kws K DEF36) (c.def_ 36 (d := DEF36) rfl)); exact ⟨fd, _, _, _, fdg, F, superB_ok F top_super (c.exg 26), FG⟩ },
    t := {
      mgT := He.glo_ok X G (c.fact 52 (f := .glo "Trying") rfl), cl := clsB_ok (c.exg 27), nG := noB_ok (c.exg 28), nK := noB_ok (c.exg 29), ini := by obtain ⟨fd, F⟩ := (fn_of (x := "__init__") (qual := "Trying.__init__") (st := sTryInit) (f := (fun K => He.ma K (He.ga K "Trying") "__init__") K) (kws := He5.DefA.kws K DEF45) (c.def_ 45 (d := DEF45) rfl)); exact ⟨_, fd, F, mkB_ok (c.exg 30) (c.exg 31)⟩,
      wi := by obtain ⟨fde, FE⟩ := (fn_of (x := "__enter__") (qual := "Trying.__enter__") (st := sTryEnter) (f := (fun K => He.ma K (He.ga K "Trying") "__enter__") K) (kws := He5.DefA.kws K DEF46) (c.def_ 46 (d := DEF46) rfl)); obtain ⟨fdx, FX⟩ := (fn_of (x := "__exit__") (qual := "Trying.__exit__") (st := sTryExit) (f := (fun K => He.ma K (He.ga K "Trying") "__exit__") K) (kws := He5.DefA.kws K DEF47) (c.def_ 47 (d := DEF47) rfl)); exact ⟨_, _, fde, fdx, FE, FX, withB_ok (c.exg 32) (c.exg 33)⟩ },
    full := by obtain ⟨fd, F⟩ := c.clo 4 (d := CLO4) (st := sFullInit); exact excB_ok (He.glo_ok X G (c.fact 53 (f := .glo "Full") rfl)) F top_super (c.exg 34),
    xF := of_decide_eq_true (inAll (c.exg 34) 10 rfl),
    late := by obtain ⟨fd, F⟩ := c.clo 5 (d := CLO5) (st := sLateInit); exact excB_ok (He.glo_ok X G (c.fact 54 (f := .glo "Late") rfl)) F top_super (c.exg 35),
    xL := of_decide_eq_true (inAll (c.exg 35) 10 rfl),
    z_super := He.free_ok X G (c.fact 55 (f := .free "super") rfl),
    i_patience := He.int_ok X G (c.fact 56 (f := .int "MOST_PATIENCE" 100) rfl),
    nG := ne_ok (c.exg 3),
    nB := ne_ok (c.exg 4),
    nP := ne_ok (c.exg 5),
    nT := ne_ok (c.exg 6),
    g_ends := gf_of (c.def_ 48 (d := DEF48) rfl) (He.glo_ok X G (c.fact 57 (f := .glo "_law_ends_right") rfl)),
    g_bnd := gf_of (c.def_ 49 (d := DEF49) rfl) (He.glo_ok X G (c.fact 58 (f := .glo "_law_bounded_right") rfl)),
    g_prm := gf_of (c.def_ 50 (d := DEF50) rfl) (He.glo_ok X G (c.fact 59 (f := .glo "_law_prompt_right") rfl)),
    g_slow := gf_of (c.def_ 51 (d := DEF51) rfl) (He.glo_ok X G (c.fact 60 (f := .glo "_law_slow_right") rfl)) }
/-- a law's end, what may raise by the world -/
theorem walk_ofW {l : PySem.W.OpenLaw} {n k : Nat} {q : Program} {loose : List Str} {XP : (Str → Option Value) → Heap → Prop} {YP : World → Heap → Prop} {d : DefRec} {x : Str}
    (hn : l.most = some n) (hn2 : n ≤ sizeLine) (hdf : d.params.defaults = []) (hr : Room k callerA)
    (F : ∀ (w : World) (mg : Str → Option Value) (fa : Addr) (h : Heap), YP w h → h.Ns mainGlobals mg → mg d.name = some (.ref fa) →
      ∃ (K : PySem.W.Frag) (fd : FuncData) (sp : Sp), K.In h ∧ (∀ (s : Shared) (u : Value), BindsTo s fd ⟨[u], []⟩ [(x, u)]) ∧
        (∀ (H : Hp) (a : Addr) (ns : List Int), ns.length ≤ n → Only H → SqL K H a (ns.map V.int) → sp [.ref a] H (fun v _ => v = .bl true) fun _ _ _ => False) ∧
        ∀ base : Heap, K.In base → base.Ns mainGlobals mg → FnOk l.prog w K mg base (L2.CX l.prog w) k fa fd [x] sp) :
    PySem.W.WalkO q loose XP YP l.row.toRowW d [] (fun f vs => PySem.call f vs) := by
  refine Att.attach_call hn hdf fun w s₀ s₁ mg mb fa o pm cd doc a vs ns G Y ho hd hcd hmg hobj hints hlen hg => ?_
  obtain ⟨K, fd, sp, KX, hb, hsp, hF⟩ := F w mg fa _ Y G.T.g hmg
  refine law_call KX G.T.g G.T.b G.T.builtins G.T.nolimit hg hobj hints (Nat.le_trans hlen hn2) hr hF hb (fun H hO hS => hsp H a ns hlen hO hS) fun H e s' h => ?_
  obtain ⟨_, _, _, _, _, _, _, _, _, _, _, _, z⟩ := h
  exact z
theorem facts {w : World} {K : PySem.W.Frag} {h : Heap} {mg : Str → Option Value} {f : Addr} (X : K.In h) (G : h.Ns mainGlobals mg) (hfa : mg ("law" : Str) = some (.ref f)) (c : SaysB fa fn cn K) :
    ∃ fd : FuncData, (∀ (s : Shared) (v : Value), BindsTo s fd ⟨[v], []⟩ [("_law_script", v)]) ∧ ∀ base : Heap, K.In base → base.Ns mainGlobals mg → FnOk PP w K mg base (L2.CX PP w) 15 f fd ["_law_script"] (sp_law K) := by
  obtain ⟨fd, F⟩ := c.def_ 28 (d := DEF28) rfl
  have e := hfa.symm.trans (He.glo_ok X G (c.fact 48 (f := .glo "law") rfl))
  cases e
  have b := FunD.bindsA (ps := ["_law_script"]) F fun _ _ _ _ _ _ us hl => match us, hl with | [_], _ => rfl
  exact ⟨fd, fun s v => b s [v] rfl, fun base _ _ => ok_law (txt_of X G c) (txtg_of X G c) (He5.fun_of F)⟩
end B50
open PySem PySem.W PySem.Calls PyProof.Rows
theorem PySem.Challenge.cw_burstlimits_k50_whole_gates_and_rows_holds : PySem.Challenge.rw_burstlimits_k50_whole_gates_and_rows.Holds := by
  w_on; o_law
  refine HandSHeadRun.head_any (r := OpenLaw.row PySem.Challenge.rw_burstlimits_k50_whole_gates_and_rows) (q := view (OpenLaw.row PySem.Challenge.rw_burstlimits_k50_whole_gates_and_rows).prog [66]) (H := B50.hk) (ob := B50.ob) (M := 16000) (loose := B50.loose) (d := HandSHeadRun.topDef (OpenLaw.row PySem.Challenge.rw_burstlimits_k50_whole_gates_and_rows).prog 66) (kwd := []) B50.ob_eq
    (by kernel_rfl) (fun s => by kernel_rfl) B50.run (by kernel_rfl) (by kernel_rfl) (by kernel_rfl) (by rfl) (by first | assumption | decide +kernel) (by decide +kernel) ⟨rfl, rfl, rfl, rfl, rfl, by decide +kernel⟩ ?hw ?hc
  case hw => w_witness2
  case hc =>
    refine B50.walk_ofW (l := PySem.Challenge.rw_burstlimits_k50_whole_gates_and_rows) (n := 63) (k := 15) (x := "_law_script") rfl (by decide) (by kernel_rfl) ⟨rfl, by decide, by decide⟩ ?F
    intro w mg fa h Y G hmg0
    obtain ⟨K, KX, c⟩ := Y
    have hmg : mg ("law" : PySem.Str) = some (.ref fa) := by
      have e : (HandSHeadRun.topDef (OpenLaw.row PySem.Challenge.rw_burstlimits_k50_whole_gates_and_rows).prog 66).name = ("law" : PySem.Str) := by kernel_rfl
      rw [← e]
      exact hmg0
    obtain ⟨fd, hb, hF⟩ := B50.facts (w := w) KX G hmg c
    exact ⟨K, fd, B50.sp_law K, KX, hb, fun H a ns hl _ hS => ⟨a, ns, rfl, hS, by omega, fun _ => rfl⟩, hF⟩
