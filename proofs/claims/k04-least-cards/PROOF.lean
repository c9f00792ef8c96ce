import PyProof.Rows.All
import Wide.All
import OpenK.AllK
import Wide.FinOn
import HandS.ForMost
import HandS.ForExc
import HandS.Wide
import HandS.WideMore
import HandS.Sort
import HandS.SortRule
import HandS.SortInts
import HandS.RevRange
import HandS.Conv
import HandS.Style
import HandS.IsInst
import HandS.TryMany
import HandS.Small
import HandS.Flow
import HandS.Codes
import HandS.EndBits
import HandS.ExcBuiltin
import HandS.ExcInit
import HandS.ExcField
import HandS.TupAny
import HandS.DictTup
import PySem.Challenge.RW_longround_k04_whole_least_cards
set_option Elab.async false
set_option linter.all false
set_option maxRecDepth 100000
set_option maxHeartbeats 4000000
namespace LM
/-! ### primes -/
def isP (n : Nat) : Bool := decide (2 ≤ n) && (List.range' 2 (n - 2)).all fun d => n % d != 0
theorem isP_iff {n : Nat} : isP n = true ↔ 2 ≤ n ∧ ∀ d, 2 ≤ d → d < n → n % d ≠ 0 := by
  unfold isP
  rw [Bool.and_eq_true, decide_eq_true_eq, List.all_eq_true]
  constructor
  · rintro ⟨h2, h⟩
    refine ⟨h2, fun d hd hn e => ?_⟩
    have := h d (List.mem_range'_1.mpr ⟨hd, by omega⟩)
    rw [e] at this
    exact absurd this (by decide)
  · rintro ⟨h2, h⟩
    refine ⟨h2, fun d hd => ?_⟩
    obtain ⟨h3, h4⟩ := List.mem_range'_1.mp hd
    have := h d h3 (by omega)
    simpa using this
theorem isP_two {n : Nat} (h : isP n = true) : 2 ≤ n := (isP_iff.mp h).1
def primesTo (n : Nat) : List Nat := (List.range' 2 (n - 1)).filter isP
theorem mem_primesTo {n p : Nat} : p ∈ primesTo n ↔ isP p = true ∧ p ≤ n := by
  unfold primesTo
  rw [List.mem_filter, List.mem_range'_1]
  constructor
  · rintro ⟨⟨a, b⟩, c⟩
    exact ⟨c, by omega⟩
  · rintro ⟨a, b⟩
    have := isP_two a
    exact ⟨⟨this, by omega⟩, a⟩
theorem primesTo_split {m n : Nat} (h : m ≤ n) : ∃ r, primesTo n = primesTo m ++ r ∧ ∀ p ∈ r, m < p := by
  unfold primesTo
  by_cases hm : m = 0
  · subst hm
    refine ⟨_, rfl, fun p hp => ?_⟩
    obtain ⟨h1, _⟩ := List.mem_filter.mp hp
    have := (List.mem_range'_1.mp h1).1
    omega
  · refine ⟨(List.range' (m + 1) (n - m)).filter isP, ?_, fun p hp => ?_⟩
    · rw [← List.filter_append]
      congr 1
      have := List.range'_append_1 (s := 2) (m := m - 1) (n := n - m)
      rw [show 2 + (m - 1) = m + 1 by omega] at this
      rw [this]
      congr 1
      omega
    · obtain ⟨h1, _⟩ := List.mem_filter.mp hp
      have := (List.mem_range'_1.mp h1).1
      omega
/-- the sieve ahead of the number k: j is not crossed out -/
def kn (k j : Nat) : Bool := (List.range' 2 (k - 2)).all fun p => !(isP p && decide (j % p = 0) && decide (p * p ≤ j))
theorem kn_two (j : Nat) : kn 2 j = true := rfl
theorem kn_iff {k j : Nat} : kn k j = true ↔ ∀ p, isP p = true → p < k → p * p ≤ j → j % p ≠ 0 := by
  unfold kn
  rw [List.all_eq_true]
  constructor
  · intro h p hp hk hj e
    have := h p (List.mem_range'_1.mpr ⟨isP_two hp, by have := isP_two hp; omega⟩)
    rw [hp, decide_eq_true e, decide_eq_true hj] at this
    exact absurd this (by decide)
  · intro h p hp
    obtain ⟨h1, h2⟩ := List.mem_range'_1.mp hp
    cases hq : isP p with
    | false => rfl
    | true =>
      by_cases hj : p * p ≤ j
      · have := h p hq (by omega) hj
        rw [decide_eq_false this]
        rfl
      · rw [decide_eq_false hj, Bool.and_false]
        rfl
theorem kn_succ {k j : Nat} (hk : 2 ≤ k) : kn (k + 1) j = (kn k j && !(isP k && decide (j % k = 0) && decide (k * k ≤ j))) := by
  unfold kn
  rw [show k + 1 - 2 = (k - 2) + 1 by omega, List.range'_1_concat, List.all_append, show 2 + (k - 2) = k by omega]
  simp
/-- the least divisor from 2 on is a prime -/
theorem least_div {n : Nat} (h : 2 ≤ n) : ∃ p, isP p = true ∧ n % p = 0 ∧ (isP n = false → p * p ≤ n) := by
  have key : ∀ f d, 2 ≤ d → n ≤ d + f → (∀ e, 2 ≤ e → e < d → n % e ≠ 0) → ∃ p, 2 ≤ p ∧ n % p = 0 ∧ ∀ e, 2 ≤ e → e < p → n % e ≠ 0 := by
    intro f
    induction f with
    | zero =>
      intro d hd hn hall
      refine ⟨n, h, Nat.mod_self n, fun e he hn' => hall e he (by omega)⟩
    | succ f ih =>
      intro d hd hn hall
      by_cases e : n % d = 0
      · exact ⟨d, hd, e, hall⟩
      · refine ih (d + 1) (by omega) (by omega) fun e' he hlt => ?_
        by_cases ed : e' = d
        · subst ed
          exact e
        · exact hall e' he (by omega)
  obtain ⟨p, hp, hd, hall⟩ := key n 2 (Nat.le_refl 2) (by omega) (fun e h1 h2 => by omega)
  have hpp : isP p = true := isP_iff.mpr ⟨hp, fun d h1 h2 e => hall d h1 h2 (Nat.mod_eq_zero_of_dvd (Nat.dvd_trans (Nat.dvd_of_mod_eq_zero e) (Nat.dvd_of_mod_eq_zero hd)))⟩
  refine ⟨p, hpp, hd, fun hn => ?_⟩
  obtain ⟨q, hq⟩ := Nat.dvd_of_mod_eq_zero hd
  have hq0 : q ≠ 0 := by
    intro z
    rw [z, Nat.mul_zero] at hq
    omega
  have hq1 : q ≠ 1 := by
    intro z
    rw [z, Nat.mul_one] at hq
    rw [hq, hpp] at hn
    cases hn
  have hpq : p ≤ q := by
    rcases Nat.lt_or_ge q p with c | c
    · exact absurd (Nat.mod_eq_zero_of_dvd ⟨p, by rw [hq, Nat.mul_comm]⟩) (hall q (by omega) c)
    · exact c
  rw [hq]
  exact Nat.mul_le_mul_left p hpq
theorem kn_self {j : Nat} (h : 2 ≤ j) : kn j j = isP j := by
  cases e : isP j with
  | true =>
    refine kn_iff.mpr fun p hp hk _ => (isP_iff.mp e).2 p (isP_two hp) hk
  | false =>
    cases q : kn j j with
    | false => rfl
    | true =>
      obtain ⟨p, hp, hd, hs⟩ := least_div h
      have h2 := isP_two hp
      have hs := hs e
      have hlt : p < j := by
        have := Nat.mul_le_mul_right p h2
        omega
      exact absurd hd (kn_iff.mp q p hp hlt hs)
/-- j is one of the first i of k * k, k * k + k, .. -/
def hit (k i j : Nat) : Bool := (List.range i).any fun t => decide (j = k * k + t * k)
theorem hit_succ (k i j : Nat) : hit k (i + 1) j = (hit k i j || decide (j = k * k + i * k)) := by
  unfold hit
  rw [List.range_succ, List.any_append]
  simp
theorem hit_all {k n i j : Nat} (hk : 2 ≤ k) (hj : j ≤ n) (hi : ∀ t, k * k + t * k ≤ n → t < i) : hit k i j = (decide (j % k = 0) && decide (k * k ≤ j)) := by
  rw [Bool.eq_iff_iff]
  unfold hit
  rw [List.any_eq_true, Bool.and_eq_true, decide_eq_true_eq, decide_eq_true_eq]
  constructor
  · rintro ⟨t, _, e⟩
    have e := of_decide_eq_true e
    refine ⟨?_, by omega⟩
    rw [e, ← Nat.add_mul, Nat.mul_mod_left]
  · rintro ⟨e, hle⟩
    obtain ⟨q, hq⟩ := Nat.dvd_of_mod_eq_zero e
    have hkq : k ≤ q := by
      rw [hq] at hle
      exact Nat.le_of_mul_le_mul_left hle (by omega)
    have e2 : j = k * k + (q - k) * k := by
      rw [← Nat.add_mul, hq, Nat.mul_comm]
      congr 1
      omega
    exact ⟨q - k, List.mem_range.mpr (hi _ (by omega)), decide_eq_true e2⟩
/-! ### the table -/
def bestPow (f : Nat → Nat) (p m : Nat) : Nat → Nat
  | 0 => f m
  | k + 1 => if p ^ (k + 1) ≤ m then max (bestPow f p m k) (f (m - p ^ (k + 1)) * p ^ (k + 1)) else bestPow f p m k
def stepP (f : Nat → Nat) (p : Nat) : Nat → Nat := fun m => bestPow f p m m
theorem pow_big {p k m : Nat} (hp : 2 ≤ p) (hk : m ≤ k) : m < p ^ k := by
  have h1 : k < 2 ^ k := Nat.lt_two_pow_self
  have h2 : 2 ^ k ≤ p ^ k := Nat.pow_le_pow_left hp k
  omega
theorem bestPow_stop {f : Nat → Nat} {p m k : Nat} (hp : 2 ≤ p) (hk : m < p ^ (k + 1)) : ∀ j, bestPow f p m (k + j) = bestPow f p m k
  | 0 => rfl
  | j + 1 => by
    show (if p ^ (k + j + 1) ≤ m then _ else bestPow f p m (k + j)) = _
    have : p ^ (k + 1) ≤ p ^ (k + j + 1) := Nat.pow_le_pow_right (by omega) (by omega)
    rw [if_neg (by omega)]
    exact bestPow_stop hp hk j
theorem bestPow_end {f : Nat → Nat} {p m k : Nat} (hp : 2 ≤ p) (hk : m < p ^ (k + 1)) : bestPow f p m k = stepP f p m := by
  unfold stepP
  rcases Nat.le_total k m with c | c
  · have := bestPow_stop (f := f) hp hk (m - k)
    rw [show k + (m - k) = m by omega] at this
    exact this.symm
  · have := bestPow_stop (f := f) (m := m) (k := m) hp (pow_big hp (Nat.le_succ m)) (k - m)
    rw [show m + (k - m) = k by omega] at this
    exact this
theorem bestPow_small {f : Nat → Nat} {p m : Nat} (h : m < p) : ∀ k, bestPow f p m k = f m
  | 0 => rfl
  | k + 1 => by
    show (if p ^ (k + 1) ≤ m then _ else bestPow f p m k) = _
    have : p ^ 1 ≤ p ^ (k + 1) := Nat.pow_le_pow_right (by omega) (by omega)
    rw [Nat.pow_one] at this
    rw [if_neg (by omega)]
    exact bestPow_small h k
theorem stepP_small {f : Nat → Nat} {p m : Nat} (h : m < p) : stepP f p m = f m := bestPow_small h m
theorem bestPow_ge {f : Nat → Nat} {p m : Nat} : ∀ k, f m ≤ bestPow f p m k
  | 0 => Nat.le_refl _
  | k + 1 => by
    show _ ≤ (if p ^ (k + 1) ≤ m then max (bestPow f p m k) _ else bestPow f p m k)
    have := bestPow_ge (f := f) (p := p) (m := m) k
    split
    · exact Nat.le_trans this (Nat.le_max_left _ _)
    · exact this
theorem stepP_ge {f : Nat → Nat} {p m : Nat} : f m ≤ stepP f p m := bestPow_ge m
theorem stepP_one {f : Nat → Nat} {p m : Nat} (hp : 1 ≤ p) : f m * p ≤ stepP f p (m + p) := by
  unfold stepP
  have key : ∀ k, f m * p ≤ bestPow f p (m + p) (k + 1) := by
    intro k
    induction k with
    | zero =>
      show _ ≤ (if p ^ (0 + 1) ≤ m + p then max _ (f (m + p - p ^ (0 + 1)) * p ^ (0 + 1)) else _)
      rw [Nat.zero_add, Nat.pow_one, if_pos (by omega), show m + p - p = m by omega]
      exact Nat.le_max_right _ _
    | succ k ih =>
      show _ ≤ (if p ^ (k + 1 + 1) ≤ m + p then max (bestPow f p (m + p) (k + 1)) _ else bestPow f p (m + p) (k + 1))
      split
      · exact Nat.le_trans ih (Nat.le_max_left _ _)
      · exact ih
  have := key (m + p - 1)
  rw [show m + p - 1 + 1 = m + p by omega] at this
  exact this
theorem bestPow_le {f : Nat → Nat} {p m : Nat} (h : ∀ j, j ≤ m → f j ≤ 2 ^ j) : ∀ k, bestPow f p m k ≤ 2 ^ m
  | 0 => h m (Nat.le_refl m)
  | k + 1 => by
    show (if p ^ (k + 1) ≤ m then max (bestPow f p m k) (f (m - p ^ (k + 1)) * p ^ (k + 1)) else bestPow f p m k) ≤ _
    have ih := bestPow_le (p := p) h k
    split
    · rename_i hq
      refine Nat.max_le.mpr ⟨ih, ?_⟩
      have h1 := h (m - p ^ (k + 1)) (by omega)
      have h2 : p ^ (k + 1) ≤ 2 ^ (p ^ (k + 1)) := Nat.le_of_lt Nat.lt_two_pow_self
      refine Nat.le_trans (Nat.mul_le_mul h1 h2) ?_
      rw [← Nat.pow_add, Nat.sub_add_cancel hq]
      exact Nat.le_refl _
    · exact ih
def tab (ps : List Nat) : Nat → Nat := ps.foldl stepP fun _ => 1
theorem tab_snoc (ps : List Nat) (p : Nat) : tab (ps ++ [p]) = stepP (tab ps) p := by
  unfold tab
  rw [List.foldl_append]
  rfl
theorem fold_le (ps : List Nat) : ∀ f : Nat → Nat, (∀ j, f j ≤ 2 ^ j) → ∀ j, (ps.foldl stepP f) j ≤ 2 ^ j := by
  induction ps with
  | nil => exact fun f h => h
  | cons p r ih => exact fun f h => ih (stepP f p) fun j => bestPow_le (fun i _ => h i) j
theorem tab_le (ps : List Nat) (m : Nat) : tab ps m ≤ 2 ^ m := fold_le ps _ (fun j => Nat.one_le_two_pow) m
theorem fold_ge (ps : List Nat) : ∀ (f : Nat → Nat) (m : Nat), f m ≤ (ps.foldl stepP f) m := by
  induction ps with
  | nil => exact fun f m => Nat.le_refl _
  | cons p r ih => exact fun f m => Nat.le_trans stepP_ge (ih (stepP f p) m)
theorem tab_pos (ps : List Nat) (m : Nat) : 1 ≤ tab ps m := fold_ge ps (fun _ => 1) m
theorem fold_small (ps : List Nat) : ∀ (f : Nat → Nat) (m : Nat), (∀ p ∈ ps, m < p) → (ps.foldl stepP f) m = f m := by
  induction ps with
  | nil => exact fun f m _ => rfl
  | cons p r ih => exact fun f m h => (ih (stepP f p) m fun q hq => h q (List.mem_cons_of_mem _ hq)).trans (stepP_small (h p List.mem_cons_self))
/-- the greatest round -/
def G (n : Nat) : Nat := tab (primesTo n) n
theorem tab_G {m n : Nat} (h : m ≤ n) : tab (primesTo n) m = G m := by
  obtain ⟨r, e, hr⟩ := primesTo_split h
  unfold G tab
  rw [e, List.foldl_append]
  exact fold_small r _ m hr
theorem G_pos (n : Nat) : 1 ≤ G n := tab_pos _ _
theorem G_le (n : Nat) : G n ≤ 2 ^ n := tab_le _ _
theorem fold_prod (ps : List Nat) : ∀ (f : Nat → Nat) (m c : Nat), (∀ p ∈ ps, 1 ≤ p) → c ≤ f m → ps.foldl (· * ·) c ≤ (ps.foldl stepP f) (ps.foldl (· + ·) m) := by
  induction ps with
  | nil => exact fun f m c _ h => h
  | cons p r ih =>
    intro f m c hp h
    refine ih (stepP f p) (m + p) (c * p) (fun q hq => hp q (List.mem_cons_of_mem _ hq)) ?_
    exact Nat.le_trans (Nat.mul_le_mul_right p h) (stepP_one (hp p List.mem_cons_self))
theorem G_low {k n s c : Nat} (hs : (primesTo k).foldl (· + ·) 0 = s) (hc : (primesTo k).foldl (· * ·) 1 = c) (hk : k ≤ n) : c ≤ tab (primesTo n) s := by
  obtain ⟨r, e, hr⟩ := primesTo_split hk
  have h := fold_prod (primesTo k) (fun _ => 1) 0 1 (fun p hp => by have := isP_two (mem_primesTo.mp hp).1; omega) (Nat.le_refl 1)
  rw [hs, hc] at h
  refine Nat.le_trans h ?_
  unfold tab
  rw [e, List.foldl_append]
  exact fold_ge r _ s
theorem G_791 : 10 ^ 30 ≤ G 791 := by
  have h := G_low (k := 79) (n := 791) (s := 791) (c := 3217644767340672907899084554130) (by decide +kernel) (by decide +kernel) (by decide)
  refine Nat.le_trans ?_ h
  decide
theorem G_41 : 30030 ≤ G 41 := G_low (k := 13) (n := 41) (s := 41) (c := 30030) (by decide +kernel) (by decide +kernel) (by decide)
/-! ### the powers -/
def strip1 (d : Nat) (s : Nat × Nat) : Nat × Nat := if s.1 % d = 0 then (s.1 / d, s.2 * d) else s
def stripK (d : Nat) (s : Nat × Nat) : Nat → Nat × Nat
  | 0 => s
  | k + 1 => strip1 d (stripK d s k)
theorem stripK_pos {d : Nat} {s : Nat × Nat} (hd : 2 ≤ d) (h : 1 ≤ s.1) : ∀ k, 1 ≤ (stripK d s k).1
  | 0 => h
  | k + 1 => by
    have ih := stripK_pos (s := s) hd h k
    show 1 ≤ (strip1 d (stripK d s k)).1
    unfold strip1
    split
    · rename_i e
      obtain ⟨q, hq⟩ := Nat.dvd_of_mod_eq_zero e
      show 1 ≤ (stripK d s k).1 / d
      rw [hq, Nat.mul_div_cancel_left q (by omega)]
      rcases Nat.eq_zero_or_pos q with z | z
      · rw [z, Nat.mul_zero] at hq
        omega
      · exact z
    · exact ih
theorem stripK_stop {d : Nat} {s : Nat × Nat} {k : Nat} (h : (stripK d s k).1 % d ≠ 0) : ∀ j, stripK d s (k + j) = stripK d s k
  | 0 => rfl
  | j + 1 => by
    show strip1 d (stripK d s (k + j)) = _
    rw [stripK_stop h j]
    unfold strip1
    rw [if_neg h]
theorem stripK_prod {d : Nat} {s : Nat × Nat} (hd : 2 ≤ d) : ∀ k, (stripK d s k).1 * (stripK d s k).2 = s.1 * s.2
  | 0 => rfl
  | k + 1 => by
    have ih := stripK_prod (s := s) hd k
    show (strip1 d (stripK d s k)).1 * (strip1 d (stripK d s k)).2 = _
    unfold strip1
    split
    · rename_i e
      obtain ⟨q, hq⟩ := Nat.dvd_of_mod_eq_zero e
      show (stripK d s k).1 / d * ((stripK d s k).2 * d) = _
      rw [← ih]
      rw [hq, Nat.mul_div_cancel_left q (by omega)]
      rw [Nat.mul_comm (stripK d s k).2 d, ← Nat.mul_assoc, Nat.mul_comm q d]
    · exact ih
theorem stripK_pow {d n : Nat} : ∀ k, (stripK d (n, 1) k).1 % d = 0 → (stripK d (n, 1) k).2 = d ^ k
  | 0, _ => by rw [Nat.pow_zero]; rfl
  | k + 1, h => by
    have e : (stripK d (n, 1) k).1 % d = 0 := by
      by_cases e : (stripK d (n, 1) k).1 % d = 0
      · exact e
      · have : stripK d (n, 1) (k + 1) = stripK d (n, 1) k := stripK_stop e 1
        rw [this] at h
        exact absurd h e
    have ih := stripK_pow k e
    show (strip1 d (stripK d (n, 1) k)).2 = _
    unfold strip1
    rw [if_pos e, Nat.pow_succ, ← ih]
/-- when the stripping has come to its end -/
theorem stripK_done {d n k : Nat} (hd : 2 ≤ d) (hn : 1 ≤ n) (hk : n < 2 ^ k) : (stripK d (n, 1) k).1 % d ≠ 0 := fun e => by
  have h1 := stripK_pow k e
  have h2 := stripK_prod (s := (n, 1)) hd k
  have h3 := stripK_pos (s := (n, 1)) hd hn k
  rw [h1] at h2
  have h4 : 2 ^ k ≤ d ^ k := Nat.pow_le_pow_left hd k
  have h5 : d ^ k ≤ (stripK d (n, 1) k).1 * d ^ k := Nat.le_mul_of_pos_left _ h3
  have h6 : (stripK d (n, 1) k).1 * d ^ k = n := h2.trans (Nat.mul_one n)
  omega
def strip (d n : Nat) : Nat × Nat := stripK d (n, 1) n
theorem strip_end {d n k : Nat} (hd : 2 ≤ d) (hn : 1 ≤ n) (h : (stripK d (n, 1) k).1 % d ≠ 0) : stripK d (n, 1) k = strip d n := by
  have hs : (stripK d (n, 1) n).1 % d ≠ 0 := stripK_done hd hn Nat.lt_two_pow_self
  unfold strip
  rcases Nat.le_total k n with c | c
  · have := stripK_stop h (n - k)
    rw [show k + (n - k) = n by omega] at this
    exact this.symm
  · have := stripK_stop hs (k - n)
    rw [show n + (k - n) = k by omega] at this
    exact this
theorem stripK_le {d n : Nat} : ∀ k, (stripK d (n, 1) k).1 ≤ n
  | 0 => Nat.le_refl _
  | k + 1 => by
    have ih := stripK_le (d := d) (n := n) k
    show (strip1 d (stripK d (n, 1) k)).1 ≤ n
    unfold strip1
    split
    · exact Nat.le_trans (Nat.div_le_self _ _) ih
    · exact ih
/-- left, part, what is found -/
structure PS where
  left : Nat
  part : Nat
  found : List Nat
def PS.go (s : PS) : Prop := s.part * s.part ≤ s.left
instance (s : PS) : Decidable s.go := inferInstanceAs (Decidable (_ ≤ _))
def PS.after (s : PS) : PS := ⟨(strip s.part s.left).1, s.part + 1, if 1 < (strip s.part s.left).2 then s.found ++ [(strip s.part s.left).2] else s.found⟩
def PS.turn (s : PS) : PS := if s.go then s.after else s
def pst (n : Nat) : Nat → PS
  | 0 => ⟨n, 2, []⟩
  | i + 1 => (pst n i).turn
theorem pst_stop {n i : Nat} (h : ¬ (pst n i).go) : ∀ j, pst n (i + j) = pst n i
  | 0 => rfl
  | j + 1 => by
    show (pst n (i + j)).turn = _
    rw [pst_stop h j]
    unfold PS.turn
    rw [if_neg h]
theorem pst_part {n : Nat} : ∀ i, (pst n i).go → (pst n i).part = i + 2
  | 0, _ => rfl
  | i + 1, h => by
    by_cases g : (pst n i).go
    · have ih := pst_part i g
      show (pst n i).turn.part = _
      unfold PS.turn
      rw [if_pos g]
      show (pst n i).part + 1 = _
      rw [ih]
    · have := pst_stop g 1
      rw [this] at h
      exact absurd h g
theorem pst_part2 {n : Nat} : ∀ i, 2 ≤ (pst n i).part
  | 0 => Nat.le_refl _
  | i + 1 => by
    have ih := pst_part2 (n := n) i
    show 2 ≤ (pst n i).turn.part
    unfold PS.turn
    split
    · exact Nat.le_succ_of_le ih
    · exact ih
theorem pst_le {n : Nat} : ∀ i, (pst n i).left ≤ n
  | 0 => Nat.le_refl _
  | i + 1 => by
    have ih := pst_le (n := n) i
    show (pst n i).turn.left ≤ n
    unfold PS.turn
    split
    · exact Nat.le_trans (stripK_le _) ih
    · exact ih
theorem pst_pos {n : Nat} (h : 1 ≤ n) : ∀ i, 1 ≤ (pst n i).left
  | 0 => h
  | i + 1 => by
    have ih := pst_pos h i
    show 1 ≤ (pst n i).turn.left
    unfold PS.turn
    split
    · exact stripK_pos (s := ((pst n i).left, 1)) (pst_part2 i) ih _
    · exact ih
theorem pst_done {n i : Nat} (h : n < (i + 2) * (i + 2)) : ¬ (pst n i).go := fun g => by
  have h1 := pst_part i g
  have h2 := pst_le (n := n) i
  unfold PS.go at g
  rw [h1] at g
  omega
def pend (n : Nat) : PS := pst n n
theorem pst_end {n i : Nat} (h : ¬ (pst n i).go) : pst n i = pend n := by
  have hn : ¬ (pst n n).go := pst_done (by
    have : n * 1 ≤ n * n ∨ n = 0 := by
      rcases Nat.eq_zero_or_pos n with z | z
      · exact .inr z
      · exact .inl (Nat.mul_le_mul_left n z)
    have e : (n + 2) * (n + 2) = n * n + 2 * n + 2 * n + 4 := by rw [Nat.add_mul, Nat.mul_add, Nat.mul_add]; omega
    omega)
  unfold pend
  rcases Nat.le_total i n with c | c
  · have := pst_stop h (n - i)
    rw [show i + (n - i) = n by omega] at this
    exact this.symm
  · have := pst_stop hn (i - n)
    rw [show n + (i - n) = i by omega] at this
    exact this
/-- the powers, as they are found -/
def powersRaw (n : Nat) : List Nat := if 1 < (pend n).left then (pend n).found ++ [(pend n).left] else (pend n).found
theorem pst_part_le {n : Nat} : ∀ i, (pst n i).part ≤ i + 2
  | 0 => Nat.le_refl _
  | i + 1 => by
    have ih := pst_part_le (n := n) i
    show (pst n i).turn.part ≤ _
    unfold PS.turn
    split
    · exact Nat.succ_le_succ ih
    · exact Nat.le_succ_of_le ih
theorem strip_prod {d n : Nat} (hd : 2 ≤ d) : (strip d n).1 * (strip d n).2 = n := (stripK_prod (s := (n, 1)) hd n).trans (Nat.mul_one n)
theorem pst_len {n : Nat} : ∀ i, 2 ^ (pst n i).found.length * (pst n i).left ≤ n
  | 0 => by
    show 2 ^ 0 * n ≤ n
    rw [Nat.pow_zero, Nat.one_mul]
    exact Nat.le_refl _
  | i + 1 => by
    have ih := pst_len (n := n) i
    show 2 ^ (pst n i).turn.found.length * (pst n i).turn.left ≤ n
    unfold PS.turn
    split
    · have h2 := pst_part2 (n := n) i
      have h3 := strip_prod (n := (pst n i).left) h2
      show 2 ^ (pst n i).after.found.length * (strip (pst n i).part (pst n i).left).1 ≤ n
      unfold PS.after
      dsimp only
      split
      · rename_i h4
        rw [List.length_append, List.length_singleton, Nat.pow_succ, Nat.mul_assoc]
        refine Nat.le_trans (Nat.mul_le_mul_left _ ?_) ih
        rw [Nat.mul_comm]
        exact Nat.le_trans (Nat.mul_le_mul_left _ h4) (Nat.le_of_eq h3)
      · refine Nat.le_trans (Nat.mul_le_mul_left _ ?_) ih
        exact stripK_le _
    · exact ih
theorem pst_len' {n b : Nat} (h1 : 1 ≤ n) (h : n < 2 ^ b) (i : Nat) : (pst n i).found.length < b := by
  have h2 := pst_len (n := n) i
  have h3 := pst_pos h1 i
  have h4 : 2 ^ (pst n i).found.length ≤ 2 ^ (pst n i).found.length * (pst n i).left := Nat.le_mul_of_pos_right _ h3
  exact (Nat.pow_lt_pow_iff_right (by decide)).mp (Nat.lt_of_le_of_lt (Nat.le_trans h4 h2) h)
/-- sorted -/
def srt (l : List Nat) : List Nat := l.mergeSort fun a b => decide (a ≤ b)
theorem srt_perm (l : List Nat) : (srt l).Perm l := List.mergeSort_perm _ _
theorem srt_le (l : List Nat) : (srt l).Pairwise (· ≤ ·) := by
  have h := List.pairwise_mergeSort (le := fun a b : Nat => decide (a ≤ b)) (fun a b c h1 h2 => by
    have := of_decide_eq_true h1
    have := of_decide_eq_true h2
    exact decide_eq_true (by omega)) (fun a b => by
    simp only [Bool.or_eq_true, decide_eq_true_eq]
    exact Nat.le_total a b) l
  exact h.imp fun h => of_decide_eq_true h
theorem srt_of {l r : List Nat} (h : r.Perm l) (s : r.Pairwise (· ≤ ·)) : r = srt l :=
  List.Perm.eq_of_pairwise (fun a b _ _ h1 h2 => Nat.le_antisymm h1 h2) s (srt_le l) (h.trans (srt_perm l).symm)
theorem srt_int {l : List Nat} {ns : List Int} (h : ns.Perm (l.map fun n : Nat => (n : Int))) (s : ns.Pairwise (· ≤ ·)) : ns = (srt l).map fun n : Nat => (n : Int) := by
  refine List.Perm.eq_of_pairwise (le := fun a b : Int => a ≤ b) (fun a b _ _ h1 h2 => by omega) s ?_ (h.trans ((srt_perm l).symm.map _))
  rw [List.pairwise_map]
  exact (srt_le l).imp fun h => by omega
def powers (n : Nat) : List Nat := srt (powersRaw n)
end LM
namespace LR
open PySem PySem.Spec PyProof.Rows L2
def topS (i : Nat) : Stmt := PySem.Challenge.pw_longround_k04_whole_least_cards.main.body.getD i (.Pass ⟨0, 0, 0, 0⟩)
/-- a def as it stands behind the top -/
structure Df (K : PySem.W.Frag) (mg : Str → Option Value) (x : Str) (st : Stmt) (ps : List Str) where
  f : Addr
  fd : FuncData
  F : Fun K x x st f fd
  b : Binds K fd ps []
  g : mg x = some (.ref f)
abbrev s_is_integer : Stmt := topS 6
abbrev N_is_integer : List Str := ["value"]
abbrev P_is_integer : List Str := ["value"]
theorem sc_is_integer : FnScope N_is_integer P_is_integer (defScope s_is_integer) := ⟨rfl, rfl, rfl, by decide +kernel, rfl, by decide +kernel, by decide +kernel⟩
abbrev D_is_integer (K : PySem.W.Frag) (mg : Str → Option Value) := Df K mg "is_integer" s_is_integer P_is_integer
abbrev s_is_from : Stmt := topS 7
abbrev N_is_from : List Str := ["value", "low", "high"]
abbrev P_is_from : List Str := ["value", "low", "high"]
theorem sc_is_from : FnScope N_is_from P_is_from (defScope s_is_from) := ⟨rfl, rfl, rfl, by decide +kernel, rfl, by decide +kernel, by decide +kernel⟩
abbrev D_is_from (K : PySem.W.Frag) (mg : Str → Option Value) := Df K mg "is_from" s_is_from P_is_from
abbrev s_primes_to : Stmt := topS 11
abbrev N_primes_to : List Str := ["most", "known", "found", "number", "other"]
abbrev P_primes_to : List Str := ["most"]
theorem sc_primes_to : FnScope N_primes_to P_primes_to (defScope s_primes_to) := ⟨rfl, rfl, rfl, by decide +kernel, rfl, by decide +kernel, by decide +kernel⟩
abbrev D_primes_to (K : PySem.W.Frag) (mg : Str → Option Value) := Df K mg "primes_to" s_primes_to P_primes_to
abbrev s_table_to : Stmt := topS 12
abbrev N_table_to : List Str := ["n", "best", "prime", "many", "power"]
abbrev P_table_to : List Str := ["n"]
theorem sc_table_to : FnScope N_table_to P_table_to (defScope s_table_to) := ⟨rfl, rfl, rfl, by decide +kernel, rfl, by decide +kernel, by decide +kernel⟩
abbrev D_table_to (K : PySem.W.Frag) (mg : Str → Option Value) := Df K mg "table_to" s_table_to P_table_to
abbrev s_powers_of : Stmt := topS 13
abbrev N_powers_of : List Str := ["number", "found", "part", "left", "power"]
abbrev P_powers_of : List Str := ["number"]
theorem sc_powers_of : FnScope N_powers_of P_powers_of (defScope s_powers_of) := ⟨rfl, rfl, rfl, by decide +kernel, rfl, by decide +kernel, by decide +kernel⟩
abbrev D_powers_of (K : PySem.W.Frag) (mg : Str → Option Value) := Df K mg "powers_of" s_powers_of P_powers_of
abbrev s_check_cards : Stmt := topS 14
abbrev N_check_cards : List Str := ["n", "low", "high"]
abbrev P_check_cards : List Str := ["n", "low", "high"]
theorem sc_check_cards : FnScope N_check_cards P_check_cards (defScope s_check_cards) := ⟨rfl, rfl, rfl, by decide +kernel, rfl, by decide +kernel, by decide +kernel⟩
abbrev D_check_cards (K : PySem.W.Frag) (mg : Str → Option Value) := Df K mg "check_cards" s_check_cards P_check_cards
abbrev s_greatest : Stmt := topS 15
abbrev N_greatest : List Str := ["n"]
abbrev P_greatest : List Str := ["n"]
theorem sc_greatest : FnScope N_greatest P_greatest (defScope s_greatest) := ⟨rfl, rfl, rfl, by decide +kernel, rfl, by decide +kernel, by decide +kernel⟩
abbrev D_greatest (K : PySem.W.Frag) (mg : Str → Option Value) := Df K mg "greatest" s_greatest P_greatest
abbrev s_check_number : Stmt := topS 16
abbrev N_check_number : List Str := ["number", "high"]
abbrev P_check_number : List Str := ["number", "high"]
theorem sc_check_number : FnScope N_check_number P_check_number (defScope s_check_number) := ⟨rfl, rfl, rfl, by decide +kernel, rfl, by decide +kernel, by decide +kernel⟩
abbrev D_check_number (K : PySem.W.Frag) (mg : Str → Option Value) := Df K mg "check_number" s_check_number P_check_number
abbrev s_least_cards : Stmt := topS 17
abbrev N_least_cards : List Str := ["number"]
abbrev P_least_cards : List Str := ["number"]
theorem sc_least_cards : FnScope N_least_cards P_least_cards (defScope s_least_cards) := ⟨rfl, rfl, rfl, by decide +kernel, rfl, by decide +kernel, by decide +kernel⟩
abbrev D_least_cards (K : PySem.W.Frag) (mg : Str → Option Value) := Df K mg "least_cards" s_least_cards P_least_cards
abbrev s_least_for : Stmt := topS 18
abbrev N_least_for : List Str := ["times", "most", "best", "n"]
abbrev P_least_for : List Str := ["times"]
theorem sc_least_for : FnScope N_least_for P_least_for (defScope s_least_for) := ⟨rfl, rfl, rfl, by decide +kernel, rfl, by decide +kernel, by decide +kernel⟩
abbrev D_least_for (K : PySem.W.Frag) (mg : Str → Option Value) := Df K mg "least_for" s_least_for P_least_for
abbrev s__law_random : Stmt := topS 20
abbrev N__law_random : List Str := ["_law_script", "_law_salt", "_law_seed", "_law_cell"]
abbrev P__law_random : List Str := ["_law_script", "_law_salt"]
theorem sc__law_random : FnScope N__law_random P__law_random (defScope s__law_random) := ⟨rfl, rfl, rfl, by decide +kernel, rfl, by decide +kernel, by decide +kernel⟩
abbrev D__law_random (K : PySem.W.Frag) (mg : Str → Option Value) := Df K mg "_law_random" s__law_random P__law_random
abbrev s__law_below : Stmt := topS 21
abbrev N__law_below : List Str := ["_law_d", "_law_size", "_law_result"]
abbrev P__law_below : List Str := ["_law_d", "_law_size"]
theorem sc__law_below : FnScope N__law_below P__law_below (defScope s__law_below) := ⟨rfl, rfl, rfl, by decide +kernel, rfl, by decide +kernel, by decide +kernel⟩
abbrev D__law_below (K : PySem.W.Frag) (mg : Str → Option Value) := Df K mg "_law_below" s__law_below P__law_below
abbrev s__law_pick : Stmt := topS 22
abbrev N__law_pick : List Str := ["_law_d", "_law_items"]
abbrev P__law_pick : List Str := ["_law_d", "_law_items"]
theorem sc__law_pick : FnScope N__law_pick P__law_pick (defScope s__law_pick) := ⟨rfl, rfl, rfl, by decide +kernel, rfl, by decide +kernel, by decide +kernel⟩
abbrev D__law_pick (K : PySem.W.Frag) (mg : Str → Option Value) := Df K mg "_law_pick" s__law_pick P__law_pick
abbrev s__law_equal : Stmt := topS 23
abbrev N__law_equal : List Str := ["_law_actual", "_law_expected", "_law_key", "_law_k"]
abbrev P__law_equal : List Str := ["_law_actual", "_law_expected"]
theorem sc__law_equal : FnScope N__law_equal P__law_equal (defScope s__law_equal) := ⟨rfl, rfl, rfl, by decide +kernel, rfl, by decide +kernel, by decide +kernel⟩
abbrev D__law_equal (K : PySem.W.Frag) (mg : Str → Option Value) := Df K mg "_law_equal" s__law_equal P__law_equal
abbrev s__law_powers : Stmt := topS 24
abbrev N__law_powers : List Str := ["_law_number", "_law_found", "_law_left", "_law_part", "_law_lap", "_law_power", "_law_turn"]
abbrev P__law_powers : List Str := ["_law_number"]
theorem sc__law_powers : FnScope N__law_powers P__law_powers (defScope s__law_powers) := ⟨rfl, rfl, rfl, by decide +kernel, rfl, by decide +kernel, by decide +kernel⟩
abbrev D__law_powers (K : PySem.W.Frag) (mg : Str → Option Value) := Df K mg "_law_powers" s__law_powers P__law_powers
abbrev s__law_table : Stmt := topS 25
abbrev N__law_table : List Str := ["_law_n", "_law_best", "_law_prime", "_law_later", "_law_power", "_law_lap", "_law_many", "_law_part"]
abbrev P__law_table : List Str := ["_law_n"]
theorem sc__law_table : FnScope N__law_table P__law_table (defScope s__law_table) := ⟨rfl, rfl, rfl, by decide +kernel, rfl, by decide +kernel, by decide +kernel⟩
abbrev D__law_table (K : PySem.W.Frag) (mg : Str → Option Value) := Df K mg "_law_table" s__law_table P__law_table
abbrev s__law_told : Stmt := topS 26
abbrev N__law_told : List Str := ["_law_name", "_law_value", "_law_found"]
abbrev P__law_told : List Str := ["_law_name", "_law_value"]
theorem sc__law_told : FnScope N__law_told P__law_told (defScope s__law_told) := ⟨rfl, rfl, rfl, by decide +kernel, rfl, by decide +kernel, by decide +kernel⟩
abbrev D__law_told (K : PySem.W.Frag) (mg : Str → Option Value) := Df K mg "_law_told" s__law_told P__law_told
abbrev s_law : Stmt := topS 27
abbrev N_law : List Str := ["_law_script", "_law_d", "_law_turn", "_law_number", "_law_best", "_law_times_so", "_law_n", "_law_due", "_law_great", "_law_value"]
abbrev P_law : List Str := ["_law_script"]
theorem sc_law : FnScope N_law P_law (defScope s_law) := ⟨rfl, rfl, rfl, by decide +kernel, rfl, by decide +kernel, by decide +kernel⟩
abbrev D_law (K : PySem.W.Frag) (mg : Str → Option Value) := Df K mg "law" s_law P_law
end LR
namespace LR
open PySem PySem.Spec PyProof.Rows L2
/-! ### heaps -/
theorem same_upd {H : Hp} {p : Addr} {o : HO} (h : H p = none) : Same H (upd H p o) := fun b x e => by
  rw [upd_ne (ne_of_none e h)]
  exact e
/-- what is written stands at an address that was free at the start -/
theorem _root_.L2.Same.updn {H H' : Hp} {p : Addr} {o : HO} (s : Same H H') (n : H p = none) : Same H (upd H' p o) := fun b x e => by
  rw [upd_ne (ne_of_none e n)]
  exact s b x e
theorem _root_.L2.Same.new {H H' : Hp} {p : Addr} {o : HO} (s : Same H H') (n : H' p = none) : Same H (upd H' p o) := s.trans (same_upd n)
/-- all but d is as it was -/
def SameX (d : Addr) (H H' : Hp) : Prop := ∀ b o, b ≠ d → H b = some o → H' b = some o
theorem SameX.of {d : Addr} {H H' : Hp} (s : Same H H') : SameX d H H' := fun b o _ e => s b o e
theorem SameX.refl (d : Addr) (H : Hp) : SameX d H H := fun _ _ _ e => e
theorem SameX.trans {d : Addr} {H H1 H2 : Hp} (a : SameX d H H1) (b : SameX d H1 H2) : SameX d H H2 := fun c o n e => b c o n (a c o n e)
theorem SameX.upd {d : Addr} {H H' : Hp} {o : HO} (s : SameX d H H') : SameX d H (upd H' d o) := fun b x n e => by
  rw [upd_ne n]
  exact s b x n e
theorem SameX.seq {d : Addr} {K : PySem.W.Frag} {H H' : Hp} {a : Addr} {xs : List V} (s : SameX d H H') (n : a ≠ d) (h : SqL K H a xs) : SqL K H' a xs := by
  rcases h with (h | ⟨o, h⟩) | h
  · exact .inl (.inl (s _ _ n h))
  · exact .inl (.inr ⟨o, s _ _ n h⟩)
  · exact .inr h
theorem _root_.L2.Same.tup {K : PySem.W.Frag} {H H' : Hp} {a : Addr} {xs : List V} (e : Same H H') (h : SqT K H a xs) : SqT K H' a xs := by
  rcases h with (h | ⟨o, h⟩) | h
  · exact .inl (.inl (e _ _ h))
  · exact .inl (.inr ⟨o, e _ _ h⟩)
  · exact .inr h
/-! ### lists of numbers -/
abbrev vN (l : List Nat) : List V := l.map fun n : Nat => V.int (n : Int)
theorem vN_len (l : List Nat) : (vN l).length = l.length := List.length_map _
theorem vN_get {l : List Nat} {i : Nat} (h : i < l.length) : (vN l)[i]? = some (.int (l[i] : Nat)) := by
  rw [List.getElem?_map, List.getElem?_eq_getElem h]
  rfl
theorem vN_at {l : List Nat} {i : Nat} {v : V} (h : (vN l)[i]? = some v) : ∃ n, l[i]? = some n ∧ v = .int (n : Int) := by
  rw [List.getElem?_map] at h
  cases e : l[i]? with
  | none =>
    rw [e] at h
    cases h
  | some n =>
    rw [e] at h
    exact ⟨n, rfl, (Option.some.inj h).symm⟩
theorem vN_app (l r : List Nat) : vN (l ++ r) = vN l ++ vN r := List.map_append
theorem vN_int (l : List Nat) : vN l = (l.map fun n : Nat => (n : Int)).map V.int := by
  rw [List.map_map]
  rfl
theorem take_more {α : Type} {l : List α} {i : Nat} {x : α} (h : l[i]? = some x) : l.take (i + 1) = l.take i ++ [x] := by
  rw [List.take_add_one, h]
  rfl
/-- a list by its places -/
def mapR (f : Nat → V) (n : Nat) : List V := (List.range n).map f
theorem mapR_len (f : Nat → V) (n : Nat) : (mapR f n).length = n := by
  unfold mapR
  rw [List.length_map, List.length_range]
theorem mapR_get {f : Nat → V} {n i : Nat} (h : i < n) : (mapR f n)[i]? = some (f i) := by
  unfold mapR
  rw [List.getElem?_map, List.getElem?_range h]
  rfl
theorem mapR_congr {f g : Nat → V} {n : Nat} (h : ∀ j, j < n → f j = g j) : mapR f n = mapR g n := by
  unfold mapR
  exact List.map_congr_left fun j hj => h j (List.mem_range.mp hj)
theorem mapR_set {f : Nat → V} {n k : Nat} {v : V} : (mapR f n).set k v = mapR (fun j => if j = k then v else f j) n := by
  refine List.ext_getElem? fun i => ?_
  rw [List.getElem?_set]
  by_cases hi : i < n
  · rw [mapR_get (f := fun j => if j = k then v else f j) hi, mapR_get (f := f) hi]
    by_cases hk : k = i
    · subst hk
      rw [if_pos rfl, if_pos (by rw [mapR_len]; exact hi), if_pos rfl]
    · rw [if_neg hk, if_neg fun e => hk e.symm]
  · have e1 : (mapR f n)[i]? = none := List.getElem?_eq_none (by rw [mapR_len]; omega)
    have e2 : (mapR (fun j => if j = k then v else f j) n)[i]? = none := List.getElem?_eq_none (by rw [mapR_len]; omega)
    rw [e1, e2]
    by_cases hk : k = i
    · rw [if_pos hk, if_neg (by rw [mapR_len]; omega)]
    · rw [if_neg hk]
theorem mapR_set_eq {f g : Nat → V} {n k : Nat} {v : V} (h : ∀ j, j < n → g j = if j = k then v else f j) : (mapR f n).set k v = mapR g n := by
  rw [mapR_set]
  exact mapR_congr fun j hj => (h j hj).symm
theorem rep_flat (v : V) : ∀ n : Nat, (List.replicate n [v]).flatten = mapR (fun _ => v) n
  | 0 => rfl
  | n + 1 => by
    have ih := rep_flat v n
    unfold mapR at ih ⊢
    rw [List.replicate_succ', List.flatten_append, ih, List.range_succ, List.map_append]
    rfl
theorem ixN_nat {n k : Nat} (h : k < n) : ixN n (k : Int) = some k := by
  unfold ixN
  rw [if_pos (Int.natCast_nonneg k), if_pos (by omega)]
  rfl
theorem line_lt {n : Nat} (h : n < 16777216) : n < sizeLine := by
  rw [sizeLine_eq]
  exact h
theorem line_le {n : Nat} (h : n ≤ 16777216) : n ≤ sizeLine := by
  rw [sizeLine_eq]
  exact h
/-- range(a, b, c) upward: how many, and which -/
theorem up_range {a b c : Nat} (hc : 1 ≤ c) (hc2 : c < 1073741824) (ha : a < 2 ^ 61) (hb : b < 2 ^ 61) : ∃ n : Nat, RgC (a : Int) (b : Int) (c : Int) n ∧ (∀ t, t < n → a + t * c < b) ∧ ∀ t, a + t * c < b → t < n := by
  have eq : Builtin.Range.rangeSize (a : Int) (b : Int) (c : Int) = ((if a < b then (b - a - 1) / c + 1 else 0 : Nat) : Int) := by
    unfold Builtin.Range.rangeSize
    rw [if_pos (by omega)]
    by_cases h : a < b
    · rw [if_pos (by omega), if_pos h, Int.natCast_add, Int.natCast_ediv, show ((b - a - 1 : Nat) : Int) = (b : Int) - a - 1 by omega]
      rfl
    · rw [if_neg (by omega), if_neg h]
      rfl
  have hsz : (if a < b then (b - a - 1) / c + 1 else 0 : Nat) ≤ b := by
    split
    · have := Nat.div_le_self (b - a - 1) c
      omega
    · exact Nat.zero_le _
  refine ⟨_, ⟨by omega, by omega, ?_, eq⟩, fun t ht => ?_, fun t ht => ?_⟩
  · unfold Builtin.Range.small
    rw [eq]
    simp only [Builtin.Range.rangeFitsLong, Bool.and_eq_true, Bool.or_eq_true, decide_eq_true_eq, beq_iff_eq, if_pos (show (c : Int) > 0 by omega)]
    refine ⟨⟨⟨⟨⟨by omega, by omega⟩, by omega, by omega⟩, by omega, by omega⟩, by omega, by omega⟩, .inr ⟨by omega, by omega⟩⟩
  · split at ht
    · have h1 : t * c ≤ (b - a - 1) / c * c := Nat.mul_le_mul_right c (by omega)
      have h2 := Nat.div_mul_le_self (b - a - 1) c
      omega
    · omega
  · have hab : a < b := by omega
    rw [if_pos hab]
    have : t ≤ (b - a - 1) / c := (Nat.le_div_iff_mul_le (by omega)).mpr (by omega)
    omega
theorem relI {i : Int} {t : Tok} : RelV (.int i) (Value.int i t) := ⟨t, rfl⟩
theorem nat_wide {a k : Nat} (h : a < 2 ^ k) : ((a : Int)).natAbs < 2 ^ k := by
  rw [Int.natAbs_natCast]
  exact h
theorem bits_up {a b j k : Nat} (h : a ≤ b) (hb : b < 2 ^ j) (hj : j ≤ k) : a < 2 ^ k := Nat.lt_of_lt_of_le (Nat.lt_of_le_of_lt h hb) (Nat.pow_le_pow_right (by decide) hj)
theorem mod_nat (a b : Nat) : ((a : Int)) % (b : Int) = ((a % b : Nat) : Int) := rfl
theorem div_nat (a b : Nat) : ((a : Int)) / (b : Int) = ((a / b : Nat) : Int) := rfl
theorem seqIndex_nat {k n : Nat} (h : k < n) : seqIndex? (k : Int) n = some k := by
  unfold seqIndex?
  rw [show (if (k : Int) < 0 then (k : Int) + n else k) = k from if_neg (by omega)]
  dsimp only
  rw [decide_eq_true (show (0 : Int) ≤ k by omega), decide_eq_true (show (k : Int) < n by omega)]
  rfl
/-! ### a value of a built-in kind -/
inductive Kd (H : Hp) : V → String → Prop
  | non : Kd H .non "NoneType"
  | bl (b : Bool) : Kd H (.bl b) "bool"
  | int (i : Int) : Kd H (.int i) "int"
  | str (x : Str) : Kd H (.str x) "str"
  | lst {a : Addr} {xs : List V} (e : H a = some (.lst xs)) : Kd H (.ref a) "list"
  | tup {a : Addr} {xs : List V} (e : H a = some (.tup xs)) : Kd H (.ref a) "tuple"
  | dK {a : Addr} {kvs : List (Key × V)} (e : H a = some (.dK kvs)) : Kd H (.ref a) "dict"
theorem Kd.ty {K : PySem.W.Frag} {H : Hp} {x : V} {t : String} (h : Kd H x t) : TyX K H x (.type t) := by
  cases h with
  | non => exact .base .non
  | bl b => exact .base (.bl b)
  | int i => exact .base (.int i)
  | str x => exact .base (.str x)
  | lst e => exact .base (.lst e)
  | tup e => exact .base (.tup e)
  | dK e => exact .base (.dK e)
def isI : V → Bool
  | .int _ => true
  | _ => false
theorem Kd.int_of {H : Hp} {x : V} {t : String} (h : Kd H x t) : ∃ b c, kitB t "int" = some b ∧ kitB t "bool" = some c ∧ (b && !c) = isI x ∧ (b = false → isI x = false) := by
  cases h
  · exact ⟨false, false, by decide +kernel, by decide +kernel, rfl, fun _ => rfl⟩
  · exact ⟨true, true, by decide +kernel, by decide +kernel, rfl, fun _ => rfl⟩
  · exact ⟨true, false, by decide +kernel, by decide +kernel, rfl, fun h => by cases h⟩
  · exact ⟨false, false, by decide +kernel, by decide +kernel, rfl, fun _ => rfl⟩
  · exact ⟨false, false, by decide +kernel, by decide +kernel, rfl, fun _ => rfl⟩
  · exact ⟨false, false, by decide +kernel, by decide +kernel, rfl, fun _ => rfl⟩
  · exact ⟨false, false, by decide +kernel, by decide +kernel, rfl, fun _ => rfl⟩
/-- an int within bounds -/
def inR : V → Int → Int → Bool
  | .int i, lo, hi => decide (lo ≤ i) && decide (i ≤ hi)
  | _, _, _ => false
end LR
namespace LR
open PySem PySem.Spec PyProof.Rows L2
/-! ### lists and tuples of ints compared -/
theorem dpAll_ints {K : PySem.W.Frag} {H : Hp} : ∀ ns : List Int, DpAll K H (ns.map V.int) (ns.map PyData.int)
  | [] => .nil
  | n :: r => .cons (.int n) (dpAll_ints r)
theorem eqvAll_ints : ∀ ns ms : List Int, PyData.eqvAll (ns.map PyData.int) (ms.map PyData.int) = decide (ns = ms)
  | [], [] => by simp [PyData.eqvAll]
  | [], _ :: _ => by simp [PyData.eqvAll]
  | _ :: _, [] => by simp [PyData.eqvAll]
  | a :: r, b :: t => by
    simp only [List.map_cons, PyData.eqvAll, PyData.eqv, eqvAll_ints r t]
    by_cases h : a = b <;> by_cases h' : r = t <;> simp [h, h']
theorem eqv_listI (ns ms : List Int) : PyData.eqv (.list (ns.map PyData.int)) (.list (ms.map PyData.int)) = decide (ns = ms) := by
  rw [PyData.eqv]
  exact eqvAll_ints ns ms
theorem eqv_tupI (ns ms : List Int) : PyData.eqv (.tuple (ns.map PyData.int)) (.tuple (ms.map PyData.int)) = decide (ns = ms) := by
  rw [PyData.eqv]
  exact eqvAll_ints ns ms
theorem shaped_listI (ns : List Int) : SeqAt.shaped (.list (ns.map PyData.int)) = true := PySem.W.ke_shaped_ints ns
theorem shaped_tupI (ns : List Int) : SeqAt.shaped (.tuple (ns.map PyData.int)) = true := by
  simp [SeqAt.shaped, PyData.canLay0, PyData.depth, PySem.W.ke_canLayAll0, PySem.W.ke_depthAll]
end LR
namespace LR
open PySem PySem.Spec PyProof.Rows L2
section
variable {P : Program} {w : World} {K : PySem.W.Frag} {mg : Str → Option Value} {base : Heap}
/-! ### is_integer, is_from -/
def sp_is_integer : Sp := fun vs H Q _ => ∃ (x : V) (t : String), vs = [x] ∧ Kd H x t ∧ Q (.bl (isI x)) H
theorem ok_is_integer (d : D_is_integer K mg) (zi : mg "isinstance" = none) (zn : mg "int" = none) (zb : mg "bool" = none) : FnOk P w K mg base CX0 1 d.f d.fd P_is_integer sp_is_integer := by
  refine d.F.ok sc_is_integer (fun vs H Q E h => ?_) (fun cdv A outer s H vs Q E hr h => ?_)
  · obtain ⟨x, t, rfl, _⟩ := h
    rfl
  · obtain ⟨x, t, rfl, hk, q⟩ := h
    refine ⟨_, pss_one (ps_ret (pe_and
      (pe_callB call_isi (by rfl) zi (by decide +kernel) (pa_cons (pv 0) (pa_cons (pe_bltn (v := .ty "int") (by rfl) zn (by decide +kernel) rfl) pa_nil)))
      (pe_one (pe_not (pe_callB call_isi (by rfl) zi (by decide +kernel) (pa_cons (pv 0) (pa_cons (pe_bltn (v := .ty "bool") (by rfl) zb (by decide +kernel) rfl) pa_nil))))))), ?_⟩
    obtain ⟨b, c, hb, hc, e, ef⟩ := hk.int_of
    refine ⟨_, rfl, x, _, _, _, b, rfl, .ty "int", hk.ty, kit_ty hb, b, rfl, ite2 (fun eb => ?_) (fun eb => ?_)⟩
    · refine ⟨_, rfl, x, _, _, _, c, rfl, .ty "bool", hk.ty, kit_ty hc, c, rfl, ?_⟩
      rw [eb, Bool.true_and] at e
      show Q (.bl (!c)) H
      rw [e]
      exact q
    · have : isI x = false := ef (by simpa using eb)
      rw [this] at q
      exact q
def sp_is_from : Sp := fun vs H Q _ => ∃ (x : V) (t : String) (lo hi : Int), vs = [x, .int lo, .int hi] ∧ Kd H x t ∧ Q (.bl (inR x lo hi)) H
theorem ok_is_from (d : D_is_from K mg) (dI : D_is_integer K mg) (zi : mg "isinstance" = none) (zn : mg "int" = none) (zb : mg "bool" = none) : FnOk P w K mg base CX0 2 d.f d.fd P_is_from sp_is_from := by
  have GI : FnOk P w K mg base CX0 1 dI.f dI.fd P_is_integer sp_is_integer := ok_is_integer dI zi zn zb
  refine d.F.ok sc_is_from (fun vs H Q E h => ?_) (fun cdv A outer s H vs Q E hr h => ?_)
  · obtain ⟨x, t, lo, hi, rfl, _⟩ := h
    rfl
  · obtain ⟨x, t, lo, hi, rfl, hk, q⟩ := h
    refine ⟨_, pss_one (ps_ret (pe_and (pe_call GI hr (by rfl) dI.g dI.F.kp dI.b .nil pass0 (pa_cons (pv 0) pa_nil)) (pe_one (pe_chain op_le op_le (pv 1) (pv 0) (pv 2))))), ?_⟩
    refine ⟨_, rfl, x, t, rfl, hk, isI x, rfl, ite2 (fun e => ?_) (fun e => ?_)⟩
    · obtain ⟨i, rfl⟩ : ∃ i, x = .int i := by
        cases x <;> first | exact ⟨_, rfl⟩ | cases e
      refine ⟨_, rfl, _, rfl, lo, i, rfl, rfl, _, rfl, ?_⟩
      have q' : Q (.bl (decide (lo ≤ i) && decide (i ≤ hi))) H := q
      refine ite2 (fun c => ?_) (fun c => ?_)
      · refine ⟨_, rfl, i, hi, rfl, rfl, ?_⟩
        rw [c, Bool.true_and] at q'
        exact q'
      · rw [show decide (lo ≤ i) = false by simpa using c, Bool.false_and] at q'
        exact q'
    · have : inR x lo hi = false := by
        cases x <;> first | rfl | exact absurd rfl e
      rw [this] at q
      exact q
/-! ### primes_to -/
def sp_primes_to : Sp := fun vs H Q _ => ∃ (n : Nat), vs = [.int n] ∧ n ≤ 2000 ∧ ∀ H' p, Same H H' → H p = none → H' p = some (.lst (vN (LM.primesTo n))) → Q (.ref p) H'
theorem ok_primes_to (d : D_primes_to K mg) (mr : mg "range" = none) : FnOk P w K mg base CX0 1 d.f d.fd P_primes_to sp_primes_to := by
  refine d.F.ok sc_primes_to (fun vs H Q E h => ?_) (fun cdv A outer s H vs Q E hr h => ?_)
  · obtain ⟨n, rfl, _⟩ := h
    rfl
  · obtain ⟨n, rfl, hn, q⟩ := h
    refine ⟨_, pss_cons (ps_par (i := 1) (j := 2) (by rfl) sc_primes_to.nd rfl rfl (by decide) rfl rfl (pa_cons (pe_op op_rep (pe_lst (pa_cons pe_bl pa_nil)) (pe_op op_add (pv 0) pe_int)) (pa_cons (pe_lst pa_nil) pa_nil)) (by rfl))
      (pss_cons (ps_for PassesOwn.never rfl (pi_range2 (by rfl) mr (pa_cons pe_int (pa_cons (pe_op op_add (pv 0) pe_int) pa_nil))) (pg_name (i := 3) sc_primes_to.nd rfl (.inl rfl))
        (pss_one (ps_if (pt_val (pe_ix ix_list (pv 1) (pv 3) (fun _ _ => rfl)))
          (pss_cons (ps_expr (pe_bm PySem.F.plainAttrs_list PySem.F.slot_list_append PySem.F.type_list_append mt_append (pv 2) (pa_cons (pv 3) pa_nil)))
            (pss_one (ps_for PassesOwn.never rfl (pi_range3 rfl mr (pa_cons (pe_op op_mul (pv 3) (pv 3)) (pa_cons (pe_op op_add (pv 0) pe_int) (pa_cons (pv 3) pa_nil)))) (pg_name (i := 4) sc_primes_to.nd rfl (.inl rfl))
              (pss_one (ps_asg pe_bl (pg_sub (pv 1) (pv 4) set_list)))))) pss_nil)))
      (pss_one (ps_ret (pv 2)))), ?_⟩
    -- [True] * (most + 1), []
    refine ⟨line_le (by decide), fun t nt => ?_⟩
    refine ⟨_, rfl, (n : Int), 1, rfl, rfl, t, (n : Int) + 1, _, rfl, rfl, upd_same, by omega, by omega, ?_, fun kp nk => ?_⟩
    · refine line_le ?_
      show 1 * ((n : Int) + 1).toNat ≤ _
      omega
    refine ⟨line_le (by decide), fun fp nf => ⟨_, _, rfl, ?_⟩⟩
    have nkH : H kp = none := (same_upd nt).free nk
    have nkf : kp ≠ fp := fun e => by
      rw [← e, upd_same] at nf
      cases nf
    have nfH : H fp = none := ((same_upd nt).new nk).free nf
    have eF : (List.replicate ((n : Int) + 1).toNat [V.bl true]).flatten = mapR (fun j => V.bl (LM.kn 2 j)) (n + 1) := by
      rw [show ((n : Int) + 1).toNat = n + 1 by omega]
      exact rep_flat _ _
    rw [eF] at nf
    rw [eF]
    refine ⟨_, rfl, (n : Int), 1, rfl, rfl, 2, (n : Int) + 1, rfl, ⟨by omega, by omega, by omega, by omega⟩, for_range (lo := 2) (n := ((n : Int) + 1 - 2).toNat)
      (fun i σ H' => ∃ y3 y4, σ = [some (.int n), some (.ref kp), some (.ref fp), y3, y4] ∧ Same H H' ∧ H' kp = some (.lst (mapR (fun j => .bl (LM.kn (i + 2) j)) (n + 1))) ∧ H' fp = some (.lst (vN ((List.range' 2 i).filter LM.isP))))
      ⟨none, none, rfl, ((same_upd nt).new nk).new nf, ?_, ?_⟩ ?_ ?_⟩
    · rw [upd_ne nkf, upd_same]
    · rw [upd_same]
      rfl
    · rintro i σ H1 hi ⟨y3, y4, rfl, sm, ek, ef⟩
      have hi2 : i + 2 ≤ n := by omega
      refine ⟨.ref kp, rfl, .int (2 + (i : Int)), rfl, kp, _, _, _, rfl, rfl, SqL.of ek, at_of (j := i + 2) (by omega) (mapR_get (by omega)), _, rfl, ?_⟩
      have ks : LM.kn (i + 2) (i + 2) = LM.isP (i + 2) := LM.kn_self (by omega)
      have er : (List.range' 2 (i + 1)).filter LM.isP = (List.range' 2 i).filter LM.isP ++ (if LM.isP (i + 2) = true then [i + 2] else []) := by
        rw [List.range'_1_concat, List.filter_append, List.filter_cons, List.filter_nil, show 2 + i = i + 2 by omega]
      refine ite2 (fun hp => ?_) (fun hp => ?_)
      · rw [ks] at hp
        -- found.append(number)
        refine ⟨.ref fp, rfl, .inl ⟨rfl, _, SqL.of ef⟩, .int (2 + (i : Int)), rfl, fp, _, _, rfl, rfl, ef, line_lt ?_, ?_⟩
        · rw [vN_len]
          have h1 := List.length_filter_le LM.isP (List.range' 2 i)
          rw [List.length_range'] at h1
          omega
        -- for other in range(number * number, most + 1, number)
        have hsq : (2 + (i : Int)) * (2 + i) ≤ 2000 * 2000 := by
          refine Int.mul_le_mul (by omega) (by omega) (by omega) (by omega)
        have hsq0 : 0 ≤ (2 + (i : Int)) * (2 + i) := Int.mul_nonneg (by omega) (by omega)
        obtain ⟨cnt, hcnt, hc1, hc2⟩ := up_range (a := (i + 2) * (i + 2)) (b := n + 1) (c := i + 2) (by omega) (by omega) (by
          have : ((i + 2 : Nat) : Int) * ((i + 2 : Nat) : Int) ≤ 2000 * 2000 := by
            have e : ((i + 2 : Nat) : Int) = 2 + (i : Int) := by omega
            rw [e]
            exact hsq
          have e2 : (((i + 2) * (i + 2) : Nat) : Int) = ((i + 2 : Nat) : Int) * ((i + 2 : Nat) : Int) := Int.natCast_mul _ _
          omega) (by omega)
        refine ⟨.int (2 + (i : Int)), rfl, .int (2 + (i : Int)), rfl, 2 + (i : Int), 2 + (i : Int), rfl, rfl, .inl ⟨by omega, by omega⟩, .int n, rfl, (n : Int), 1, rfl, rfl, .int (2 + (i : Int)), rfl, (2 + (i : Int)) * (2 + i), (n : Int) + 1, 2 + (i : Int), cnt, rfl, ?_, for_rangeC (n := cnt)
          (fun t σ H' => ∃ y4, σ = [some (.int n), some (.ref kp), some (.ref fp), some (.int (2 + (i : Int))), y4] ∧ Same H H' ∧ H' kp = some (.lst (mapR (fun j => .bl (LM.kn (i + 2) j && !LM.hit (i + 2) t j)) (n + 1))) ∧ H' fp = some (.lst (vN ((List.range' 2 (i + 1)).filter LM.isP))))
          ⟨y4, rfl, sm.updn nfH, ?_, ?_⟩ ?_ ?_⟩
        · have e1 : ((i + 2 : Nat) : Int) = 2 + (i : Int) := by omega
          have e2 : (((i + 2) * (i + 2) : Nat) : Int) = (2 + (i : Int)) * (2 + i) := by rw [Int.natCast_mul, e1]
          have e3 : ((n + 1 : Nat) : Int) = (n : Int) + 1 := by omega
          rw [e1, e2, e3] at hcnt
          exact hcnt
        · rw [upd_ne nkf, ek]
          congr 2
          refine mapR_congr fun j _ => ?_
          rw [show LM.hit (i + 2) 0 j = false from rfl, Bool.not_false, Bool.and_true]
        · rw [upd_same, er, if_pos hp, vN_app]
          have e1 : ((i + 2 : Nat) : Int) = 2 + (i : Int) := by omega
          rw [← e1]
          rfl
        · rintro t σ H2 ht ⟨y4, rfl, sm2, ek2, ef2⟩
          have ht2 := hc1 t ht
          have e5 : (2 + (i : Int)) * (2 + i) + (t : Nat) * (2 + (i : Int)) = (((i + 2) * (i + 2) + t * (i + 2) : Nat) : Int) := by
            rw [Int.natCast_add, Int.natCast_mul, Int.natCast_mul, show ((i + 2 : Nat) : Int) = 2 + (i : Int) by omega]
          refine ⟨.ref kp, rfl, _, rfl, kp, _, _, (i + 2) * (i + 2) + t * (i + 2), rfl, rfl, ek2, ?_, ?_⟩
          · rw [e5, mapR_len]
            exact ixN_nat (by omega)
          · refine ⟨_, rfl, sm2.updn nkH, ?_, ?_⟩
            · rw [upd_same]
              congr 2
              refine mapR_set_eq fun j _ => ?_
              rw [LM.hit_succ]
              by_cases hj : j = (i + 2) * (i + 2) + t * (i + 2)
              · rw [if_pos hj, decide_eq_true hj, Bool.or_true, Bool.not_true, Bool.and_false]
              · rw [if_neg hj, decide_eq_false hj, Bool.or_false]
            · rw [upd_ne nkf.symm]
              exact ef2
        · rintro σ H2 ⟨y4, rfl, sm2, ek2, ef2⟩
          refine ⟨_, _, rfl, sm2, ?_, ef2⟩
          rw [ek2]
          congr 2
          refine mapR_congr fun j hj => ?_
          rw [LM.hit_all (n := n) (by omega) (by omega) (fun t ht => hc2 t (by omega)), show i + 1 + 2 = (i + 2) + 1 from rfl, LM.kn_succ (k := i + 2) (by omega), hp, Bool.true_and]
      · have hp' : LM.isP (i + 2) = false := by
          rw [← ks]
          simpa using hp
        refine ⟨_, _, rfl, sm, ?_, ?_⟩
        · rw [ek]
          congr 2
          refine mapR_congr fun j hj => ?_
          rw [show i + 1 + 2 = (i + 2) + 1 by omega, LM.kn_succ (k := i + 2) (by omega), hp', Bool.false_and, Bool.false_and, Bool.not_false, Bool.and_true]
        · rw [ef, er, hp', if_neg Bool.false_ne_true, List.append_nil]
    · rintro σ H1 ⟨y3, y4, rfl, sm, ek, ef⟩
      refine ⟨.ref fp, rfl, q H1 fp sm nfH ?_⟩
      rw [ef]
      unfold LM.primesTo
      rw [show ((n : Int) + 1 - 2).toNat = n - 1 by omega]
end
end LR
namespace LR
open PySem PySem.Spec PyProof.Rows L2
/-- an own exception class over ValueError without an own __init__, as it stands behind the top -/
structure Ex (K : PySem.W.Frag) (mg : Str → Option Value) (x : Str) where
  C : Addr
  g : mg x = some (.ref C)
  xC : PySem.W.excIn K C [.type "ValueError", .type "Exception", .type "BaseException", .type "object"] "ValueError.__new__" = true
  kC : PySem.W.keepIn K (.ref C) = true
  bC : PySem.W.subIn K (.ref C) (.type "BaseException") = some true
  tC : PySem.W.typeIn K (.ref C) = some (.type "type")
  te : PySem.W.exmOne K (.ref C) (.ref C) = some true
theorem exm_self {K : PySem.W.Frag} {S : Addr} (h1 : PySem.W.subIn K (.ref S) (.type "BaseException") = some true) (h2 : PySem.W.isClsIn K S = true) (h3 : PySem.W.typeIn K (.ref S) = some (.type "type")) (h4 : PySem.W.subIn K (.ref S) (.ref S) = some true) :
    PySem.W.exmOne K (.ref S) (.ref S) = some true := by
  have e1 : (PySem.W.subIn K (.ref S) (.type "BaseException") == some true) = true := by rw [h1] <;> rfl
  have e2 : ((PySem.W.clsIn K S).isSome && PySem.W.typeIn K (.ref S) == some (.type "type")) = true := by
    have h2' : (PySem.W.clsIn K S).isSome = true := h2
    rw [h2', h3] <;> rfl
  show (if (PySem.W.subIn K (.ref S) (.type "BaseException") == some true) = true then (if ((PySem.W.clsIn K S).isSome && PySem.W.typeIn K (.ref S) == some (.type "type")) = true then PySem.W.subIn K (.ref S) (.ref S) else none) else none) = some true
  rw [if_pos e1, if_pos e2]
  exact h4
section
variable {X : Cx}
/-- X(), X an own exception class without own __init__ -/
theorem pmk_own0 {C : Addr} {bmB : List Value} {B newId initId : String} {x : Str} {p pos : Pos} (F : ExcBaseFacts B newId initId bmB) (q : PySem.W.excIn X.K C bmB newId = true) (gC : X.mg x = some (.ref C))
    (kC : PySem.W.keepIn X.K (.ref C) = true) (r : Raises X (.ref C)) (hg : Gl X x) (hdb : (x == ("__debug__" : Str)) = false := by decide) :
    PMk X (.Call (.Name x p) [] [] pos) (fun _ H Q => Q (.ref C) none H) := by
  intro pins s σ H Q I h
  refine wpAny_Call_Name_kw (ld_glob I hg gC ?_ hdb)
  refine PySem.W.callWith_K0 I.kIn kC ?_
  show wpAny _ _ (call (.ref C) []) _ _ _
  obtain ⟨bm, N, nm, qn, bs, hdct, sn, sub, ab, col, dd, k0, k1, k2, k3, k5, mN, hC, hN, hni, T⟩ := exc_obj I.kIn q
  refine wpAny_call_exc_subT F T hC hN hni (fun h' e hm => ?_) (Nat.zero_le _)
  exact mk_of I hm r h (I.hok.gone hm.new)
theorem pmk_ex {x : Str} (e : Ex X.K X.mg x) {p pos : Pos} (hg : Gl X x) (hdb : (x == ("__debug__" : Str)) = false := by decide) : PMk X (.Call (.Name x p) [] [] pos) (fun _ H Q => Q (.ref e.C) none H) :=
  pmk_own0 PySem.F.excBase_ValueError e.xC e.g e.kC (raises_own e.bC e.tC) hg hdb
end
end LR
namespace LR
open PySem PySem.Spec PyProof.Rows L2
section
variable {P : Program} {w : World} {K : PySem.W.Frag} {mg : Str → Option Value} {base : Heap}
def sp_check_number (C : Addr) : Sp := fun vs H Q E => ∃ (x : V) (t : String) (hi : Int), vs = [x, .int hi] ∧ Kd H x t ∧ (inR x 1 hi = false → E (.ref C) none H) ∧ (inR x 1 hi = true → Q .non H)
theorem ok_check_number (d : D_check_number K mg) (dF : D_is_from K mg) (e : Ex K mg "BadNumber") (GF : FnOk P w K mg base CX0 2 dF.f dF.fd P_is_from sp_is_from) : FnOk P w K mg base (L2.CX P w) 3 d.f d.fd P_check_number (sp_check_number e.C) := by
  refine d.F.okX sc_check_number (fun vs H Q E h => ?_) (fun cdv A outer s H vs Q E hr h => ?_)
  · obtain ⟨x, t, hi, rfl, _⟩ := h
    rfl
  · obtain ⟨x, t, hi, rfl, hk, k1, k2⟩ := h
    refine ⟨_, pss_one (ps_if (pt_not (pt_val (pe_call GF hr (by rfl) dF.g dF.F.kp dF.b .nil pass0 (pa_cons (pv 0) (pa_cons pe_int (pa_cons (pv 1) pa_nil))))))
      (pss_one (ps_raise rfl (takes_of rfl rfl rfl rfl) (pmk_ex e (by rfl)))) pss_nil), ?_⟩
    refine ⟨_, rfl, _, rfl, x, t, 1, hi, rfl, hk, _, rfl, ite2 (fun z => ?_) (fun z => ?_)⟩
    · exact k1 (by simpa using z)
    · exact k2 (by simpa using z)
end
end LR
namespace LR
open PySem PySem.Spec PyProof.Rows L2
section
variable {P : Program} {w : World} {K : PySem.W.Frag} {mg : Str → Option Value} {base : Heap}
def sp_check_cards (C : Addr) : Sp := fun vs H Q E => ∃ (x : V) (t : String) (lo hi : Int), vs = [x, .int lo, .int hi] ∧ Kd H x t ∧ (inR x lo hi = false → E (.ref C) none H) ∧ (inR x lo hi = true → Q .non H)
theorem ok_check_cards (d : D_check_cards K mg) (dF : D_is_from K mg) (e : Ex K mg "BadCards") (GF : FnOk P w K mg base CX0 2 dF.f dF.fd P_is_from sp_is_from) : FnOk P w K mg base (L2.CX P w) 3 d.f d.fd P_check_cards (sp_check_cards e.C) := by
  refine d.F.okX sc_check_cards (fun vs H Q E h => ?_) (fun cdv A outer s H vs Q E hr h => ?_)
  · obtain ⟨x, t, lo, hi, rfl, _⟩ := h
    rfl
  · obtain ⟨x, t, lo, hi, rfl, hk, k1, k2⟩ := h
    refine ⟨_, pss_one (ps_if (pt_not (pt_val (pe_call GF hr (by rfl) dF.g dF.F.kp dF.b .nil pass0 (pa_cons (pv 0) (pa_cons (pv 1) (pa_cons (pv 2) pa_nil))))))
      (pss_one (ps_raise rfl (takes_of rfl rfl rfl rfl) (pmk_ex e (by rfl)))) pss_nil), ?_⟩
    refine ⟨_, rfl, _, rfl, _, rfl, x, t, lo, hi, rfl, hk, _, rfl, ite2 (fun z => ?_) (fun z => ?_)⟩
    · exact k1 (by simpa using z)
    · exact k2 (by simpa using z)
end
end LR
namespace LR
open PySem PySem.Spec PyProof.Rows L2
section
variable {P : Program} {w : World} {K : PySem.W.Frag} {mg : Str → Option Value} {base : Heap}
/-! ### table_to -/
def vF (f : Nat → Nat) (n : Nat) : List V := mapR (fun j => V.int ((f j : Nat) : Int)) n
theorem vF_congr {f g : Nat → Nat} {n : Nat} (h : ∀ j, j < n → f j = g j) : vF f n = vF g n := mapR_congr fun j hj => by rw [h j hj]
theorem vF_set {f g : Nat → Nat} {n k c : Nat} (h : ∀ j, j < n → g j = if j = k then c else f j) : (vF f n).set k (.int (c : Int)) = vF g n := mapR_set_eq fun j hj => by
  rw [h j hj]
  split <;> rfl
theorem vF_len (f : Nat → Nat) (n : Nat) : (vF f n).length = n := mapR_len _ _
theorem vF_get {f : Nat → Nat} {n i : Nat} (h : i < n) : (vF f n)[i]? = some (.int (f i : Nat)) := mapR_get h
/-- the table within the turn of many, behind k powers -/
def mid (f : Nat → Nat) (p many k j : Nat) : Nat := if j = many then LM.bestPow f p many k else if many < j then LM.stepP f p j else f j
/-- .. behind the turn of many -/
def top (f : Nat → Nat) (p many j : Nat) : Nat := if many ≤ j then LM.stepP f p j else f j
def sp_table_to : Sp := fun vs H Q _ => ∃ (n : Nat), vs = [.int n] ∧ n ≤ 2000 ∧ ∀ H' p, Same H H' → H p = none → H' p = some (.lst (vF LM.G (n + 1))) → Q (.ref p) H'
theorem ok_table_to (d : D_table_to K mg) (dP : D_primes_to K mg) (mr : mg "range" = none) (mv : mg "reversed" = none) (mm : mg "max" = none) : FnOk P w K mg base CX0 2 d.f d.fd P_table_to sp_table_to := by
  have GP : FnOk P w K mg base CX0 1 dP.f dP.fd P_primes_to sp_primes_to := ok_primes_to dP mr
  refine d.F.ok sc_table_to (fun vs H Q E h => ?_) (fun cdv A outer s H vs Q E hr h => ?_)
  · obtain ⟨n, rfl, _⟩ := h
    rfl
  · obtain ⟨n, rfl, hn, q⟩ := h
    refine ⟨_, pss_cons (ps_set (i := 1) sc_table_to.nd rfl (.inl rfl) (pe_op op_rep (pe_lst (pa_cons pe_int pa_nil)) (pe_op op_add (pv 0) pe_int)))
      (pss_cons (ps_for PassesOwn.never rfl (pi_list (pe_call GP hr (by rfl) dP.g dP.F.kp dP.b .nil pass0 (pa_cons (pv 0) pa_nil))) (pg_name (i := 2) sc_table_to.nd rfl (.inl rfl))
        (pss_one (ps_for PassesOwn.never rfl (pi_revR (by rfl) mv (prg_2 (by rfl) mr (pv 2) (pe_op op_add (pv 0) pe_int))) (pg_name (i := 3) sc_table_to.nd rfl (.inl rfl))
          (pss_cons (ps_set (i := 4) sc_table_to.nd rfl (.inl rfl) (pv 2))
            (pss_one (ps_while PassesOwn.never (pt_cmpR op_le (pv 4) (pv 3) (nomark _))
              (pss_cons (ps_asg (pe_callB (call_max2 rfl) (by rfl) mm (by decide +kernel) (pa_cons (pe_ix ix_list (pv 1) (pv 3) (fun _ _ => rfl))
                  (pa_cons (pe_op op_mul (pe_ix ix_list (pv 1) (pe_op op_sub (pv 3) (pv 4)) (fun _ _ => rfl)) (pv 4)) pa_nil))) (pg_sub (pv 1) (pv 3) set_list))
                (pss_one (ps_set (i := 4) sc_table_to.nd rfl (.inl rfl) (pe_op op_mul (pv 4) (pv 2)))))))))))
      (pss_one (ps_ret (pv 1)))), ?_⟩
    -- [1] * (n + 1)
    refine ⟨line_le (by decide), fun t nt => ?_⟩
    refine ⟨_, rfl, (n : Int), 1, rfl, rfl, t, (n : Int) + 1, _, rfl, rfl, upd_same, by omega, by omega, ?_, fun b nb => ?_⟩
    · refine line_le ?_
      show 1 * ((n : Int) + 1).toNat ≤ _
      omega
    have nbH : H b = none := (same_upd nt).free nb
    have eF : (List.replicate ((n : Int) + 1).toNat [V.int 1]).flatten = vF (fun _ => 1) (n + 1) := by
      rw [show ((n : Int) + 1).toNat = n + 1 by omega]
      exact rep_flat _ _
    rw [eF]
    -- primes_to(n)
    refine ⟨.int n, rfl, n, rfl, hn, fun H1 pp sm1 npp ep => ?_⟩
    have sm0 : Same H H1 := ((same_upd nt).new nb).trans sm1
    have eb1 : H1 b = some (.lst (vF (fun _ => 1) (n + 1))) := sm1 _ _ upd_same
    have npb : pp ≠ b := fun e => by
      rw [e, upd_same] at npp
      cases npp
    refine ⟨pp, rfl, ⟨_, SqL.of ep⟩, for_list (K := K) (a := pp) (xs := vN (LM.primesTo n))
      (fun r σ H' => ∃ y2 y3 y4, σ = [some (.int n), some (.ref b), y2, y3, y4] ∧ Same H H' ∧ H' pp = some (.lst (vN (LM.primesTo n))) ∧ H' b = some (.lst (vF (LM.tab ((LM.primesTo n).take r)) (n + 1))))
      ⟨none, none, none, rfl, sm0, ep, eb1⟩ (fun _ _ _ _ ⟨_, _, _, _, _, e, _⟩ => SqL.of e) ?_ ?_⟩
    · rintro r x σ H2 hx ⟨y2, y3, y4, rfl, sm2, ep2, eb2⟩
      obtain ⟨p, hp, rfl⟩ := vN_at hx
      have hpm : p ∈ LM.primesTo n := List.mem_of_getElem? hp
      have hp2 : 2 ≤ p := LM.isP_two (LM.mem_primesTo.mp hpm).1
      have hpn : p ≤ n := (LM.mem_primesTo.mp hpm).2
      rw [take_more hp, LM.tab_snoc]
      obtain ⟨f, hf⟩ : ∃ f, f = LM.tab ((LM.primesTo n).take r) := ⟨_, rfl⟩
      rw [← hf] at eb2 ⊢
      have hf2 : ∀ j, f j ≤ 2 ^ j := fun j => by
        rw [hf]
        exact LM.tab_le _ _
      refine ⟨.int p, rfl, .int n, rfl, (n : Int), 1, rfl, rfl, (p : Int), (n : Int) + 1, rfl, rfl, by omega, by omega, by omega, by omega, for_rangeC (n := ((n : Int) + 1 - p).toNat)
        (fun i σ H' => ∃ y3 y4, σ = [some (.int n), some (.ref b), some (.int p), y3, y4] ∧ Same H H' ∧ H' pp = some (.lst (vN (LM.primesTo n))) ∧ H' b = some (.lst (vF (top f p (n + 1 - i)) (n + 1))))
        ⟨y3, y4, rfl, sm2, ep2, ?_⟩ ?_ ?_⟩
      · rw [eb2]
        congr 2
        refine vF_congr fun j hj => ?_
        unfold top
        rw [if_neg (by omega)]
      · rintro i σ H3 hi ⟨y3, y4, rfl, sm3, ep3, eb3⟩
        obtain ⟨many, hmany⟩ : ∃ many, many = n - i := ⟨_, rfl⟩
        have ei : (p : Int) + (((n : Int) + 1 - p).toNat : Nat) - 1 + (i : Nat) * (-1) = (many : Int) := by omega
        have hi2 : i + p ≤ n := by omega
        rw [ei]
        refine ⟨.int p, rfl, fun m σ H' => ∃ k, m = many + 1 - p ^ (k + 1) ∧ σ = [some (.int n), some (.ref b), some (.int p), some (.int many), some (.int ((p ^ (k + 1) : Nat) : Int))] ∧ p ^ k ≤ many ∧ Same H H' ∧ H' pp = some (.lst (vN (LM.primesTo n))) ∧ H' b = some (.lst (vF (mid f p many k) (n + 1))), ⟨_, 0, rfl, ?_, ?_, sm3, ep3, ?_⟩, ?_⟩
        · rw [Nat.zero_add, Nat.pow_one]
          rfl
        · rw [Nat.pow_zero]
          omega
        · rw [eb3]
          congr 2
          refine vF_congr fun j hj => ?_
          unfold top mid
          by_cases e1 : j = many
          · rw [if_pos e1, if_neg (by omega), e1]
            rfl
          · rw [if_neg e1]
            by_cases e2 : many < j
            · rw [if_pos e2, if_pos (by omega)]
            · rw [if_neg e2, if_neg (by omega)]
        · rintro m σ H4 ⟨k, rfl, rfl, hk, sm4, ep4, eb4⟩
          have hpk : p ^ (k + 1) = p ^ k * p := Nat.pow_succ p k
          have hb0 : p ^ k * p ≤ 2000 * 2000 := Nat.mul_le_mul (by omega) (by omega)
          have hpos : 1 ≤ p ^ (k + 1) := Nat.one_le_pow _ _ (by omega)
          refine ⟨_, rfl, _, rfl, ((p ^ (k + 1) : Nat) : Int), (many : Int), rfl, rfl, _, rfl, ite2 (fun c => ?_) (fun c => ?_)⟩
          · have c' : p ^ (k + 1) ≤ many := by
              have := of_decide_eq_true c
              omega
            have g1 : mid f p many k many = LM.bestPow f p many k := if_pos rfl
            have g2 : mid f p many k (many - p ^ (k + 1)) = f (many - p ^ (k + 1)) := by
              unfold mid
              rw [if_neg (by omega), if_neg (by omega)]
            refine ⟨fun σ H' => σ = [some (.int n), some (.ref b), some (.int p), some (.int many), some (.int ((p ^ (k + 1 + 1) : Nat) : Int))] ∧ Same H H' ∧ H' pp = some (.lst (vN (LM.primesTo n))) ∧ H' b = some (.lst (vF (mid f p many (k + 1)) (n + 1))), ?_, ?_⟩
            · rintro σ' H' ⟨e1, e2, e3, e4⟩
              refine ⟨_, ?_, k + 1, rfl, e1, c', e2, e3, e4⟩
              have h2 : p ^ (k + 1) * 2 ≤ p ^ (k + 1) * p := Nat.mul_le_mul_left _ hp2
              have h3 : p ^ (k + 1 + 1) = p ^ (k + 1) * p := Nat.pow_succ p (k + 1)
              omega
            · refine ⟨.ref b, rfl, .int many, rfl, b, _, _, _, rfl, rfl, SqL.of eb4, at_of (j := many) rfl (vF_get (by omega)), .ref b, rfl, .int many, rfl, .int ((p ^ (k + 1) : Nat) : Int), rfl, (many : Int), ((p ^ (k + 1) : Nat) : Int), rfl, rfl, b, _, _, _, rfl, rfl, SqL.of eb4, at_of (j := many - p ^ (k + 1)) (by omega) (vF_get (by omega)),
                .int ((p ^ (k + 1) : Nat) : Int), rfl, _, _, rfl, rfl, .inr ⟨by omega, by omega⟩, _, _, rfl, ?_⟩
              rw [g1, g2]
              refine ⟨.ref b, rfl, .int many, rfl, b, _, (many : Int), many, rfl, rfl, eb4, ?_, ?_⟩
              · rw [vF_len]
                exact ixN_nat (by omega)
              refine ⟨_, rfl, _, rfl, ((p ^ (k + 1) : Nat) : Int), (p : Int), rfl, rfl, .inl ⟨by omega, by omega⟩, ?_⟩
              refine ⟨?_, sm4.updn nbH, ?_, ?_⟩
              · have e4 : ((p ^ (k + 1) : Nat) : Int) * (p : Int) = ((p ^ (k + 1 + 1) : Nat) : Int) := by rw [Nat.pow_succ p (k + 1), Int.natCast_mul]
                rw [← e4]
                rfl
              · rw [upd_ne npb]
                exact ep4
              · rw [upd_same]
                congr 2
                have em : (if ((f (many - p ^ (k + 1)) : Nat) : Int) * ((p ^ (k + 1) : Nat) : Int) > ((LM.bestPow f p many k : Nat) : Int) then ((f (many - p ^ (k + 1)) : Nat) : Int) * ((p ^ (k + 1) : Nat) : Int) else ((LM.bestPow f p many k : Nat) : Int)) = ((LM.bestPow f p many (k + 1) : Nat) : Int) := by
                  rw [← Int.natCast_mul]
                  show _ = (((if p ^ (k + 1) ≤ many then max (LM.bestPow f p many k) (f (many - p ^ (k + 1)) * p ^ (k + 1)) else LM.bestPow f p many k) : Nat) : Int)
                  rw [if_pos c']
                  split <;> omega
                rw [em]
                refine vF_set fun j hj => ?_
                unfold mid
                by_cases e1 : j = many
                · rw [if_pos e1, if_pos e1]
                · rw [if_neg e1, if_neg e1, if_neg e1]
          · have c' : many < p ^ (k + 1) := by
              have := of_decide_eq_false (by simpa using c : decide (((p ^ (k + 1) : Nat) : Int) ≤ (many : Int)) = false)
              omega
            refine ⟨_, _, rfl, sm4, ep4, ?_⟩
            rw [eb4]
            congr 2
            refine vF_congr fun j hj => ?_
            unfold top mid
            by_cases e1 : j = many
            · rw [if_pos e1, if_pos (by omega), e1]
              exact LM.bestPow_end hp2 c'
            · rw [if_neg e1]
              by_cases e2 : many < j
              · rw [if_pos e2, if_pos (by omega)]
              · rw [if_neg e2, if_neg (by omega)]
      · rintro σ H3 ⟨y3, y4, rfl, sm3, ep3, eb3⟩
        refine ⟨_, _, _, rfl, sm3, ep3, ?_⟩
        rw [eb3]
        congr 2
        refine vF_congr fun j hj => ?_
        unfold top
        by_cases e : p ≤ j
        · rw [if_pos (by omega)]
        · rw [if_neg (by omega)]
          exact (LM.stepP_small (by omega)).symm
    · rintro σ H2 ⟨y2, y3, y4, rfl, sm2, ep2, eb2⟩
      refine ⟨.ref b, rfl, q H2 b sm2 nbH ?_⟩
      rw [eb2, vN_len, List.take_length]
      congr 2
      exact vF_congr fun j hj => LM.tab_G (by omega)
end
end LR
namespace LR
open PySem PySem.Spec PyProof.Rows L2
section
variable {P : Program} {w : World} {K : PySem.W.Frag} {mg : Str → Option Value} {base : Heap}
/-! ### powers_of -/
def sp_powers_of : Sp := fun vs H Q _ => ∃ (n : Nat), vs = [.int n] ∧ 1 ≤ n ∧ n < 2 ^ 2001 ∧ ∀ H' p, Same H H' → H p = none → H' p = some (.lst (vN (LM.powers n))) → Q (.ref p) H'
theorem ok_powers_of (d : D_powers_of K mg) (ms : mg "sorted" = none) : FnOk P w K mg base CX0 1 d.f d.fd P_powers_of sp_powers_of := by
  refine d.F.ok sc_powers_of (fun vs H Q E h => ?_) (fun cdv A outer s H vs Q E hr h => ?_)
  · obtain ⟨n, rfl, _⟩ := h
    rfl
  · obtain ⟨n, rfl, hn1, hn2, q⟩ := h
    refine ⟨_, pss_cons (ps_par3 (i := 1) (j := 2) (l := 3) (by rfl) sc_powers_of.nd rfl rfl rfl (by decide) (by decide) (by decide) rfl rfl rfl (pa_cons (pe_lst pa_nil) (pa_cons pe_int (pa_cons (pv 0) pa_nil))) (by rfl))
      (pss_cons (ps_while PassesOwn.never (pt_cmpR op_le (pe_op op_mulW (pv 2) (pv 2)) (pv 3) (nomark _))
        (pss_cons (ps_set (i := 4) sc_powers_of.nd rfl (.inl rfl) pe_int)
        (pss_cons (ps_while PassesOwn.never (pt_cmpR op_eq (pe_op op_mod (pv 3) (pv 2)) pe_int (nomark _))
          (pss_one (ps_par (i := 3) (j := 4) (by rfl) sc_powers_of.nd rfl rfl (by decide) rfl rfl (pa_cons (pe_op op_fdivW (pv 3) (pv 2)) (pa_cons (pe_op op_mulW (pv 4) (pv 2)) pa_nil)) (by rfl))))
        (pss_cons (ps_if (pt_cmpR op_gt (pv 4) pe_int (nomark _))
          (pss_one (ps_expr (pe_bm PySem.F.plainAttrs_list PySem.F.slot_list_append PySem.F.type_list_append mt_append (pv 1) (pa_cons (pv 4) pa_nil)))) pss_nil)
        (pss_one (ps_aug (i := 2) sc_powers_of.nd rfl (.inl rfl) pe_int ip_add))))))
      (pss_one (ps_ret (pe_callB cr_sortedI (by rfl) ms (by decide +kernel) (pa_cons (pe_ifExp (pt_cmpR op_gt (pv 3) pe_int (nomark _)) (pe_op op_cat (pv 1) (pe_lst (pa_cons (pv 3) pa_nil))) (pv 1)) pa_nil))))), ?_⟩
    refine ⟨line_le (by decide), fun fp nf => ?_⟩
    refine ⟨.int n, rfl, _, _, _, rfl, ?_⟩
    refine ⟨fun m σ H' => ∃ i y4, m = n + 1 - i ∧ i ≤ n ∧ σ = [some (.int n), some (.ref fp), some (.int (LM.pst n i).part), some (.int (LM.pst n i).left), y4] ∧ Same H H' ∧ H' fp = some (.lst (vN (LM.pst n i).found)),
      ⟨_, 0, none, rfl, Nat.zero_le _, rfl, same_upd nf, upd_same⟩, ?_⟩
    rintro m σ H1 ⟨i, y4, rfl, hi, rfl, sm1, ef1⟩
    have b1 : (LM.pst n i).part < 2 ^ 2002 := by
      have h1 := LM.pst_part_le (n := n) i
      have h2 : (2 : Nat) ^ 2002 = 2 ^ 2001 * 2 := Nat.pow_succ 2 2001
      have h3 : 2 ≤ 2 ^ 2001 := Nat.le_of_lt (bits_up (a := 2) (j := 2) (Nat.le_refl 2) (by decide) (by decide))
      omega
    have b2 : (LM.pst n i).left < 2 ^ 2001 := Nat.lt_of_le_of_lt (LM.pst_le i) hn2
    have p2 := LM.pst_part2 (n := n) i
    have l1 := LM.pst_pos hn1 i
    refine ⟨.int (LM.pst n i).part, rfl, .int (LM.pst n i).part, rfl, _, _, rfl, rfl, wide_mul (nat_wide b1) (nat_wide b1) (by decide) (by decide) (by decide), .int (LM.pst n i).left, rfl, _, _, rfl, rfl, _, rfl, ite2 (fun c => ?_) (fun c => ?_)⟩
    · have go : (LM.pst n i).go := by
        have := of_decide_eq_true c
        unfold LM.PS.go
        have e : (((LM.pst n i).part * (LM.pst n i).part : Nat) : Int) = ((LM.pst n i).part : Int) * ((LM.pst n i).part : Int) := Int.natCast_mul _ _
        omega
      have hin : i < n := by
        rcases Nat.lt_or_ge i n with z | z
        · exact z
        · refine absurd go (LM.pst_done ?_)
          have : (n + 2) * (n + 2) ≤ (i + 2) * (i + 2) := Nat.mul_le_mul (by omega) (by omega)
          have e : (n + 2) * (n + 2) = n * n + 2 * n + 2 * n + 4 := by rw [Nat.add_mul, Nat.mul_add, Nat.mul_add]; omega
          omega
      have et : (LM.pst n (i + 1)) = (LM.pst n i).after := by
        show (LM.pst n i).turn = _
        unfold LM.PS.turn
        rw [if_pos go]
      obtain ⟨S, hS⟩ : ∃ S, S = LM.pst n i := ⟨_, rfl⟩
      have hlen : (LM.pst n i).found.length < 2001 := LM.pst_len' hn1 hn2 i
      rw [← hS] at et b1 b2 p2 l1 ef1 go hlen ⊢
      refine ⟨fun σ H' => ∃ y4, σ = [some (.int n), some (.ref fp), some (.int S.after.part), some (.int S.after.left), y4] ∧ Same H H' ∧ H' fp = some (.lst (vN S.after.found)), ?_, ?_⟩
      · rintro σ' H' ⟨z4, e1, e2, e3⟩
        rw [← et] at e1 e3
        exact ⟨_, by omega, i + 1, z4, rfl, hin, e1, e2, e3⟩
      -- power = 1, the inner loop
      refine ⟨fun m σ H' => ∃ k, m = (LM.stripK S.part (S.left, 1) k).1 ∧ σ = [some (.int n), some (.ref fp), some (.int S.part), some (.int (LM.stripK S.part (S.left, 1) k).1), some (.int (LM.stripK S.part (S.left, 1) k).2)] ∧ H' = H1, ⟨_, 0, rfl, rfl, rfl⟩, ?_⟩
      rintro m σ H2 ⟨k, rfl, rfl, rfl⟩
      obtain ⟨z, hz⟩ : ∃ z, z = LM.stripK S.part (S.left, 1) k := ⟨_, rfl⟩
      have z1 : 1 ≤ z.1 := by
        rw [hz]
        exact LM.stripK_pos (s := (S.left, 1)) p2 l1 k
      have z2 : z.1 ≤ S.left := by
        rw [hz]
        exact LM.stripK_le k
      have z3 : z.1 * z.2 = S.left := by
        rw [hz]
        exact (LM.stripK_prod (s := (S.left, 1)) p2 k).trans (Nat.mul_one _)
      have z4 : z.2 ≤ S.left := by
        rw [← z3]
        exact Nat.le_mul_of_pos_left _ z1
      have hz' : LM.stripK S.part (S.left, 1) (k + 1) = LM.strip1 S.part z := by
        rw [hz]
        rfl
      rw [← hz]
      refine ⟨.int z.1, rfl, .int S.part, rfl, _, _, rfl, rfl, (by omega : (0 : Int) < (S.part : Int)), rfl, _, rfl, ite2 (fun c => ?_) (fun c => ?_)⟩
      · have c' : z.1 % S.part = 0 := by
          have e : V.int ((z.1 : Int) % (S.part : Int)) = V.int 0 := of_decide_eq_true c
          have e2 := V.int.inj e
          rw [mod_nat] at e2
          omega
        refine ⟨fun σ H' => σ = [some (.int n), some (.ref fp), some (.int S.part), some (.int (z.1 / S.part : Nat)), some (.int (z.2 * S.part : Nat))] ∧ H' = H2, ?_, ?_⟩
        · rintro σ' H' ⟨e1, e2⟩
          refine ⟨_, Nat.div_lt_self z1 p2, k + 1, ?_, ?_, e2⟩
          · rw [hz']
            unfold LM.strip1
            rw [if_pos c']
          · rw [hz', e1]
            unfold LM.strip1
            rw [if_pos c']
        · refine ⟨.int z.1, rfl, .int S.part, rfl, _, _, rfl, rfl, wide_div (by omega) (nat_wide b1) (by decide) (by decide), .int z.2, rfl, .int S.part, rfl, _, _, rfl, rfl, wide_mul (nat_wide (bits_up z4 b2 (Nat.le_refl _))) (nat_wide b1) (by decide) (by decide) (by decide), _, _, rfl, ?_⟩
          refine ⟨?_, rfl⟩
          rw [Int.natCast_mul]
          rfl
      · have c' : (LM.stripK S.part (S.left, 1) k).1 % S.part ≠ 0 := by
          rw [← hz]
          intro e
          refine c (decide_eq_true ?_)
          show V.int ((z.1 : Int) % (S.part : Int)) = V.int 0
          rw [mod_nat, e]
          rfl
        have ez : z = LM.strip S.part S.left := hz.trans (LM.strip_end p2 l1 c')
        -- if power > 1
        refine ⟨.int z.2, rfl, _, _, rfl, rfl, _, rfl, ite2 (fun c2 => ?_) (fun c2 => ?_)⟩
        · have c3 : 1 < (LM.strip S.part S.left).2 := by
            have := of_decide_eq_true c2
            rw [← ez]
            omega
          refine ⟨.ref fp, rfl, .inl ⟨rfl, _, SqL.of ef1⟩, .int z.2, rfl, fp, _, _, rfl, rfl, ef1, line_lt (by rw [vN_len]; omega), ?_⟩
          refine ⟨_, rfl, _, _, rfl, rfl, some (.int z.2), ?_, sm1.updn nf, ?_⟩
          · show (_ : L2.St) = [some (V.int n), some (V.ref fp), some (V.int ((S.part + 1 : Nat) : Int)), some (V.int ((LM.strip S.part S.left).1 : Nat)), some (V.int z.2)]
            rw [← ez]
            rfl
          · rw [upd_same]
            unfold LM.PS.after
            rw [if_pos c3, vN_app, ← ez]
            rfl
        · have c3 : ¬ 1 < (LM.strip S.part S.left).2 := by
            rw [← ez]
            intro h
            refine c2 (decide_eq_true ?_)
            omega
          refine ⟨_, rfl, _, _, rfl, rfl, some (.int z.2), ?_, sm1, ?_⟩
          · show (_ : L2.St) = [some (V.int n), some (V.ref fp), some (V.int ((S.part + 1 : Nat) : Int)), some (V.int ((LM.strip S.part S.left).1 : Nat)), some (V.int z.2)]
            rw [← ez]
            rfl
          · unfold LM.PS.after
            rw [if_neg c3]
            exact ef1
    · have ng : ¬ (LM.pst n i).go := by
        intro g
        refine c (decide_eq_true ?_)
        unfold LM.PS.go at g
        have e : (((LM.pst n i).part * (LM.pst n i).part : Nat) : Int) = ((LM.pst n i).part : Int) * ((LM.pst n i).part : Int) := Int.natCast_mul _ _
        omega
      have ee := LM.pst_end ng
      have hlen : (LM.pst n i).found.length < 2001 := LM.pst_len' hn1 hn2 i
      refine ⟨.int (LM.pst n i).left, rfl, _, _, rfl, rfl, _, rfl, ite2 (fun c2 => ?_) (fun c2 => ?_)⟩
      · have c3 : 1 < (LM.pend n).left := by
          have := of_decide_eq_true c2
          rw [← ee]
          omega
        refine ⟨.ref fp, rfl, .int (LM.pst n i).left, rfl, line_le (by show 1 ≤ 16777216; decide), fun t nt => ?_⟩
        have ntf : fp ≠ t := ne_of_none ef1 nt
        refine ⟨fp, t, _, _, rfl, rfl, (by rw [upd_ne ntf]; exact ef1), upd_same, line_le (by rw [vN_len]; show _ + 1 ≤ _; omega), fun u nu => ?_⟩
        refine ⟨u, (LM.powersRaw n).map fun n : Nat => (n : Int), rfl, SqL.of ?_, fun ns' p pm so np => ?_⟩
        · rw [upd_same, ← vN_int]
          unfold LM.powersRaw
          rw [if_pos c3, vN_app, ← ee]
          rfl
        · rw [LM.srt_int pm so, ← vN_int]
          exact q _ p (((sm1.new nt).new nu).new np) (((sm1.new nt).new nu).free np) upd_same
      · have c3 : ¬ 1 < (LM.pend n).left := by
          rw [← ee]
          intro h
          refine c2 (decide_eq_true ?_)
          omega
        refine ⟨.ref fp, rfl, fp, (LM.powersRaw n).map fun n : Nat => (n : Int), rfl, SqL.of ?_, fun ns' p pm so np => ?_⟩
        · rw [← vN_int]
          unfold LM.powersRaw
          rw [if_neg c3, ← ee]
          exact ef1
        · rw [LM.srt_int pm so, ← vN_int]
          exact q _ p (sm1.new np) (sm1.free np) upd_same
end
end LR
namespace LR
open PySem PySem.Spec PyProof.Rows L2
section
variable {P : Program} {w : World} {K : PySem.W.Frag} {mg : Str → Option Value} {base : Heap}
/-! ### greatest -/
def sp_greatest : Sp := fun vs H Q _ => ∃ (n : Nat), vs = [.int n] ∧ n ≤ 2000 ∧ ∀ H', Same H H' → Q (.int (LM.G n)) H'
theorem inR_nat {n hi : Nat} (h : n ≤ hi) : inR (.int n) 0 hi = true := by
  show (decide ((0 : Int) ≤ n) && decide ((n : Int) ≤ hi)) = true
  rw [decide_eq_true (by omega), decide_eq_true (by omega)]
  rfl
theorem ok_greatest {tG : Tok} (d : D_greatest K mg) (dC : D_check_cards K mg) (dT : D_table_to K mg) {C : Addr} (GC : FnOk P w K mg base (L2.CX P w) 3 dC.f dC.fd P_check_cards (sp_check_cards C)) (GT : FnOk P w K mg base CX0 2 dT.f dT.fd P_table_to sp_table_to)
    (gG : mg "MOST_GREAT" = some (.int 2000 tG)) : FnOk P w K mg base CX0 4 d.f d.fd P_greatest sp_greatest := by
  refine d.F.ok sc_greatest (fun vs H Q E h => ?_) (fun cdv A outer s H vs Q E hr h => ?_)
  · obtain ⟨n, rfl, _⟩ := h
    rfl
  · obtain ⟨n, rfl, hn, q⟩ := h
    refine ⟨_, pss_cons (ps_expr (pe_call GC hr (by rfl) dC.g dC.F.kp dC.b .nil passL (pa_cons (pv 0) (pa_cons pe_int (pa_cons (pe_glob rfl gG relI) pa_nil)))))
      (pss_one (ps_ret (pe_ix ix_list (pe_call GT (hr.mono (by decide)) (by rfl) dT.g dT.F.kp dT.b .nil pass0 (pa_cons (pv 0) pa_nil)) (pv 0) (fun _ _ => rfl)))), ?_⟩
    refine ⟨_, rfl, _, _, 0, 2000, rfl, .int _, fun e => ?_, fun _ => ?_⟩
    · exact absurd ((show inR (.int n) 0 2000 = true from inR_nat (hi := 2000) hn).symm.trans e) (by decide)
    · refine ⟨_, rfl, n, rfl, hn, fun H' p sm np ep => ?_⟩
      exact ⟨_, rfl, p, _, _, _, rfl, rfl, SqL.of ep, at_of (j := n) rfl (vF_get (by omega)), q H' sm⟩
end
end LR
namespace LR
open PySem PySem.Spec PyProof.Rows L2
section
variable {P : Program} {w : World} {K : PySem.W.Frag} {mg : Str → Option Value} {base : Heap}
/-! ### least_cards, least_for -/
theorem sum_nat : ∀ l : List Nat, (l.map fun n : Nat => (n : Int)).sum = ((l.sum : Nat) : Int)
  | [] => rfl
  | a :: r => by
    rw [List.map_cons, List.sum_cons, List.sum_cons, sum_nat r, Int.natCast_add]
theorem sum_srt (l : List Nat) : (LM.srt l).sum = l.sum := (LM.srt_perm l).sum_nat
theorem inR_int {x : V} {lo hi : Int} (h : inR x lo hi = true) : ∃ i : Int, x = .int i ∧ lo ≤ i ∧ i ≤ hi := by
  cases x with
  | int i =>
    have h' : (decide (lo ≤ i) && decide (i ≤ hi)) = true := h
    rw [Bool.and_eq_true, decide_eq_true_eq, decide_eq_true_eq] at h'
    exact ⟨i, rfl, h'⟩
  | _ => cases h
def sp_least_cards (C : Addr) : Sp := fun vs H Q E => ∃ (x : V) (t : String), vs = [x] ∧ Kd H x t ∧ (inR x 1 1000000000 = false → E (.ref C) none H) ∧
  ∀ n : Nat, x = .int n → 1 ≤ n → n ≤ 1000000000 → ∀ H', Same H H' → Q (.int ((LM.powersRaw n).sum : Nat)) H'
theorem ok_least_cards {tP : Tok} (d : D_least_cards K mg) (dC : D_check_number K mg) (dW : D_powers_of K mg) {C : Addr} (GC : FnOk P w K mg base (L2.CX P w) 3 dC.f dC.fd P_check_number (sp_check_number C)) (GW : FnOk P w K mg base CX0 1 dW.f dW.fd P_powers_of sp_powers_of)
    (gP : mg "MOST_PLAIN" = some (.int 1000000000 tP)) (zs : mg "sum" = none) : FnOk P w K mg base (L2.CX P w) 4 d.f d.fd P_least_cards (sp_least_cards C) := by
  refine d.F.okX sc_least_cards (fun vs H Q E h => ?_) (fun cdv A outer s H vs Q E hr h => ?_)
  · obtain ⟨x, t, rfl, _⟩ := h
    rfl
  · obtain ⟨x, t, rfl, hk, kE, kQ⟩ := h
    refine ⟨_, pss_cons (ps_expr (pe_call GC hr (by rfl) dC.g dC.F.kp dC.b .nil (passes_call (E := E) (takes_of rfl rfl rfl rfl) fun _ _ _ _ z => z) (pa_cons (pv 0) (pa_cons (pe_glob rfl gP relI) pa_nil))))
      (PSs.nox (pss_one (ps_ret (pe_callB (cr_sum rfl) (by rfl) zs (by decide +kernel) (pa_cons (pe_call GW (hr.mono (by decide)) (by rfl) dW.g dW.F.kp dW.b .nil pass0 (pa_cons (pv 0) pa_nil)) pa_nil))))), ?_⟩
    refine ⟨_, rfl, x, t, 1000000000, rfl, hk, kE, fun e => ?_⟩
    obtain ⟨i, rfl, h1, h2⟩ := inR_int e
    obtain ⟨n, rfl⟩ : ∃ n : Nat, i = n := ⟨i.toNat, by omega⟩
    refine ⟨_, rfl, n, rfl, by omega, ?_, fun H' p sm np ep => ?_⟩
    · exact bits_up (b := 1000000000) (j := 30) (by omega) (by decide) (by decide)
    · refine ⟨p, (LM.powers n).map fun n : Nat => (n : Int), rfl, SqL.of (by rw [← vN_int]; exact ep), ?_⟩
      rw [sum_nat]
      unfold LM.powers
      rw [sum_srt]
      exact kQ n rfl (by omega) (by omega) H' sm
def sp_least_for (C : Addr) : Sp := fun vs H Q E => ∃ (x : V) (t : String), vs = [x] ∧ Kd H x t ∧ (inR x 1 (10 ^ 30) = false → E (.ref C) none H) ∧
  ∀ z : Int, x = .int z → 1 ≤ z → z ≤ 10 ^ 30 → ∃ n : Nat, n ≤ 2000 ∧ z ≤ (LM.G n : Nat) ∧ (∀ j, j < n → (LM.G j : Int) < z) ∧ ∀ H', Same H H' → Q (.int n) H'
theorem ok_least_for {tG tT : Tok} (d : D_least_for K mg) (dC : D_check_number K mg) (dT : D_table_to K mg) {C : Addr} (GC : FnOk P w K mg base (L2.CX P w) 3 dC.f dC.fd P_check_number (sp_check_number C)) (GT : FnOk P w K mg base CX0 2 dT.f dT.fd P_table_to sp_table_to)
    (gG : mg "MOST_GREAT" = some (.int 2000 tG)) (gT : mg "MOST_TIMES" = some (.int 1000000000000000000000000000000 tT)) (mr : mg "range" = none) : FnOk P w K mg base (L2.CX P w) 4 d.f d.fd P_least_for (sp_least_for C) := by
  refine d.F.okX sc_least_for (fun vs H Q E h => ?_) (fun cdv A outer s H vs Q E hr h => ?_)
  · obtain ⟨x, t, rfl, _⟩ := h
    rfl
  · obtain ⟨x, t, rfl, hk, kE, kQ⟩ := h
    refine ⟨_, pss_cons (ps_expr (pe_call GC hr (by rfl) dC.g dC.F.kp dC.b .nil (passes_call (E := E) (takes_of rfl rfl rfl rfl) fun _ _ _ _ z => z) (pa_cons (pv 0) (pa_cons (pe_glob rfl gT relI) pa_nil))))
      (PSs.nox (pss_cons (ps_for PassesOwn.never rfl (pi_tup (pe_tup (pa_cons pe_int (pa_cons (pe_glob rfl gG relI) pa_nil)))) (pg_name (i := 1) sc_least_for.nd rfl (.inl rfl))
          (pss_cons (ps_set (i := 2) sc_least_for.nd rfl (.inl rfl) (pe_call GT (hr.mono (by decide)) (by rfl) dT.g dT.F.kp dT.b .nil pass0 (pa_cons (pv 1) pa_nil)))
            (pss_one (ps_for PassesOwn.never rfl (pi_range1 (by rfl) mr (pa_cons (pe_op op_add (pv 1) pe_int) pa_nil)) (pg_name (i := 3) sc_least_for.nd rfl (.inl rfl))
              (pss_one (ps_if (pt_cmpR op_ge (pe_ix ix_list (pv 2) (pv 3) (fun _ _ => rfl)) (pv 0) (nomark _)) (pss_one (ps_ret (pv 3))) pss_nil))))))
        (pss_one (ps_ret pe_non)))), ?_⟩
    refine ⟨_, rfl, x, t, 1000000000000000000000000000000, rfl, hk, kE, fun e => ?_⟩
    obtain ⟨z, rfl, h1, h2⟩ := inR_int e
    obtain ⟨n, hn, hz, hmin, q⟩ := kQ z rfl h1 h2
    refine ⟨line_le (by decide), fun tp nt => ?_⟩
    refine ⟨tp, rfl, ⟨_, SqT.of upd_same⟩, for_tup (K := K) (a := tp) (xs := [.int 200, .int 2000])
      (fun i σ H' => ∃ y1 y2 y3, σ = [some (.int z), y1, y2, y3] ∧ Same H H' ∧ H' tp = some (.tup [.int 200, .int 2000]) ∧ (1 ≤ i → 200 < n) ∧ (2 ≤ i → 2000 < n))
      ⟨none, none, none, rfl, same_upd nt, upd_same, fun h => by omega, fun h => by omega⟩ (fun _ _ _ _ ⟨_, _, _, _, _, e, _⟩ => SqT.of e) ?_ ?_⟩
    · rintro i y σ H1 hy ⟨y1, y2, y3, rfl, sm1, et1, g1, g2⟩
      obtain ⟨m, rfl, hm, hm1⟩ : ∃ m : Nat, y = .int m ∧ m ≤ 2000 ∧ ((i = 0 ∧ m = 200) ∨ (i = 1 ∧ m = 2000)) := by
        match i, hy with
        | 0, hy => exact ⟨200, (Option.some.inj hy).symm, by decide, .inl ⟨rfl, rfl⟩⟩
        | 1, hy => exact ⟨2000, (Option.some.inj hy).symm, by decide, .inr ⟨rfl, rfl⟩⟩
      refine ⟨.int m, rfl, m, rfl, hm, fun H2 b sm2 nb eb => ?_⟩
      refine ⟨.int m, rfl, _, _, rfl, rfl, (m : Int) + 1, rfl, by omega, by omega, for_range (lo := 0) (n := ((m : Int) + 1).toNat)
        (fun j σ H' => ∃ y3, σ = [some (.int z), some (.int m), some (.ref b), y3] ∧ H' = H2 ∧ j ≤ n) ⟨y3, rfl, rfl, Nat.zero_le _⟩ ?_ ?_⟩
      · rintro j σ H3 hj ⟨y3, rfl, rfl, hjn⟩
        have e0 : (0 : Int) + (j : Int) = (j : Int) := by omega
        rw [e0]
        refine ⟨.ref b, rfl, .int j, rfl, b, _, _, _, rfl, rfl, SqL.of eb, at_of (j := j) rfl (vF_get (by omega)), .int z, rfl, _, _, rfl, rfl, _, rfl, ite2 (fun c => ?_) (fun c => ?_)⟩
        · have c' : z ≤ (LM.G j : Nat) := of_decide_eq_true c
          have : j = n := by
            rcases Nat.lt_or_ge j n with h | h
            · have := hmin j h
              omega
            · omega
          subst this
          exact ⟨.int j, rfl, q H3 (sm1.trans sm2)⟩
        · refine ⟨_, rfl, rfl, ?_⟩
          rcases Nat.lt_or_ge j n with h | h
          · exact h
          · have : j = n := by omega
            subst this
            exact absurd (decide_eq_true hz) c
      · rintro σ H3 ⟨y3, rfl, rfl, hjn⟩
        refine ⟨_, _, _, rfl, sm1.trans sm2, sm2 _ _ et1, fun _ => ?_, fun h => ?_⟩ <;> omega
    · rintro σ H1 ⟨y1, y2, y3, rfl, sm1, et1, g1, g2⟩
      have := g2 (Nat.le_refl 2)
      omega
end
end LR
namespace LR
open PySem PySem.Spec PyProof.Rows L2
/-- the list of the source of numbers: a seed, what is left of a great number, more great numbers -/
def GoodD (H : Hp) (d : Addr) : Prop := ∃ (s r : Int) (rest : List Int), H d = some (.lst (.int s :: .int r :: rest.map V.int)) ∧ 0 ≤ s ∧ s < 2147483647 ∧ 0 ≤ r ∧ rest.length ≤ 63 ∧ ∀ z ∈ rest, 0 ≤ z
theorem GoodD.some {H : Hp} {d : Addr} (g : GoodD H d) : ∃ o, H d = some o := by
  obtain ⟨s, r, rest, e, _⟩ := g
  exact ⟨_, e⟩
theorem GoodD.ne {H : Hp} {d t : Addr} (g : GoodD H d) (n : H t = none) : t ≠ d := fun e => by
  obtain ⟨o, h⟩ := g.some
  rw [← e, n] at h
  cases h
theorem GoodD.same {H H' : Hp} {d : Addr} (g : GoodD H d) (s : Same H H') : GoodD H' d := by
  obtain ⟨a, r, rest, e, h⟩ := g
  exact ⟨a, r, rest, s _ _ e, h⟩
theorem GoodD.upd {H : Hp} {d t : Addr} {o : HO} (g : GoodD H d) (n : H t = none) : GoodD (upd H t o) d := g.same (same_upd n)
theorem ten18 : (10 : Int) ^ (18 : Int).toNat = 1000000000000000000 := by decide
section
variable {P : Program} {w : World} {K : PySem.W.Frag} {mg : Str → Option Value} {base : Heap}
def sp_law_random (K : PySem.W.Frag) : Sp := fun vs H Q _ => ∃ (a : Addr) (ns : List Int) (salt : Int), vs = [.ref a, .int salt] ∧ SqL K H a (ns.map V.int) ∧ ns.length ≤ 63 ∧ 0 ≤ salt ∧ salt < 2147483647 ∧
  ∀ H' p, Same H H' → H p = none → GoodD H' p → Q (.ref p) H'
theorem ok_law_random (d : D__law_random K mg) (zn : mg "int" = none) (za : mg "abs" = none) : FnOk P w K mg base CX0 1 d.f d.fd P__law_random (sp_law_random K) := by
  refine d.F.ok sc__law_random (fun vs H Q E h => ?_) (fun cdv A outer s H vs Q E hr h => ?_)
  · obtain ⟨a, ns, salt, rfl, _⟩ := h
    rfl
  · obtain ⟨a, ns, salt, rfl, hS, hlen, h0, h1, q⟩ := h
    refine ⟨_, pss_cons (ps_set (i := 2) sc__law_random.nd rfl (.inl rfl) (pv 1))
      (pss_cons (ps_for PassesOwn.never rfl (pi_list (pv 0)) (pg_name (i := 3) sc__law_random.nd rfl (.inl rfl))
        (pss_one (ps_set (i := 2) sc__law_random.nd rfl (.inl rfl) (pe_op op_mod (pe_callTy call_int1 (by rfl) zn (by decide +kernel) (pa_cons (pe_op op_add (pe_op op_mul (pv 2) pe_int) (pe_callB call_abs (by rfl) za (by decide +kernel) (pa_cons (pv 3) pa_nil))) pa_nil)) pe_int))))
      (pss_one (ps_ret (pe_op op_cat (pe_lst (pa_cons (pv 2) (pa_cons pe_int pa_nil)))
        (pe_lc (own := [("_law_cell", 3)]) (g := gName 3) (by rfl) sc__law_random.nd (pi_list (pv 0)) (blkOk_by (N := N__law_random) (sc := defScope s__law_random) (by decide +kernel))
          (fun _ _ _ _ _ => pg_name (i := 3) sc__law_random.nd rfl (Or.inl rfl)) (fun _ _ _ _ _ => pts_one (pt_cmpR op_ge (pv 3) (pe_op op_pow pe_int pe_int) (nomark _))) (fun _ _ _ _ _ => pv 3)))))), ?_⟩
    refine ⟨_, rfl, .ref a, rfl, a, rfl, ⟨_, hS⟩, for_list (K := K) (a := a) (xs := ns.map V.int)
      (fun i σ H' => ∃ sd y3, σ = [some (.ref a), some (.int salt), some (.int sd), y3] ∧ 0 ≤ sd ∧ sd < 2147483647 ∧ H' = H) ⟨salt, none, rfl, h0, h1, rfl⟩ (fun _ _ _ _ ⟨_, _, _, _, _, e⟩ => by rw [e]; exact hS) ?_ ?_⟩
    · rintro i x σ H1 hx ⟨sd, y3, rfl, s0, s1, rfl⟩
      rw [List.getElem?_map] at hx
      obtain ⟨z, _, rfl⟩ := Option.map_eq_some_iff.mp hx
      refine ⟨.int sd, rfl, sd, 31, rfl, rfl, .inl ⟨by omega, by omega⟩, .int z, rfl, z, rfl, _, _, rfl, rfl, .inl ⟨_, rfl, ?_⟩⟩
      refine ⟨_, 2147483647, rfl, rfl, (by decide : (0 : Int) < 2147483647), ?_⟩
      exact ⟨_, _, rfl, Int.emod_nonneg _ (by decide), Int.emod_lt_of_pos _ (by decide), rfl⟩
    · rintro σ H1 ⟨sd, y3, rfl, s0, s1, rfl⟩
      refine ⟨.int sd, rfl, line_le (by show 2 ≤ 16777216; decide), fun t nt => ?_⟩
      have sm1 : Same H1 (upd H1 t (.lst [.int sd, .int 0])) := same_upd nt
      refine ⟨.ref a, rfl, a, rfl, ⟨_, sm1.seq hS⟩, fun D hD => ?_⟩
      have tD : t ≠ D := ne_of_none upd_same hD
      refine lc_list (K := K) (a := a) (xs := ns.map V.int)
        (fun i H' => Same (upd H1 t (.lst [.int sd, .int 0])) H' ∧ ∃ rest : List Int, H' D = some (.lst (rest.map V.int)) ∧ rest.length ≤ i ∧ ∀ z ∈ rest, 0 ≤ z) ⟨same_upd hD, [], upd_same, Nat.le_refl _, fun _ h => by cases h⟩
        (fun _ _ _ ⟨sm, _⟩ => sm.seq (sm1.seq hS)) ?_ ?_
      · rintro i x H2 hx ⟨sm2, rest, eD, hl, hall⟩
        rw [List.getElem?_map] at hx
        obtain ⟨z, _, rfl⟩ := Option.map_eq_some_iff.mp hx
        refine ⟨rfl, .int z, rfl, 10, 18, rfl, rfl, ⟨by decide, by decide, by decide⟩, z, _, rfl, rfl, _, rfl, ite2 (fun c => ?_) (fun c => ?_)⟩
        · have hz : 0 ≤ z := by
            have := of_decide_eq_true c
            rw [ten18] at this
            omega
          have hi : i < 63 := by
            obtain ⟨h, _⟩ := List.getElem?_eq_some_iff.mp (by assumption)
            omega
          refine ⟨.int z, rfl, rest.map V.int, eD, line_lt (by rw [List.length_map]; omega), sm2.updn hD, rest ++ [z], ?_, ?_, fun y hy => ?_⟩
          · rw [upd_same, List.map_append]
            rfl
          · rw [List.length_append, List.length_singleton]
            omega
          · rcases List.mem_append.mp hy with h | h
            · exact hall y h
            · rw [List.mem_singleton.mp h]
              exact hz
        · exact ⟨sm2, rest, eD, by omega, hall⟩
      · rintro H2 ⟨sm2, rest, eD, hl, hall⟩
        rw [List.length_map] at hl
        refine ⟨t, D, _, _, rfl, rfl, sm2 _ _ upd_same, eD, line_le (by rw [List.length_map]; show 2 + _ ≤ _; omega), fun p np => ?_⟩
        refine q _ p ((sm1.trans sm2).new np) ((sm1.trans sm2).free np) ⟨sd, 0, rest, ?_, s0, s1, Int.le_refl 0, by omega, hall⟩
        rw [upd_same]
        rfl
def sp_law_below : Sp := fun vs H Q _ => ∃ (d : Addr) (size : Int), vs = [.ref d, .int size] ∧ GoodD H d ∧ 1 ≤ size ∧ size.natAbs < 2 ^ 200 ∧ ∀ H' r, SameX d H H' → GoodD H' d → 0 ≤ r → r < size → Q (.int r) H'
theorem ok_law_below (d : D__law_below K mg) (zn : mg "int" = none) (zl : mg "len" = none) : FnOk P w K mg base CX0 1 d.f d.fd P__law_below sp_law_below := by
  refine d.F.ok sc__law_below (fun vs H Q E h => ?_) (fun cdv A outer s H vs Q E hr h => ?_)
  · obtain ⟨a, size, rfl, _⟩ := h
    rfl
  · obtain ⟨a, size, rfl, g, hs1, hs2, q⟩ := h
    refine ⟨_, C8.pss_cut (ps_if (PW.pt (pw_and (pt_cmpR op_eq (pe_ix ix_list (pv 0) pe_int (fun _ _ => rfl)) pe_int (nomark _)) (pw_and1 (pt_cmpR op_gt (pe_callB call_len_seq (by rfl) zl PySem.boot_len (pa_cons (pv 0) pa_nil)) pe_int (nomark _)))))
        (pss_one (ps_asg (pe_bm PySem.F.plainAttrs_list PySem.F.slot_list_pop PySem.F.type_list_pop mt_popAt (pv 0) (pa_cons pe_int pa_nil)) (pg_sub (pv 0) pe_int set_list))) pss_nil)
      (pss_cons (ps_if (pt_cmpR op_gt (pe_ix ix_list (pv 0) pe_int (fun _ _ => rfl)) pe_int (nomark _))
        (pss_cons (ps_set (i := 2) sc__law_below.nd rfl (.inl rfl) (pe_op op_mod (pe_callTy call_int1 (by rfl) zn (by decide +kernel) (pa_cons (pe_ix ix_list (pv 0) pe_int (fun _ _ => rfl)) pa_nil)) (pv 1)))
          (pss_cons (ps_asg (pe_op op_fdivW (pe_ix ix_list (pv 0) pe_int (fun _ _ => rfl)) (pv 1)) (pg_sub (pv 0) pe_int set_list))
            (pss_one (ps_ret (pv 2))))) pss_nil)
      (pss_cons (ps_asg (pe_op op_mod (pe_callTy call_int1 (by rfl) zn (by decide +kernel) (pa_cons (pe_op op_add (pe_op op_mul (pe_ix ix_list (pv 0) pe_int (fun _ _ => rfl)) pe_int) pe_int) pa_nil)) pe_int) (pg_sub (pv 0) pe_int set_list))
      (pss_one (ps_ret (pe_op op_mod (pe_callTy call_int1 (by rfl) zn (by decide +kernel) (pa_cons (pe_op op_fdiv (pe_ix ix_list (pv 0) pe_int (fun _ _ => rfl)) pe_int) pa_nil)) (pv 1)))))), ?_⟩
    refine ⟨fun σ H' => σ = [some (.ref a), some (.int size), none] ∧ SameX a H H' ∧ GoodD H' a, ?_, ?_⟩
    · obtain ⟨s0, r0, rest, e, b1, b2, b3, b4, b5⟩ := g
      have g0 : GoodD H a := ⟨s0, r0, rest, e, b1, b2, b3, b4, b5⟩
      refine ⟨.ref a, rfl, a, _, _, .int r0, rfl, rfl, SqL.of e, at_of (j := 1) rfl rfl, rfl, _, rfl, ite2 (fun c => ?_) (fun c => ?_)⟩
      · refine ⟨.ref a, rfl, a, _, rfl, .inl (SqL.of e), _, _, rfl, rfl, _, rfl, ite2 (fun c2 => ?_) (fun c2 => ?_)⟩
        · cases rest with
          | nil => exact absurd (of_decide_eq_true c2) (by show ¬ (2 : Int) < ((2 : Nat) : Int); decide)
          | cons z rest =>
            refine ⟨.ref a, rfl, .inl ⟨rfl, _, SqL.of e⟩, a, _, 2, 2, .int z, rfl, rfl, e, by decide, by decide, ?_, rfl, ?_⟩
            · exact seqIndex_nat (k := 2) (by rw [List.length_cons, List.length_cons, List.length_map, List.length_cons]; omega)
            · refine ⟨.ref a, rfl, a, _, 1, 1, rfl, rfl, upd_same, ixN_nat (k := 1) (by show 1 < _ + 1 + 1; omega), ?_⟩
              refine ⟨rfl, (SameX.refl a H).upd.upd, s0, z, rest, ?_, b1, b2, b5 z List.mem_cons_self, ?_, fun y hy => b5 y (List.mem_cons_of_mem _ hy)⟩
              · rw [upd_same]
                rfl
              · have : (z :: rest).length = rest.length + 1 := rfl
                omega
        · exact ⟨rfl, SameX.refl a H, g0⟩
      · exact ⟨rfl, SameX.refl a H, g0⟩
    · rintro σ H1 ⟨rfl, sx, g1⟩
      obtain ⟨s0, r0, rest, e, b1, b2, b3, b4, b5⟩ := g1
      refine ⟨.ref a, rfl, a, _, _, .int r0, rfl, rfl, SqL.of e, at_of (j := 1) rfl rfl, _, _, rfl, rfl, _, rfl, ite2 (fun c => ?_) (fun c => ?_)⟩
      · refine ⟨.ref a, rfl, a, _, _, .int r0, rfl, rfl, SqL.of e, at_of (j := 1) rfl rfl, .inl ⟨_, rfl, ?_⟩⟩
        refine ⟨.int size, rfl, _, _, rfl, rfl, (by omega : 0 < size), ?_⟩
        refine ⟨.ref a, rfl, a, _, _, .int r0, rfl, rfl, SqL.of e, at_of (j := 1) rfl rfl, .int size, rfl, _, _, rfl, rfl, wide_div (by omega) hs2 (by decide) (by decide), ?_⟩
        refine ⟨.ref a, rfl, a, _, 1, 1, rfl, rfl, e, ixN_nat (k := 1) (by show 1 < _ + 1 + 1; omega), ?_⟩
        refine ⟨_, rfl, q _ _ sx.upd ⟨s0, r0 / size, rest, ?_, b1, b2, Int.ediv_nonneg b3 (by omega), b4, b5⟩ (Int.emod_nonneg _ (by omega)) (Int.emod_lt_of_pos _ (by omega))⟩
        rw [upd_same]
        rfl
      · refine ⟨.ref a, rfl, a, _, _, .int s0, rfl, rfl, SqL.of e, at_of (j := 0) rfl rfl, s0, 48271, rfl, rfl, .inr ⟨by decide, by decide⟩, _, 11, rfl, rfl, .inl ⟨_, rfl, ?_⟩⟩
        refine ⟨_, 2147483647, rfl, rfl, (by decide : (0 : Int) < 2147483647), ?_⟩
        refine ⟨.ref a, rfl, a, _, 0, 0, rfl, rfl, e, ixN_nat (k := 0) (by show 0 < _ + 1 + 1; omega), ?_⟩
        refine ⟨.ref a, rfl, a, _, _, _, rfl, rfl, SqL.of upd_same, at_of (j := 0) rfl rfl, _, 64, rfl, rfl, ⟨by decide, by decide⟩, .inl ⟨_, rfl, ?_⟩⟩
        refine ⟨.int size, rfl, _, _, rfl, rfl, (by omega : 0 < size), ?_⟩
        refine q _ _ sx.upd ⟨(s0 * 48271 + 11) % 2147483647, r0, rest, ?_, Int.emod_nonneg _ (by decide), Int.emod_lt_of_pos _ (by decide), b3, b4, b5⟩ (Int.emod_nonneg _ (by omega)) (Int.emod_lt_of_pos _ (by omega))
        rw [upd_same]
        rfl
def sp_law_pick (K : PySem.W.Frag) : Sp := fun vs H Q _ => ∃ (d it : Addr) (xs : List V), vs = [.ref d, .ref it] ∧ GoodD H d ∧ it ≠ d ∧ SqL K H it xs ∧ 1 ≤ xs.length ∧ xs.length ≤ 1000 ∧ ∀ H' v, SameX d H H' → GoodD H' d → v ∈ xs → Q v H'
theorem ok_law_pick (d : D__law_pick K mg) (dB : D__law_below K mg) (GB : FnOk P w K mg base CX0 1 dB.f dB.fd P__law_below sp_law_below) (zl : mg "len" = none) : FnOk P w K mg base CX0 2 d.f d.fd P__law_pick (sp_law_pick K) := by
  refine d.F.ok sc__law_pick (fun vs H Q E h => ?_) (fun cdv A outer s H vs Q E hr h => ?_)
  · obtain ⟨a, it, xs, rfl, _⟩ := h
    rfl
  · obtain ⟨a, it, xs, rfl, g, ne, hS, l1, l2, q⟩ := h
    refine ⟨_, pss_one (ps_ret (pe_ix ix_list (pv 1) (pe_call GB hr (by rfl) dB.g dB.F.kp dB.b .nil pass0 (pa_cons (pv 0) (pa_cons (pe_callB call_len_seq (by rfl) zl PySem.boot_len (pa_cons (pv 1) pa_nil)) pa_nil))) (fun _ _ => rfl))), ?_⟩
    have h2 : xs.length < 2 ^ 10 := by omega
    refine ⟨.ref it, rfl, .ref a, rfl, .ref it, rfl, it, xs, rfl, .inl hS, a, (xs.length : Int), rfl, g, by omega, nat_wide (Nat.lt_of_lt_of_le h2 (Nat.pow_le_pow_right (by decide) (by decide))), fun H' r sx g' r0 r1 => ?_⟩
    obtain ⟨i, rfl⟩ : ∃ i : Nat, r = i := ⟨r.toNat, by omega⟩
    have hi : i < xs.length := by omega
    exact ⟨it, xs, _, xs[i], rfl, rfl, sx.seq ne hS, at_of (j := i) rfl (List.getElem?_eq_getElem hi), q H' _ sx g' (List.getElem_mem hi)⟩
end
end LR
namespace LR
open PySem PySem.Spec PyProof.Rows L2
theorem ifF {c : Bool} {A B : Prop} (h : c = false) (b : B) : if c = true then A else B := by
  rw [h]
  exact iteF b
theorem ifT {c : Bool} {A B : Prop} (h : c = true) (a : A) : if c = true then A else B := by
  rw [h]
  exact iteT a
/-- the same data on both sides, nested at most n deep -/
inductive Eqd (H : Hp) : Nat → V → V → Prop
  | non {n : Nat} : Eqd H n .non .non
  | int {n : Nat} (i : Int) : Eqd H n (.int i) (.int i)
  | lst {n : Nat} {a b : Addr} {xs ys : List V} (ha : H a = some (.lst xs)) (hb : H b = some (.lst ys)) (l : xs.length = ys.length) (hz : xs.length ≤ 16777000) (h : ∀ (i : Nat) (x y : V), xs[i]? = some x → ys[i]? = some y → Eqd H n x y) : Eqd H (n + 1) (.ref a) (.ref b)
  | tup {n : Nat} {a b : Addr} {xs ys : List V} (ha : H a = some (.tup xs)) (hb : H b = some (.tup ys)) (l : xs.length = ys.length) (hz : xs.length ≤ 16777000) (h : ∀ (i : Nat) (x y : V), xs[i]? = some x → ys[i]? = some y → Eqd H n x y) : Eqd H (n + 1) (.ref a) (.ref b)
theorem Eqd.same {H H' : Hp} {n : Nat} {x y : V} (s : Same H H') (e : Eqd H n x y) : Eqd H' n x y := by
  induction e with
  | non => exact .non
  | int i => exact .int i
  | lst ha hb l hz _ ih => exact .lst (s _ _ ha) (s _ _ hb) l hz ih
  | tup ha hb l hz _ ih => exact .tup (s _ _ ha) (s _ _ hb) l hz ih
/-- a sequence of either kind, as _law_equal reads it -/
def SqB (K : PySem.W.Frag) (H : Hp) (a : Addr) (xs : List V) : Prop := SqL K H a xs ∨ SqT K H a xs
theorem SqB.same {K : PySem.W.Frag} {H H' : Hp} {a : Addr} {xs : List V} (s : Same H H') (h : SqB K H a xs) : SqB K H' a xs := by
  rcases h with h | h
  · exact .inl (s.seq h)
  · exact .inr (s.tup h)
theorem SqB.ix {K : PySem.W.Frag} {H : Hp} {a : Addr} {xs : List V} {i : Int} {v : V} {Q : VK} (h : SqB K H a xs) (hv : atI xs i = some v) (q : Q v H) : rIx K (.ref a) (.int i) H Q := by
  rcases h with h | h
  · exact .inl ⟨a, xs, i, v, rfl, rfl, h, hv, q⟩
  · exact .inr (.inl ⟨a, xs, i, v, rfl, rfl, h, hv, q⟩)
section
variable {P : Program} {w : World} {K : PySem.W.Frag} {mg : Str → Option Value} {base : Heap}
def sp_law_equal (n : Nat) : Sp := fun vs H Q _ => ∃ x y, vs = [x, y] ∧ Eqd H n x y ∧ ∀ H', Same H H' → Q (.bl true) H'
structure EqT (mg : Str → Option Value) : Prop where
  zi : mg "isinstance" = none
  zn : mg "int" = none
  zb : mg "bool" = none
  zs : mg "str" = none
  zd : mg "dict" = none
  zt : mg "tuple" = none
  zl : mg "list" = none
  ze : mg "len" = none
  za : mg "all" = none
  zr : mg "range" = none
theorem ok_law_equal (d : D__law_equal K mg) (T : EqT mg) : ∀ n, FnOk P w K mg base CX0 (n + 1) d.f d.fd P__law_equal (sp_law_equal n) := by
  intro n
  induction n with
  | zero =>
    refine d.F.ok sc__law_equal (fun vs H Q E h => ?_) (fun cdv A outer s H vs Q E hr h => ?_)
    · obtain ⟨x, y, rfl, _⟩ := h
      rfl
    · obtain ⟨x, y, rfl, e, q⟩ := h
      refine ⟨_, pss_cons (ps_if (pt_cmp (pc_isN (pv 1))) (pss_one (ps_ret (pe_cmp (pc_isN (pv 0)) rfl))) pss_nil)
        (pss_cons (ps_if (pt_val (pe_callB call_isi (by rfl) T.zi (by decide +kernel) (pa_cons (pv 1) (pa_cons (pe_bltn (v := .ty "bool") (by rfl) T.zb (by decide +kernel) rfl) pa_nil)))) pss_never pss_nil)
        (pss_cons (ps_if (pt_val (pe_callB call_isi (by rfl) T.zi (by decide +kernel) (pa_cons (pv 1) (pa_cons (pe_bltn (v := .ty "int") (by rfl) T.zn (by decide +kernel) rfl) pa_nil))))
          (pss_one (ps_ret (pe_and (pe_callB call_isi (by rfl) T.zi (by decide +kernel) (pa_cons (pv 0) (pa_cons (pe_bltn (v := .ty "int") (by rfl) T.zn (by decide +kernel) rfl) pa_nil)))
            (pe_and (pe_not (pe_callB call_isi (by rfl) T.zi (by decide +kernel) (pa_cons (pv 0) (pa_cons (pe_bltn (v := .ty "bool") (by rfl) T.zb (by decide +kernel) rfl) pa_nil))))
              (pe_one (pe_cmpR op_eq (pv 0) (pv 1) (nomark _))))))) pss_nil)
        pss_never)), ?_⟩
      cases e with
      | non => exact ⟨_, rfl, _, rfl, ifT (by decide) ⟨_, rfl, q H (Same.refl H)⟩⟩
      | int i =>
        refine ⟨_, rfl, _, rfl, ifF rfl ?_⟩
        refine ⟨_, rfl, _, _, _, _, _, rfl, .ty "bool", (Kd.int i).ty, kit_ty (r := false) (by decide +kernel), _, rfl, iteF ?_⟩
        refine ⟨_, rfl, _, _, _, _, _, rfl, .ty "int", (Kd.int i).ty, kit_ty (r := true) (by decide +kernel), _, rfl, iteT ?_⟩
        refine ⟨_, rfl, _, _, _, _, _, rfl, .ty "int", (Kd.int i).ty, kit_ty (r := true) (by decide +kernel), _, rfl, iteT ?_⟩
        refine ⟨_, rfl, _, _, _, _, _, rfl, .ty "bool", (Kd.int i).ty, kit_ty (r := false) (by decide +kernel), _, rfl, _, rfl, ifT rfl ?_⟩
        refine ⟨_, rfl, _, rfl, rfl, ?_⟩
        rw [decide_eq_true rfl]
        exact q H (Same.refl H)
  | succ n ih =>
    refine d.F.ok sc__law_equal (fun vs H Q E h => ?_) (fun cdv A outer s H vs Q E hr h => ?_)
    · obtain ⟨x, y, rfl, _⟩ := h
      rfl
    · obtain ⟨x, y, rfl, e, q⟩ := h
      refine ⟨_, pss_cons (ps_if (pt_cmp (pc_isN (pv 1))) (pss_one (ps_ret (pe_cmp (pc_isN (pv 0)) rfl))) pss_nil)
        (pss_cons (ps_if (pt_val (pe_callB call_isi (by rfl) T.zi (by decide +kernel) (pa_cons (pv 1) (pa_cons (pe_bltn (v := .ty "bool") (by rfl) T.zb (by decide +kernel) rfl) pa_nil)))) pss_never pss_nil)
        (pss_cons (ps_if (pt_val (pe_callB call_isi (by rfl) T.zi (by decide +kernel) (pa_cons (pv 1) (pa_cons (pe_bltn (v := .ty "int") (by rfl) T.zn (by decide +kernel) rfl) pa_nil))))
          (pss_one (ps_ret (pe_and (pe_callB call_isi (by rfl) T.zi (by decide +kernel) (pa_cons (pv 0) (pa_cons (pe_bltn (v := .ty "int") (by rfl) T.zn (by decide +kernel) rfl) pa_nil)))
            (pe_and (pe_not (pe_callB call_isi (by rfl) T.zi (by decide +kernel) (pa_cons (pv 0) (pa_cons (pe_bltn (v := .ty "bool") (by rfl) T.zb (by decide +kernel) rfl) pa_nil))))
              (pe_one (pe_cmpR op_eq (pv 0) (pv 1) (nomark _))))))) pss_nil)
        (pss_cons (ps_if (pt_val (pe_callB call_isi (by rfl) T.zi (by decide +kernel) (pa_cons (pv 1) (pa_cons (pe_bltn (v := .ty "str") (by rfl) T.zs (by decide +kernel) rfl) pa_nil)))) pss_never pss_nil)
        (pss_cons (ps_if (pt_val (pe_callB call_isi (by rfl) T.zi (by decide +kernel) (pa_cons (pv 1) (pa_cons (pe_bltn (v := .ty "dict") (by rfl) T.zd (by decide +kernel) rfl) pa_nil)))) pss_never pss_nil)
        (pss_cons (ps_if (pt_cmpR op_ne (pe_callB call_isi (by rfl) T.zi (by decide +kernel) (pa_cons (pv 1) (pa_cons (pe_bltn (v := .ty "tuple") (by rfl) T.zt (by decide +kernel) rfl) pa_nil))) (pe_callB call_isi (by rfl) T.zi (by decide +kernel) (pa_cons (pv 0) (pa_cons (pe_bltn (v := .ty "tuple") (by rfl) T.zt (by decide +kernel) rfl) pa_nil))) (nomark _)) pss_never pss_nil)
        (pss_cons (ps_if (pt_cmpR op_ne (pe_callB call_isi (by rfl) T.zi (by decide +kernel) (pa_cons (pv 1) (pa_cons (pe_bltn (v := .ty "list") (by rfl) T.zl (by decide +kernel) rfl) pa_nil))) (pe_callB call_isi (by rfl) T.zi (by decide +kernel) (pa_cons (pv 0) (pa_cons (pe_bltn (v := .ty "list") (by rfl) T.zl (by decide +kernel) rfl) pa_nil))) (nomark _)) pss_never pss_nil)
        (pss_cons (ps_if (pt_cmpR op_ne (pe_callB call_len_seq (by rfl) T.ze PySem.boot_len (pa_cons (pv 0) pa_nil)) (pe_callB call_len_seq (by rfl) T.ze PySem.boot_len (pa_cons (pv 1) pa_nil)) (nomark _)) pss_never pss_nil)
        (pss_one (ps_ret (pe_callB (cr_all rfl) (by rfl) T.za (by decide +kernel) (pa_cons
          (pe_lc (own := [("_law_k", 3)]) (g := gName 3) (tt := tYes) (by rfl) sc__law_equal.nd (pi_range1 (by rfl) T.zr (pa_cons (pe_callB call_len_seq (by rfl) T.ze PySem.boot_len (pa_cons (pv 1) pa_nil)) pa_nil)) (blkOk_by (N := N__law_equal) (sc := defScope s__law_equal) (by decide +kernel))
            (fun _ _ _ _ _ => pg_name (i := 3) sc__law_equal.nd rfl (Or.inl rfl)) (fun _ _ _ _ _ => pts_nil)
            (fun _ _ _ _ _ => pe_call ih hr (by rfl) d.g d.F.kp d.b .nil pass0 (pa_cons (pe_ix (r := rIx K) ix_seq (pv 0) (pv 3) (fun _ _ => rfl)) (pa_cons (pe_ix (r := rIx K) ix_seq (pv 1) (pv 3) (fun _ _ => rfl)) pa_nil)))) pa_nil))))))))))), ?_⟩
      cases e with
      | non => exact ⟨_, rfl, _, rfl, ifT (by decide) ⟨_, rfl, q H (Same.refl H)⟩⟩
      | int i =>
        refine ⟨_, rfl, _, rfl, ifF rfl ?_⟩
        refine ⟨_, rfl, _, _, _, _, _, rfl, .ty "bool", (Kd.int i).ty, kit_ty (r := false) (by decide +kernel), _, rfl, iteF ?_⟩
        refine ⟨_, rfl, _, _, _, _, _, rfl, .ty "int", (Kd.int i).ty, kit_ty (r := true) (by decide +kernel), _, rfl, iteT ?_⟩
        refine ⟨_, rfl, _, _, _, _, _, rfl, .ty "int", (Kd.int i).ty, kit_ty (r := true) (by decide +kernel), _, rfl, iteT ?_⟩
        refine ⟨_, rfl, _, _, _, _, _, rfl, .ty "bool", (Kd.int i).ty, kit_ty (r := false) (by decide +kernel), _, rfl, _, rfl, ifT rfl ?_⟩
        refine ⟨_, rfl, _, rfl, rfl, ?_⟩
        rw [decide_eq_true rfl]
        exact q H (Same.refl H)
      | @lst _ a b xs ys ha hb l hz hall =>
        have ka : Kd H (.ref a) "list" := .lst ha
        have kb : Kd H (.ref b) "list" := .lst hb
        have qa : SqB K H a xs := .inl (SqL.of ha)
        have qb : SqB K H b ys := .inl (SqL.of hb)
        refine ⟨_, rfl, _, rfl, ifF rfl ?_⟩
        refine ⟨_, rfl, _, _, _, _, _, rfl, .ty "bool", kb.ty, kit_ty (r := false) (by decide +kernel), _, rfl, iteF ?_⟩
        refine ⟨_, rfl, _, _, _, _, _, rfl, .ty "int", kb.ty, kit_ty (r := false) (by decide +kernel), _, rfl, iteF ?_⟩
        refine ⟨_, rfl, _, _, _, _, _, rfl, .ty "str", kb.ty, kit_ty (r := false) (by decide +kernel), _, rfl, iteF ?_⟩
        refine ⟨_, rfl, _, _, _, _, _, rfl, .ty "dict", kb.ty, kit_ty (r := false) (by decide +kernel), _, rfl, iteF ?_⟩
        refine ⟨_, rfl, _, _, _, _, _, rfl, .ty "tuple", kb.ty, kit_ty (r := false) (by decide +kernel), _, rfl, _, _, _, _, _, rfl, .ty "tuple", ka.ty, kit_ty (r := false) (by decide +kernel), rfl, _, rfl, iteF ?_⟩
        refine ⟨_, rfl, _, _, _, _, _, rfl, .ty "list", kb.ty, kit_ty (r := true) (by decide +kernel), _, rfl, _, _, _, _, _, rfl, .ty "list", ka.ty, kit_ty (r := true) (by decide +kernel), rfl, _, rfl, iteF ?_⟩
        refine ⟨_, rfl, a, xs, rfl, qa, _, rfl, b, ys, rfl, qb, rfl, _, rfl, ifF (by rw [l]; simp) ?_⟩
        refine ⟨_, rfl, b, ys, rfl, qb, (ys.length : Int), rfl, by omega, by omega, fun D hD => lc_range (lo := 0) (n := ((ys.length : Nat) : Int).toNat)
          (fun i H' => Same H H' ∧ H' D = some (.lst ((List.replicate i true).map V.bl))) ⟨same_upd hD, upd_same⟩ ?_ ?_⟩
        · rintro i H1 hi ⟨sm1, eD⟩
          have hi1 : i < xs.length := by omega
          have hi2 : i < ys.length := by omega
          refine ⟨rfl, .ref a, rfl, .int (0 + (i : Int)), rfl, (qa.same sm1).ix (at_of (j := i) (by omega) (List.getElem?_eq_getElem hi1)) ?_⟩
          refine ⟨.ref b, rfl, .int (0 + (i : Int)), rfl, (qb.same sm1).ix (at_of (j := i) (by omega) (List.getElem?_eq_getElem hi2)) ?_⟩
          refine ⟨_, _, rfl, (hall i _ _ (List.getElem?_eq_getElem hi1) (List.getElem?_eq_getElem hi2)).same sm1, fun H2 sm2 => ?_⟩
          refine ⟨_, sm2 _ _ eD, line_lt (by rw [List.length_map, List.length_replicate]; omega), (sm1.trans sm2).updn hD, ?_⟩
          rw [upd_same, List.replicate_succ', List.map_append]
          rfl
        · rintro H1 ⟨sm1, eD⟩
          refine ⟨D, _, rfl, SqL.of eD, ?_⟩
          rw [show (List.replicate (((ys.length : Nat) : Int).toNat) true).all id = true by simp]
          exact q H1 sm1
      | @tup _ a b xs ys ha hb l hz hall =>
        have ka : Kd H (.ref a) "tuple" := .tup ha
        have kb : Kd H (.ref b) "tuple" := .tup hb
        have qa : SqB K H a xs := .inr (SqT.of ha)
        have qb : SqB K H b ys := .inr (SqT.of hb)
        refine ⟨_, rfl, _, rfl, ifF rfl ?_⟩
        refine ⟨_, rfl, _, _, _, _, _, rfl, .ty "bool", kb.ty, kit_ty (r := false) (by decide +kernel), _, rfl, iteF ?_⟩
        refine ⟨_, rfl, _, _, _, _, _, rfl, .ty "int", kb.ty, kit_ty (r := false) (by decide +kernel), _, rfl, iteF ?_⟩
        refine ⟨_, rfl, _, _, _, _, _, rfl, .ty "str", kb.ty, kit_ty (r := false) (by decide +kernel), _, rfl, iteF ?_⟩
        refine ⟨_, rfl, _, _, _, _, _, rfl, .ty "dict", kb.ty, kit_ty (r := false) (by decide +kernel), _, rfl, iteF ?_⟩
        refine ⟨_, rfl, _, _, _, _, _, rfl, .ty "tuple", kb.ty, kit_ty (r := true) (by decide +kernel), _, rfl, _, _, _, _, _, rfl, .ty "tuple", ka.ty, kit_ty (r := true) (by decide +kernel), rfl, _, rfl, iteF ?_⟩
        refine ⟨_, rfl, _, _, _, _, _, rfl, .ty "list", kb.ty, kit_ty (r := false) (by decide +kernel), _, rfl, _, _, _, _, _, rfl, .ty "list", ka.ty, kit_ty (r := false) (by decide +kernel), rfl, _, rfl, iteF ?_⟩
        refine ⟨_, rfl, a, xs, rfl, qa, _, rfl, b, ys, rfl, qb, rfl, _, rfl, ifF (by rw [l]; simp) ?_⟩
        refine ⟨_, rfl, b, ys, rfl, qb, (ys.length : Int), rfl, by omega, by omega, fun D hD => lc_range (lo := 0) (n := ((ys.length : Nat) : Int).toNat)
          (fun i H' => Same H H' ∧ H' D = some (.lst ((List.replicate i true).map V.bl))) ⟨same_upd hD, upd_same⟩ ?_ ?_⟩
        · rintro i H1 hi ⟨sm1, eD⟩
          have hi1 : i < xs.length := by omega
          have hi2 : i < ys.length := by omega
          refine ⟨rfl, .ref a, rfl, .int (0 + (i : Int)), rfl, (qa.same sm1).ix (at_of (j := i) (by omega) (List.getElem?_eq_getElem hi1)) ?_⟩
          refine ⟨.ref b, rfl, .int (0 + (i : Int)), rfl, (qb.same sm1).ix (at_of (j := i) (by omega) (List.getElem?_eq_getElem hi2)) ?_⟩
          refine ⟨_, _, rfl, (hall i _ _ (List.getElem?_eq_getElem hi1) (List.getElem?_eq_getElem hi2)).same sm1, fun H2 sm2 => ?_⟩
          refine ⟨_, sm2 _ _ eD, line_lt (by rw [List.length_map, List.length_replicate]; omega), (sm1.trans sm2).updn hD, ?_⟩
          rw [upd_same, List.replicate_succ', List.map_append]
          rfl
        · rintro H1 ⟨sm1, eD⟩
          refine ⟨D, _, rfl, SqL.of eD, ?_⟩
          rw [show (List.replicate (((ys.length : Nat) : Int).toNat) true).all id = true by simp]
          exact q H1 sm1
end
end LR
namespace LR
open PySem PySem.Spec PyProof.Rows L2
section
variable {P : Program} {w : World} {K : PySem.W.Frag} {mg : Str → Option Value} {base : Heap}
def sp_law_powers : Sp := fun vs H Q _ => ∃ (n : Nat), vs = [.int n] ∧ 1 ≤ n ∧ n < 1600000000 ∧ ∀ H' p, Same H H' → H p = none → H' p = some (.lst (vN (LM.powers n))) → Q (.ref p) H'
theorem ok_law_powers (d : D__law_powers K mg) (mr : mg "range" = none) (ms : mg "sorted" = none) : FnOk P w K mg base CX0 1 d.f d.fd P__law_powers sp_law_powers := by
  refine d.F.ok sc__law_powers (fun vs H Q E h => ?_) (fun cdv A outer s H vs Q E hr h => ?_)
  · obtain ⟨n, rfl, _⟩ := h
    rfl
  · obtain ⟨n, rfl, hn1, hn2, q⟩ := h
    have nd := sc__law_powers.nd
    refine ⟨_, pss_cons (ps_par3 (i := 1) (j := 2) (l := 3) (by rfl) nd rfl rfl rfl (by decide) (by decide) (by decide) rfl rfl rfl (pa_cons (pe_lst pa_nil) (pa_cons (pv 0) (pa_cons pe_int pa_nil))) (by rfl))
      (pss_cons (ps_for PassesOwn.never rfl (pi_range1 (by rfl) mr (pa_cons pe_int pa_nil)) (pg_name (i := 4) nd rfl (Or.inl rfl))
        (pss_one (ps_if (PW.pt (pw_and (pt_cmpR op_gt (pv 2) pe_int (nomark _)) (pw_and1 (pt_cmpR op_le (pe_op op_mul (pv 3) (pv 3)) (pv 2) (nomark _)))))
          (pss_cons (ps_set (i := 5) nd rfl (.inl rfl) pe_int)
          (pss_cons (ps_for PassesOwn.never rfl (pi_range1 (by rfl) mr (pa_cons pe_int pa_nil)) (pg_name (i := 6) nd rfl (Or.inl rfl))
            (pss_one (ps_if (pt_cmpR op_eq (pe_op op_mod (pv 2) (pv 3)) pe_int (nomark _))
              (pss_one (ps_par (i := 2) (j := 5) (by rfl) nd rfl rfl (by decide) rfl rfl (pa_cons (pe_op op_fdiv (pv 2) (pv 3)) (pa_cons (pe_op op_mul (pv 5) (pv 3)) pa_nil)) (by rfl))) pss_nil)))
          (pss_cons (ps_if (pt_cmpR op_gt (pv 5) pe_int (nomark _))
            (pss_one (ps_expr (pe_bm PySem.F.plainAttrs_list PySem.F.slot_list_append PySem.F.type_list_append mt_append (pv 1) (pa_cons (pv 5) pa_nil)))) pss_nil)
          (pss_one (ps_set (i := 3) nd rfl (.inl rfl) (pe_op op_add (pv 3) pe_int)))))) pss_nil)))
      (pss_one (ps_ret (pe_callB cr_sortedI (by rfl) ms (by decide +kernel) (pa_cons (pe_op op_cat (pv 1) (pe_ifExp (pt_cmpR op_gt (pv 2) pe_int (nomark _)) (pe_lst (pa_cons (pv 2) pa_nil)) (pe_lst pa_nil))) pa_nil))))), ?_⟩
    refine ⟨line_le (by decide), fun fp nf => ?_⟩
    refine ⟨.int n, rfl, _, _, _, rfl, ?_⟩
    refine ⟨40000, rfl, by decide, by decide, for_range (lo := 0) (n := 40000)
      (fun i σ H' => ∃ y4 y5 y6, σ = [some (.int n), some (.ref fp), some (.int (LM.pst n i).left), some (.int (LM.pst n i).part), y4, y5, y6] ∧ Same H H' ∧ H' fp = some (.lst (vN (LM.pst n i).found)))
      ⟨none, none, none, rfl, same_upd nf, upd_same⟩ ?_ ?_⟩
    · rintro i σ H1 hi ⟨y4, y5, y6, rfl, sm1, ef1⟩
      have b1 := LM.pst_part_le (n := n) i
      have p2 := LM.pst_part2 (n := n) i
      have l1 := LM.pst_pos hn1 i
      have l2 := LM.pst_le (n := n) i
      have et : (LM.pst n (i + 1)) = (LM.pst n i).turn := rfl
      rw [et]
      have hlen : (LM.pst n i).found.length < 31 := LM.pst_len' hn1 (Nat.lt_trans hn2 (by decide)) i
      obtain ⟨S, hS⟩ : ∃ S, S = LM.pst n i := ⟨_, rfl⟩
      rw [← hS] at b1 p2 l1 l2 ef1 hlen ⊢
      have e2 : ((S.part * S.part : Nat) : Int) = (S.part : Int) * (S.part : Int) := Int.natCast_mul _ _
      have stay : ¬ S.go → S.turn = S := fun h => by
        unfold LM.PS.turn
        rw [if_neg h]
      have p4 : 2 * 2 ≤ S.part * S.part := Nat.mul_le_mul p2 p2
      refine ⟨.int S.left, rfl, _, _, rfl, rfl, _, rfl, ite2 (fun c => ?_) (fun c => ?_)⟩
      · refine ⟨.int S.part, rfl, .int S.part, rfl, _, _, rfl, rfl, .inl ⟨by omega, by omega⟩, .int S.left, rfl, _, _, rfl, rfl, _, rfl, ite2 (fun c2 => ?_) (fun c2 => ?_)⟩
        · have go : S.go := by
            have := of_decide_eq_true c2
            unfold LM.PS.go
            omega
          have ea : S.turn = S.after := by
            unfold LM.PS.turn
            rw [if_pos go]
          rw [ea]
          refine ⟨40, rfl, by decide, by decide, for_range (lo := 0) (n := 40)
            (fun k σ H' => ∃ y6, σ = [some (.int n), some (.ref fp), some (.int (LM.stripK S.part (S.left, 1) k).1), some (.int S.part), some (.int (0 + (i : Int))), some (.int (LM.stripK S.part (S.left, 1) k).2), y6] ∧ H' = H1)
            ⟨y6, rfl, rfl⟩ ?_ ?_⟩
          · rintro k σ H2 hk ⟨y6, rfl, rfl⟩
            obtain ⟨z, hz⟩ : ∃ z, z = LM.stripK S.part (S.left, 1) k := ⟨_, rfl⟩
            have z2 : z.1 ≤ S.left := by
              rw [hz]
              exact LM.stripK_le k
            have hz' : LM.stripK S.part (S.left, 1) (k + 1) = LM.strip1 S.part z := by
              rw [hz]
              rfl
            rw [hz', ← hz]
            unfold LM.strip1
            refine ⟨.int z.1, rfl, .int S.part, rfl, _, _, rfl, rfl, (by omega : (0 : Int) < (S.part : Int)), rfl, _, rfl, ite2 (fun c3 => ?_) (fun c3 => ?_)⟩
            · have c' : z.1 % S.part = 0 := by
                have e : V.int ((z.1 : Int) % (S.part : Int)) = V.int 0 := of_decide_eq_true c3
                have e2 := V.int.inj e
                rw [mod_nat] at e2
                omega
              rw [if_pos c']
              refine ⟨.int z.1, rfl, .int S.part, rfl, _, _, rfl, rfl, ⟨by omega, by omega⟩, .int z.2, rfl, .int S.part, rfl, _, _, rfl, rfl, .inr ⟨by omega, by omega⟩, _, _, rfl, ?_⟩
              refine ⟨some (.int (0 + (k : Int))), ?_, rfl⟩
              show _ = [some (V.int n), some (V.ref fp), some (V.int ((z.1 / S.part : Nat) : Int)), some (V.int S.part), some (V.int (0 + (i : Int))), some (V.int ((z.2 * S.part : Nat) : Int)), some (V.int (0 + (k : Int)))]
              rw [Int.natCast_mul]
              rfl
            · have c' : ¬ z.1 % S.part = 0 := by
                intro e
                refine c3 (decide_eq_true ?_)
                show V.int ((z.1 : Int) % (S.part : Int)) = V.int 0
                rw [mod_nat, e]
                rfl
              rw [if_neg c']
              exact ⟨_, rfl, rfl⟩
          · rintro σ H2 ⟨y6, rfl, rfl⟩
            have c' : (LM.stripK S.part (S.left, 1) 40).1 % S.part ≠ 0 := LM.stripK_done p2 l1 (by omega)
            rw [LM.strip_end p2 l1 c']
            obtain ⟨z, hz⟩ : ∃ z, z = LM.strip S.part S.left := ⟨_, rfl⟩
            rw [← hz]
            refine ⟨.int z.2, rfl, _, _, rfl, rfl, _, rfl, ite2 (fun c3 => ?_) (fun c3 => ?_)⟩
            · have c4 : 1 < (LM.strip S.part S.left).2 := by
                have := of_decide_eq_true c3
                rw [← hz]
                omega
              refine ⟨.ref fp, rfl, .inl ⟨rfl, _, SqL.of ef1⟩, .int z.2, rfl, fp, _, _, rfl, rfl, ef1, line_lt (by rw [vN_len]; omega), ?_⟩
              refine ⟨_, rfl, _, _, rfl, rfl, some (.int (0 + (i : Int))), some (.int z.2), y6, ?_, sm1.updn nf, ?_⟩
              · show (_ : L2.St) = [some (V.int n), some (V.ref fp), some (V.int ((LM.strip S.part S.left).1 : Nat)), some (V.int ((S.part + 1 : Nat) : Int)), some (V.int (0 + (i : Int))), some (V.int z.2), y6]
                rw [← hz]
                rfl
              · rw [upd_same]
                unfold LM.PS.after
                rw [if_pos c4, vN_app, ← hz]
                rfl
            · have c4 : ¬ 1 < (LM.strip S.part S.left).2 := by
                rw [← hz]
                intro h
                refine c3 (decide_eq_true ?_)
                omega
              refine ⟨_, rfl, _, _, rfl, rfl, some (.int (0 + (i : Int))), some (.int z.2), y6, ?_, sm1, ?_⟩
              · show (_ : L2.St) = [some (V.int n), some (V.ref fp), some (V.int ((LM.strip S.part S.left).1 : Nat)), some (V.int ((S.part + 1 : Nat) : Int)), some (V.int (0 + (i : Int))), some (V.int z.2), y6]
                rw [← hz]
                rfl
              · unfold LM.PS.after
                rw [if_neg c4]
                exact ef1
        · rw [stay fun g => c2 (decide_eq_true (by unfold LM.PS.go at g; omega))]
          exact ⟨_, _, _, rfl, sm1, ef1⟩
      · rw [stay fun g => c (decide_eq_true (by unfold LM.PS.go at g; omega))]
        exact ⟨_, _, _, rfl, sm1, ef1⟩
    · rintro σ H1 ⟨y4, y5, y6, rfl, sm1, ef1⟩
      have ng : ¬ (LM.pst n 40000).go := LM.pst_done (by omega)
      have ee := LM.pst_end ng
      have hlen : (LM.pst n 40000).found.length < 31 := LM.pst_len' hn1 (Nat.lt_trans hn2 (by decide)) 40000
      rw [ee] at ef1 hlen ⊢
      refine ⟨.ref fp, rfl, .int (LM.pend n).left, rfl, _, _, rfl, rfl, _, rfl, ite2 (fun c2 => ?_) (fun c2 => ?_)⟩
      · have c3 : 1 < (LM.pend n).left := by
          have := of_decide_eq_true c2
          omega
        refine ⟨.int (LM.pend n).left, rfl, line_le (by show 1 ≤ 16777216; decide), fun t nt => ?_⟩
        have ntf : fp ≠ t := ne_of_none ef1 nt
        refine ⟨fp, t, _, _, rfl, rfl, (by rw [upd_ne ntf]; exact ef1), upd_same, line_le (by rw [vN_len]; show _ + 1 ≤ _; omega), fun u nu => ?_⟩
        refine ⟨u, (LM.powersRaw n).map fun n : Nat => (n : Int), rfl, SqL.of ?_, fun ns' p pm so np => ?_⟩
        · rw [upd_same, ← vN_int]
          unfold LM.powersRaw
          rw [if_pos c3, vN_app]
          rfl
        · rw [LM.srt_int pm so, ← vN_int]
          exact q _ p (((sm1.new nt).new nu).new np) (((sm1.new nt).new nu).free np) upd_same
      · have c3 : ¬ 1 < (LM.pend n).left := by
          intro h
          refine c2 (decide_eq_true ?_)
          omega
        refine ⟨line_le (Nat.zero_le _), fun t nt => ?_⟩
        have ntf : fp ≠ t := ne_of_none ef1 nt
        refine ⟨fp, t, _, _, rfl, rfl, (by rw [upd_ne ntf]; exact ef1), upd_same, line_le (by rw [vN_len]; show _ + 0 ≤ _; omega), fun u nu => ?_⟩
        refine ⟨u, (LM.powersRaw n).map fun n : Nat => (n : Int), rfl, SqL.of ?_, fun ns' p pm so np => ?_⟩
        · rw [upd_same, ← vN_int]
          unfold LM.powersRaw
          rw [if_neg c3, List.append_nil]
        · rw [LM.srt_int pm so, ← vN_int]
          exact q _ p (((sm1.new nt).new nu).new np) (((sm1.new nt).new nu).free np) upd_same
end
end LR
namespace LR
open PySem PySem.Spec PyProof.Rows L2
section
variable {P : Program} {w : World} {K : PySem.W.Frag} {mg : Str → Option Value} {base : Heap}
theorem isP_filter {k : Nat} (h : 2 ≤ k) : LM.isP k = decide (((List.range' 2 (k - 2)).filter fun d => decide (k % d = 0)) = []) := by
  unfold LM.isP
  rw [decide_eq_true h, Bool.true_and, Bool.eq_iff_iff, List.all_eq_true, decide_eq_true_eq, List.filter_eq_nil_iff]
  exact ⟨fun h d hd e => absurd (h d hd) (by rw [of_decide_eq_true e]; decide), fun h d hd => by have := h d hd; simpa using this⟩
/-- the table within the lap of the power p ^ (k + 1), behind the places below q -/
def lap (f : Nat → Nat) (p k q j : Nat) : Nat := if j < q then LM.bestPow f p j (k + 1) else LM.bestPow f p j k
def sp_law_table : Sp := fun vs H Q _ => ∃ (n : Nat), vs = [.int n] ∧ n ≤ 200 ∧ ∀ H' p, Same H H' → H p = none → H' p = some (.lst (vF LM.G (n + 1))) → Q (.ref p) H'
theorem ok_law_table (d : D__law_table K mg) (mr : mg "range" = none) (ml : mg "list" = none) (mm : mg "max" = none) : FnOk P w K mg base CX0 1 d.f d.fd P__law_table sp_law_table := by
  refine d.F.ok sc__law_table (fun vs H Q E h => ?_) (fun cdv A outer s H vs Q E hr h => ?_)
  · obtain ⟨n, rfl, _⟩ := h
    rfl
  · obtain ⟨n, rfl, hn, q⟩ := h
    have nd := sc__law_table.nd
    refine ⟨_, pss_cons (ps_set (i := 1) nd rfl (.inl rfl) (pe_op op_rep (pe_lst (pa_cons pe_int pa_nil)) (pe_op op_add (pv 0) pe_int)))
      (pss_cons (ps_for PassesOwn.never rfl (pi_range2 (by rfl) mr (pa_cons pe_int (pa_cons (pe_op op_add (pv 0) pe_int) pa_nil))) (pg_name (i := 2) nd rfl (Or.inr rfl))
        (pss_one (ps_if (pt_cmpR (op_eqD hr.units) (pe_lc (own := [("_law_part", 7)]) (g := gName 7) (by rfl) nd (pi_range2 (by rfl) mr (pa_cons pe_int (pa_cons (pv 2) pa_nil))) (blkOk_by (N := N__law_table) (sc := defScope s__law_table) (by decide +kernel))
              (fun _ _ _ _ _ => pg_name (i := 7) nd rfl (Or.inl rfl)) (fun _ _ _ _ _ => pts_one (pt_cmpR op_eq (pe_op op_mod (pv 2) (pv 7)) pe_int (nomark _))) (fun _ _ _ _ _ => pv 7)) (pe_lst pa_nil) (nomark _))
          (pss_cons (ps_par (i := 3) (j := 4) (by rfl) nd rfl rfl (by decide) rfl rfl (pa_cons (pe_callTy call_list_of (by rfl) ml (by decide +kernel) (pa_cons (pv 1) pa_nil)) (pa_cons (pv 2) pa_nil)) (by rfl))
          (pss_cons (ps_for PassesOwn.never rfl (pi_range1 (by rfl) mr (pa_cons pe_int pa_nil)) (pg_name (i := 5) nd rfl (Or.inl rfl))
            (pss_cons (ps_if (pt_cmpR op_le (pv 4) (pv 0) (nomark _))
              (pss_one (ps_for PassesOwn.never rfl (pi_range2 (by rfl) mr (pa_cons (pv 4) (pa_cons (pe_op op_add (pv 0) pe_int) pa_nil))) (pg_name (i := 6) nd rfl (Or.inl rfl))
                (pss_one (ps_asg (pe_callB (cr_max rfl) (by rfl) mm (by decide +kernel) (pa_cons (pe_lst (pa_cons (pe_ix ix_list (pv 3) (pv 6) (fun _ _ => rfl))
                  (pa_cons (pe_op op_mul (pe_ix ix_list (pv 1) (pe_op op_sub (pv 6) (pv 4)) (fun _ _ => rfl)) (pv 4)) pa_nil))) pa_nil)) (pg_sub (pv 3) (pv 6) set_list))))) pss_nil)
              (pss_one (ps_set (i := 4) nd rfl (.inl rfl) (pe_op op_mul (pv 4) (pv 2))))))
          (pss_one (ps_set (i := 1) nd rfl (.inl rfl) (pv 3))))) pss_nil)))
      (pss_one (ps_ret (pv 1)))), ?_⟩
    -- [1] * (n + 1)
    refine ⟨line_le (by decide), fun t nt => ?_⟩
    refine ⟨_, rfl, (n : Int), 1, rfl, rfl, t, (n : Int) + 1, _, rfl, rfl, upd_same, by omega, by omega, ?_, fun b nb => ?_⟩
    · refine line_le ?_
      show 1 * ((n : Int) + 1).toNat ≤ _
      omega
    have eF : (List.replicate ((n : Int) + 1).toNat [V.int 1]).flatten = vF (fun _ => 1) (n + 1) := by
      rw [show ((n : Int) + 1).toNat = n + 1 by omega]
      exact rep_flat _ _
    rw [eF]
    refine ⟨_, rfl, (n : Int), 1, rfl, rfl, 2, (n : Int) + 1, rfl, ⟨by omega, by omega, by omega, by omega⟩, for_range (lo := 2) (n := ((n : Int) + 1 - 2).toNat)
      (fun i σ H' => ∃ b y2 y3 y4 y5 y6 y7, σ = [some (.int n), some (.ref b), y2, y3, y4, y5, y6, y7] ∧ Same H H' ∧ H b = none ∧ H' b = some (.lst (vF (LM.tab ((List.range' 2 i).filter LM.isP)) (n + 1))))
      ⟨b, none, none, none, none, none, none, rfl, (same_upd nt).new nb, (same_upd nt).free nb, upd_same⟩ ?_ ?_⟩
    · rintro i σ H1 hi ⟨b, y2, y3, y4, y5, y6, y7, rfl, sm1, nb, eb⟩
      obtain ⟨p, hp⟩ : ∃ p, p = i + 2 := ⟨_, rfl⟩
      have e0 : (2 : Int) + (i : Int) = (p : Int) := by omega
      rw [e0]
      have hpn : p ≤ n := by omega
      have hp2 : 2 ≤ p := by omega
      have er : (List.range' 2 (i + 1)).filter LM.isP = (List.range' 2 i).filter LM.isP ++ (if LM.isP p = true then [p] else []) := by
        rw [List.range'_1_concat, List.filter_append, List.filter_cons, List.filter_nil, show 2 + i = p by omega]
      -- the parts
      refine ⟨.int p, rfl, 2, (p : Int), rfl, ⟨by omega, by omega, by omega, by omega⟩, fun D hD => lc_range (lo := 2) (n := ((p : Int) - 2).toNat)
        (fun j H' => Same H1 H' ∧ H' D = some (.lst (vN ((List.range' 2 j).filter fun d => decide (p % d = 0))))) ⟨same_upd hD, upd_same⟩ ?_ ?_⟩
      · rintro j H2 hj ⟨sm2, eD⟩
        have ed : (2 : Int) + (j : Int) = ((2 + j : Nat) : Int) := by omega
        rw [ed, List.range'_1_concat, List.filter_append, List.filter_cons, List.filter_nil]
        refine ⟨rfl, .int p, rfl, .int ((2 + j : Nat) : Int), rfl, _, _, rfl, rfl, (by omega : (0 : Int) < ((2 + j : Nat) : Int)), rfl, _, rfl, ?_⟩
        have e1 : decide (V.int ((p : Int) % ((2 + j : Nat) : Int)) = V.int 0) = decide (p % (2 + j) = 0) := by
          rw [mod_nat, Bool.eq_iff_iff, decide_eq_true_eq, decide_eq_true_eq]
          exact ⟨fun h => by have := V.int.inj h; omega, fun h => by rw [h]; rfl⟩
        show if decide (V.int ((p : Int) % ((2 + j : Nat) : Int)) = V.int 0) = true then _ else _
        rw [e1]
        refine ite2 (fun c => ?_) (fun c => ?_)
        · refine ⟨.int ((2 + j : Nat) : Int), rfl, _, eD, line_lt ?_, sm2.updn hD, ?_⟩
          · rw [vN_len]
            have := List.length_filter_le (fun d => decide (p % d = 0)) (List.range' 2 j)
            rw [List.length_range'] at this
            omega
          · rw [upd_same, if_pos c, vN_app]
            rfl
        · refine ⟨sm2, ?_⟩
          rw [if_neg c, List.append_nil]
          exact eD
      · rintro H2 ⟨sm2, eD⟩
        refine ⟨line_le (Nat.zero_le _), fun e0 ne => ?_⟩
        have sm3 := sm2.new (o := .lst []) ne
        have neD : D ≠ e0 := ne_of_none eD ne
        refine ⟨.list ((((List.range' 2 ((p : Int) - 2).toNat).filter fun d => decide (p % d = 0)).map fun n : Nat => (n : Int)).map PyData.int), .list (([] : List Int).map PyData.int), .lst (SqL.of (by rw [upd_ne neD, ← vN_int]; exact eD)) (dpAll_ints _), .lst (SqL.of upd_same) (dpAll_ints []), shaped_listI _, shaped_listI _, ?_⟩
        rw [eqv_listI]
        have ep : decide ((((List.range' 2 ((p : Int) - 2).toNat).filter fun d => decide (p % d = 0)).map fun n : Nat => (n : Int)) = []) = LM.isP p := by
          rw [isP_filter hp2, show ((p : Int) - 2).toNat = p - 2 by omega, Bool.eq_iff_iff, decide_eq_true_eq, decide_eq_true_eq, List.map_eq_nil_iff]
        rw [ep]
        refine ⟨_, rfl, ite2 (fun hpp => ?_) (fun hpp => ?_)⟩
        · rw [er, if_pos hpp, LM.tab_snoc]
          obtain ⟨f, hf⟩ : ∃ f, f = LM.tab ((List.range' 2 i).filter LM.isP) := ⟨_, rfl⟩
          rw [← hf] at eb ⊢
          have eb3 := sm3 _ _ eb
          -- list(best)
          refine ⟨.ref b, rfl, b, _, rfl, .inl (SqL.of eb3), fun l nl => ?_⟩
          have nlH : H l = none := (sm1.trans sm3).free nl
          have nbl : b ≠ l := ne_of_none eb3 nl
          refine ⟨.int p, rfl, _, _, rfl, ?_⟩
          refine ⟨12, rfl, by decide, by decide, for_range (lo := 0) (n := 12)
            (fun k σ H' => ∃ y5 y6 y7, σ = [some (.int n), some (.ref b), some (.int p), some (.ref l), some (.int ((p ^ (k + 1) : Nat) : Int)), y5, y6, y7] ∧ Same H H' ∧ H' b = some (.lst (vF f (n + 1))) ∧ H' l = some (.lst (vF (fun j => LM.bestPow f p j k) (n + 1))))
            ⟨y5, y6, y7, ?_, (sm1.trans sm3).new nl, ?_, upd_same⟩ ?_ ?_⟩
          · rw [Nat.zero_add, Nat.pow_one]
            rfl
          · rw [upd_ne nbl]
            exact eb3
          · rintro k σ H4 hk ⟨y5, y6, y7, rfl, sm4, eb4, el4⟩
            have hpk : p ^ (k + 1 + 1) = p ^ (k + 1) * p := Nat.pow_succ p (k + 1)
            have hpos : 1 ≤ p ^ (k + 1) := Nat.one_le_pow _ _ (by omega)
            refine ⟨_, rfl, _, rfl, ((p ^ (k + 1) : Nat) : Int), (n : Int), rfl, rfl, _, rfl, ite2 (fun c => ?_) (fun c => ?_)⟩
            · have c' : p ^ (k + 1) ≤ n := by
                have := of_decide_eq_true c
                omega
              refine ⟨.int ((p ^ (k + 1) : Nat) : Int), rfl, .int n, rfl, (n : Int), 1, rfl, rfl, ((p ^ (k + 1) : Nat) : Int), (n : Int) + 1, rfl, ⟨by omega, by omega, by omega, by omega⟩, for_range (lo := ((p ^ (k + 1) : Nat) : Int)) (n := ((n : Int) + 1 - ((p ^ (k + 1) : Nat) : Int)).toNat)
                (fun t σ H' => ∃ y6 y7, σ = [some (.int n), some (.ref b), some (.int p), some (.ref l), some (.int ((p ^ (k + 1) : Nat) : Int)), some (.int (0 + (k : Int))), y6, y7] ∧ Same H H' ∧ H' b = some (.lst (vF f (n + 1))) ∧ H' l = some (.lst (vF (lap f p k (p ^ (k + 1) + t)) (n + 1))))
                ⟨y6, y7, rfl, sm4, eb4, ?_⟩ ?_ ?_⟩
              · rw [el4]
                congr 2
                refine vF_congr fun j hj => ?_
                unfold lap
                split
                · rename_i hlt
                  show _ = if p ^ (k + 1) ≤ j then _ else LM.bestPow f p j k
                  rw [if_neg (by omega)]
                · rfl
              · rintro t σ H5 ht ⟨y6, y7, rfl, sm5, eb5, el5⟩
                obtain ⟨m, hm⟩ : ∃ m, m = p ^ (k + 1) + t := ⟨_, rfl⟩
                have em : ((p ^ (k + 1) : Nat) : Int) + (t : Int) = (m : Int) := by omega
                rw [em]
                rw [← hm] at el5
                have hmn : m ≤ n := by omega
                have g1 : lap f p k m m = LM.bestPow f p m k := by
                  unfold lap
                  rw [if_neg (by omega)]
                refine ⟨.ref l, rfl, .int m, rfl, l, _, _, _, rfl, rfl, SqL.of el5, at_of (j := m) rfl (vF_get (by omega)), .ref b, rfl, .int m, rfl, .int ((p ^ (k + 1) : Nat) : Int), rfl, (m : Int), ((p ^ (k + 1) : Nat) : Int), rfl, rfl, b, _, _, _, rfl, rfl, SqL.of eb5, at_of (j := m - p ^ (k + 1)) (by omega) (vF_get (by omega)),
                  .int ((p ^ (k + 1) : Nat) : Int), rfl, _, _, rfl, rfl, .inr ⟨by omega, by omega⟩, line_le (by show 2 ≤ 16777216; decide), fun u nu => ?_⟩
                refine ⟨u, [((lap f p k m m : Nat) : Int), ((f (m - p ^ (k + 1)) : Nat) : Int) * ((p ^ (k + 1) : Nat) : Int)], rfl, SqL.of upd_same, by show 0 < 2; decide, fun z hz hle => ?_⟩
                have nul : l ≠ u := ne_of_none el5 nu
                have nub : b ≠ u := ne_of_none eb5 nu
                have ez : z = ((LM.bestPow f p m (k + 1) : Nat) : Int) := by
                  rw [g1] at hz hle
                  have h1 := hle _ List.mem_cons_self
                  have h2 := hle _ (List.mem_cons_of_mem _ List.mem_cons_self)
                  show z = (((if p ^ (k + 1) ≤ m then max (LM.bestPow f p m k) (f (m - p ^ (k + 1)) * p ^ (k + 1)) else LM.bestPow f p m k) : Nat) : Int)
                  rw [if_pos (by omega)]
                  rw [← Int.natCast_mul] at hz h2
                  rcases List.mem_cons.mp hz with h | h
                  · omega
                  · have := List.mem_singleton.mp h
                    omega
                rw [ez]
                refine ⟨.ref l, rfl, .int m, rfl, l, _, (m : Int), m, rfl, rfl, (by rw [upd_ne nul]; exact el5), ixN_nat (by rw [vF_len]; omega), ?_⟩
                refine ⟨_, _, rfl, (sm5.new nu).updn nlH, ?_, ?_⟩
                · rw [upd_ne nbl, upd_ne nub]
                  exact eb5
                · rw [upd_same]
                  congr 2
                  refine vF_set fun j hj => ?_
                  unfold lap
                  by_cases e1 : j = m
                  · rw [if_pos e1, if_pos (by omega), e1]
                  · rw [if_neg e1]
                    by_cases e2 : j < m
                    · rw [if_pos (by omega), if_pos e2]
                    · rw [if_neg (by omega), if_neg e2]
              · rintro σ H5 ⟨y6, y7, rfl, sm5, eb5, el5⟩
                refine ⟨_, rfl, _, rfl, _, _, rfl, rfl, .inr ⟨by omega, by omega⟩, some (.int (0 + (k : Int))), y6, y7, ?_, sm5, eb5, ?_⟩
                · rw [hpk, Int.natCast_mul]
                  rfl
                · rw [el5]
                  congr 2
                  refine vF_congr fun j hj => ?_
                  unfold lap
                  rw [if_pos (by omega)]
            · have c' : n < p ^ (k + 1) := by
                have := of_decide_eq_false (by simpa using c : decide (((p ^ (k + 1) : Nat) : Int) ≤ (n : Int)) = false)
                omega
              refine ⟨_, rfl, _, rfl, _, _, rfl, rfl, .inr ⟨by omega, by omega⟩, some (.int (0 + (k : Int))), y6, y7, ?_, sm4, eb4, ?_⟩
              · rw [hpk, Int.natCast_mul]
                rfl
              · rw [el4]
                congr 2
                refine vF_congr fun j hj => ?_
                show _ = if p ^ (k + 1) ≤ j then _ else LM.bestPow f p j k
                rw [if_neg (by omega)]
          · rintro σ H4 ⟨y5, y6, y7, rfl, sm4, eb4, el4⟩
            refine ⟨_, rfl, l, _, _, _, _, _, _, rfl, sm4, nlH, ?_⟩
            rw [el4]
            congr 2
            refine vF_congr fun j hj => LM.bestPow_end hp2 ?_
            have h1 : 2 ^ 13 ≤ p ^ 13 := Nat.pow_le_pow_left hp2 13
            have h2 : (2 : Nat) ^ 13 = 8192 := by decide
            show j < p ^ 13
            omega
        · have hpf : LM.isP p = false := by simpa using hpp
          refine ⟨b, _, _, _, _, _, _, rfl, sm1.trans sm3, nb, ?_⟩
          rw [er, hpf, if_neg Bool.false_ne_true, List.append_nil]
          exact sm3 _ _ eb
    · rintro σ H1 ⟨b, y2, y3, y4, y5, y6, y7, rfl, sm1, nb, eb⟩
      refine ⟨.ref b, rfl, q H1 b sm1 nb ?_⟩
      rw [eb]
      congr 2
      refine vF_congr fun j hj => ?_
      rw [← LM.tab_G (m := j) (n := n) (by omega)]
      unfold LM.primesTo
      rw [show ((n : Int) + 1 - 2).toNat = n - 1 by omega]
end
end LR
namespace LR
open PySem PySem.Spec PyProof.Rows L2
section
variable {P : Program} {w : World} {K : PySem.W.Frag} {mg : Str → Option Value} {base : Heap}
def sp_law_told : Sp := fun vs H Q _ => ∃ (nm : Str) (x : V) (t : String), vs = [.str nm, x] ∧ Kd H x t ∧ (nm = "cards" → inR x 1 1000000000 = false) ∧ (nm ≠ "cards" → inR x 1 (10 ^ 30) = false ) ∧ ∀ H', Same H H' → Q (.bl true) H'
theorem ok_law_told (d : D__law_told K mg) (dC : D_least_cards K mg) (dF : D_least_for K mg) (e : Ex K mg "BadNumber") (GC : FnOk P w K mg base (L2.CX P w) 4 dC.f dC.fd P_least_cards (sp_least_cards e.C)) (GF : FnOk P w K mg base (L2.CX P w) 4 dF.f dF.fd P_least_for (sp_least_for e.C)) :
    FnOk P w K mg base CX0 5 d.f d.fd P__law_told sp_law_told := by
  refine d.F.ok sc__law_told (fun vs H Q E h => ?_) (fun cdv A outer s H vs Q E hr h => ?_)
  · obtain ⟨nm, x, t, rfl, _⟩ := h
    rfl
  · obtain ⟨nm, x, t, rfl, hk, k1, k2, q⟩ := h
    have nd := sc__law_told.nd
    refine ⟨_, pss_cons (ps_set (i := 2) nd rfl (.inl rfl) pe_bl)
      (pss_cons (ps_try_only (tb := fun W => tIfS (tTest (tOp rEq (tVar 0) (tC (.str "cards")))) (tDrop (tCallS (sp_least_cards e.C) (WE W) (tCons (tVar 1) tNil))) (tDrop (tCallS (sp_least_for e.C) (WE W) (tCons (tVar 1) tNil))))
          (ts := fun _ _ _ => tAsg (tC (.bl true)) (gName 2)) (Wout := fun _ _ _ _ => False) rfl rfl ⟨rfl, by decide, Or.inl e.g⟩ takes0
          (fun W pn xe tk _ => pss_one (ps_if (pt_cmpR op_eq (pv 0) pe_str (nomark _))
            (pss_one (ps_expr (pe_callS GC hr rfl dC.g dC.F.kp dC.b (fun σ => passAt tk σ) (by exact (pa_cons (pv 1) pa_nil)))))
            (pss_one (ps_expr (pe_callS GF hr rfl dF.g dF.F.kp dF.b (fun σ => passAt tk σ) (by exact (pa_cons (pv 1) pa_nil)))))))
          (fun _ _ _ _ _ _ _ => pss_one (ps_set (i := 2) nd rfl (.inl rfl) pe_bl)))
      (pss_one (ps_ret (pv 2)))), ?_⟩
    refine ⟨.str nm, rfl, rfl, _, rfl, ite2 (fun c => ?_) (fun c => ?_)⟩
    · have c' : nm = "cards" := V.str.inj (of_decide_eq_true c)
      refine ⟨x, rfl, x, t, rfl, hk, fun _ => ⟨true, e.te, fun _ a ha => ?_, fun z => nomatch z⟩, fun n en h1 h2 => ?_⟩
      · exact ⟨_, rfl, q H (Same.refl H)⟩
      · subst en
        have := k1 c'
        have e2 : inR (.int n) 1 1000000000 = true := by
          show (decide ((1 : Int) ≤ n) && decide ((n : Int) ≤ 1000000000)) = true
          rw [decide_eq_true (by omega), decide_eq_true (by omega)]
          rfl
        rw [e2] at this
        cases this
    · have c' : nm ≠ "cards" := fun z => c (decide_eq_true (by rw [z]))
      refine ⟨x, rfl, x, t, rfl, hk, fun _ => ⟨true, e.te, fun _ a ha => ?_, fun z => nomatch z⟩, fun z en h1 h2 => ?_⟩
      · exact ⟨_, rfl, q H (Same.refl H)⟩
      · subst en
        have := k2 c'
        have e2 : inR (.int z) 1 (10 ^ 30) = true := by
          show (decide ((1 : Int) ≤ z) && decide (z ≤ 10 ^ 30)) = true
          rw [decide_eq_true h1, decide_eq_true h2]
          rfl
        rw [e2] at this
        cases this
end
end LR
namespace LR
open PySem PySem.Spec PyProof.Rows L2
theorem least_nat {p : Nat → Prop} [DecidablePred p] : ∀ n, p n → ∃ m, m ≤ n ∧ p m ∧ ∀ j, j < m → ¬ p j := by
  intro n
  induction n using Nat.strongRecOn with
  | _ n ih =>
    intro h
    by_cases c : ∃ m, m < n ∧ p m
    · obtain ⟨m, hm, hp⟩ := c
      obtain ⟨k, h1, h2, h3⟩ := ih m hm hp
      exact ⟨k, by omega, h2, h3⟩
    · exact ⟨n, Nat.le_refl n, h, fun j hj hp => c ⟨j, hj, hp⟩⟩
/-- the least number of cards for at least z times -/
theorem least_G {z : Int} {b : Nat} (h : z ≤ (LM.G b : Nat)) : ∃ n : Nat, n ≤ b ∧ z ≤ (LM.G n : Nat) ∧ ∀ j, j < n → (LM.G j : Int) < z := by
  obtain ⟨m, h1, h2, h3⟩ := least_nat (p := fun n => z ≤ (LM.G n : Int)) b h
  exact ⟨m, h1, h2, fun j hj => by have := h3 j hj; omega⟩
theorem least_one {z : Int} {n m : Nat} (h1 : z ≤ (LM.G n : Nat)) (h2 : ∀ j, j < n → (LM.G j : Int) < z) (h3 : z ≤ (LM.G m : Nat)) (h4 : ∀ j, j < m → (LM.G j : Int) < z) : n = m := by
  rcases Nat.lt_trichotomy n m with h | h | h
  · have := h4 n h
    omega
  · exact h
  · have := h2 m h
    omega
section
variable {P : Program} {w : World} {K : PySem.W.Frag} {mg : Str → Option Value} {base : Heap}
def sp_law (K : PySem.W.Frag) : Sp := fun vs H Q _ => ∃ (a : Addr) (ns : List Int), vs = [.ref a] ∧ SqL K H a (ns.map V.int) ∧ ns.length ≤ 63 ∧ ∀ H', Q (.bl true) H'
structure LawT (mg : Str → Option Value) : Prop where
  zr : mg "range" = none
  zm : mg "min" = none
  zs : mg "sum" = none
  zi : mg "isinstance" = none
  zn : mg "int" = none
theorem ok_law (d : D_law K mg) (T : LawT mg) (dR : D__law_random K mg) (dB : D__law_below K mg) (dP : D__law_pick K mg) (dE : D__law_equal K mg) (dW : D__law_powers K mg) (dT : D__law_table K mg) (dO : D__law_told K mg)
    (dC : D_least_cards K mg) (dF : D_least_for K mg) (dG : D_greatest K mg) {C : Addr}
    (GR : FnOk P w K mg base CX0 1 dR.f dR.fd P__law_random (sp_law_random K)) (GB : FnOk P w K mg base CX0 1 dB.f dB.fd P__law_below sp_law_below) (GP : FnOk P w K mg base CX0 2 dP.f dP.fd P__law_pick (sp_law_pick K))
    (GE : FnOk P w K mg base CX0 1 dE.f dE.fd P__law_equal (sp_law_equal 0)) (GW : FnOk P w K mg base CX0 1 dW.f dW.fd P__law_powers sp_law_powers) (GT : FnOk P w K mg base CX0 1 dT.f dT.fd P__law_table sp_law_table)
    (GO : FnOk P w K mg base CX0 5 dO.f dO.fd P__law_told sp_law_told) (GC : FnOk P w K mg base (L2.CX P w) 4 dC.f dC.fd P_least_cards (sp_least_cards C)) (GF : FnOk P w K mg base (L2.CX P w) 4 dF.f dF.fd P_least_for (sp_least_for C))
    (GG : FnOk P w K mg base CX0 4 dG.f dG.fd P_greatest sp_greatest) : FnOk P w K mg base CX0 6 d.f d.fd P_law (sp_law K) := by
  refine d.F.ok sc_law (fun vs H Q E h => ?_) (fun cdv A outer s H vs Q E hr h => ?_)
  · obtain ⟨a, ns, rfl, _⟩ := h
    rfl
  · obtain ⟨a, ns, rfl, hS, hlen, q⟩ := h
    have nd := sc_law.nd
    have hr1 := hr.mono (show 1 ≤ 5 by decide)
    have hr2 := hr.mono (show 2 ≤ 5 by decide)
    have hr4 := hr.mono (show 4 ≤ 5 by decide)
    refine ⟨_, pss_cons (ps_set (i := 1) nd rfl (.inl rfl) (pe_call GR hr1 (by rfl) dR.g dR.F.kp dR.b .nil pass0 (pa_cons (pv 0) (pa_cons pe_int pa_nil))))
      (pss_cons (ps_for PassesOwn.never rfl (pi_range1 (by rfl) T.zr (pa_cons pe_int pa_nil)) (pg_name (i := 2) nd rfl (Or.inl rfl))
        (pss_cons (ps_set (i := 3) nd rfl (.inl rfl) (pe_op op_add pe_int (pe_call GP hr2 (by rfl) dP.g dP.F.kp dP.b .nil pass0 (pa_cons (pv 1) (pa_cons (pe_lst
            (pa_cons (pe_call GB hr1 (by rfl) dB.g dB.F.kp dB.b .nil pass0 (pa_cons (pv 1) (pa_cons pe_int pa_nil)))
            (pa_cons (pe_call GB hr1 (by rfl) dB.g dB.F.kp dB.b .nil pass0 (pa_cons (pv 1) (pa_cons (pe_op op_pow pe_int pe_int) pa_nil)))
            (pa_cons (pe_call GB hr1 (by rfl) dB.g dB.F.kp dB.b .nil pass0 (pa_cons (pv 1) (pa_cons (pe_op op_pow pe_int pe_int) pa_nil))) pa_nil)))) pa_nil)))))
          (pss_one (ps_if (pt_not (pt_val (pe_call GE hr1 (by rfl) dE.g dE.F.kp dE.b .nil pass0 (pa_cons (pe_call GC hr4 (by rfl) dC.g dC.F.kp dC.b .nil passL (pa_cons (pv 3) pa_nil))
              (pa_cons (pe_callB (cr_sum rfl) (by rfl) T.zs (by decide +kernel) (pa_cons (pe_call GW hr1 (by rfl) dW.g dW.F.kp dW.b .nil pass0 (pa_cons (pv 3) pa_nil)) pa_nil)) pa_nil)))))
            pss_never pss_nil))))
      (pss_cons (ps_set (i := 4) nd rfl (.inr rfl) (pe_call GT hr1 (by rfl) dT.g dT.F.kp dT.b .nil pass0 (pa_cons pe_int pa_nil)))
      (pss_cons (ps_set (i := 5) nd rfl (.inr rfl) (pe_op op_add pe_int (pe_call GB hr1 (by rfl) dB.g dB.F.kp dB.b .nil pass0 (pa_cons (pv 1) (pa_cons
          (pe_call GP hr2 (by rfl) dP.g dP.F.kp dP.b .nil pass0 (pa_cons (pv 1) (pa_cons (pe_lst (pa_cons pe_int (pa_cons pe_int (pa_cons (pe_ix ix_list (pv 4) pe_int (fun _ _ => rfl)) pa_nil)))) pa_nil))) pa_nil)))))
      (pss_cons (ps_set (i := 7) nd rfl (.inl rfl) (pe_callB (cr_min rfl) (by rfl) T.zm (by decide +kernel) (pa_cons
          (pe_lc (own := [("_law_n", 6)]) (g := gName 6) (by rfl) nd (pi_range1 (by rfl) T.zr (pa_cons pe_int pa_nil)) (blkOk_by (N := N_law) (sc := defScope s_law) (by decide +kernel))
            (fun _ _ _ _ _ => pg_name (i := 6) nd rfl (Or.inl rfl)) (fun _ _ _ _ _ => pts_one (pt_cmpR op_ge (pe_ix (r := rIxL K) ix_list (pv 4) (pv 6) (fun _ _ => rfl)) (pv 5) (nomark _))) (fun _ _ _ _ _ => pv 6)) pa_nil)))
      (pss_cons (ps_if (pt_not (pt_val (pe_call GE hr1 (by rfl) dE.g dE.F.kp dE.b .nil pass0 (pa_cons (pe_call GF hr4 (by rfl) dF.g dF.F.kp dF.b .nil passL (pa_cons (pv 5) pa_nil)) (pa_cons (pv 7) pa_nil))))) pss_never pss_nil)
      (pss_cons (ps_set (i := 8) nd rfl (.inl rfl) (pe_call GP hr2 (by rfl) dP.g dP.F.kp dP.b .nil pass0 (pa_cons (pv 1) (pa_cons (pe_lst (pa_cons (pe_op op_pow pe_int pe_int)
          (pa_cons (pe_op op_add (pe_op op_pow pe_int pe_int) (pe_call GB hr1 (by rfl) dB.g dB.F.kp dB.b .nil pass0 (pa_cons (pv 1) (pa_cons pe_int pa_nil))))
          (pa_cons (pe_op op_pow pe_int pe_int) (pa_cons (pe_op op_mul pe_int (pe_op op_pow pe_int pe_int)) pa_nil))))) pa_nil))))
      (pss_cons (ps_set (i := 6) nd rfl (.inl rfl) (pe_call GF hr4 (by rfl) dF.g dF.F.kp dF.b .nil passL (pa_cons (pv 8) pa_nil)))
      (pss_cons (ps_if (PW.pt (pw_or (pt_not (pt_val (pe_callB call_isi (by rfl) T.zi (by decide +kernel) (pa_cons (pv 6) (pa_cons (pe_bltn (v := .ty "int") (by rfl) T.zn (by decide +kernel) rfl) pa_nil)))))
          (pw_or (pt_not (pt_chain op_le op_le pe_int (pv 6) pe_int))
          (pw_or (pt_cmpR op_lt (pe_call GG hr4 (by rfl) dG.g dG.F.kp dG.b .nil pass0 (pa_cons (pv 6) pa_nil)) (pv 8) (nomark _))
          (pw_or1 (pt_cmpR op_ge (pe_call GG hr4 (by rfl) dG.g dG.F.kp dG.b .nil pass0 (pa_cons (pe_op op_sub (pv 6) pe_int) pa_nil)) (pv 8) (nomark _))))))) pss_never pss_nil)
      (pss_cons (ps_for PassesOwn.never rfl (pi_list (pe_lst (pa_cons pe_non (pa_cons pe_int (pa_cons (pe_un un_neg pe_int) (pa_cons pe_str (pa_cons pe_bl (pa_cons (pe_op op_add (pe_op op_pow pe_int pe_int) pe_int) pa_nil)))))))) (pg_name (i := 9) nd rfl (Or.inl rfl))
          (pss_one (ps_if (PW.pt (pw_or (pt_not (pt_val (pe_call GO hr (by rfl) dO.g dO.F.kp dO.b .nil pass0 (pa_cons pe_str (pa_cons (pv 9) pa_nil)))))
            (pw_or1 (pt_not (pt_val (pe_call GO hr (by rfl) dO.g dO.F.kp dO.b .nil pass0 (pa_cons pe_str (pa_cons (pv 9) pa_nil)))))))) pss_never pss_nil)))
      (pss_one (ps_ret (pe_call GO hr (by rfl) dO.g dO.F.kp dO.b .nil pass0 (pa_cons pe_str (pa_cons (pe_op op_add (pe_op op_pow pe_int pe_int) pe_int) pa_nil)))))))))))))), ?_⟩
    refine ⟨.ref a, rfl, a, ns, 2304, rfl, hS, hlen, by decide, by decide, fun H1 dd sm1 ndd g1 => ?_⟩
    refine ⟨2, rfl, by decide, by decide, for_range (lo := 0) (n := 2) (fun i σ H' => ∃ y2 y3, σ = [some (.ref a), some (.ref dd), y2, y3, none, none, none, none, none, none] ∧ GoodD H' dd) ⟨none, none, rfl, g1⟩ ?_ ?_⟩
    · rintro i σ H2 hi ⟨y2, y3, rfl, g2⟩
      refine ⟨.ref dd, rfl, .ref dd, rfl, dd, 200, rfl, g2, by decide, by decide, fun H3 r1 sx3 g3 a1 b1 => ?_⟩
      refine ⟨.ref dd, rfl, 10, 5, rfl, rfl, ⟨by decide, by decide, by decide⟩, dd, _, rfl, g3, by decide, by decide, fun H4 r2 sx4 g4 a2 b2 => ?_⟩
      refine ⟨.ref dd, rfl, 10, 9, rfl, rfl, ⟨by decide, by decide, by decide⟩, dd, _, rfl, g4, by decide, by decide, fun H5 r3 sx5 g5 a3 b3 => ?_⟩
      refine ⟨line_le (by show 3 ≤ 16777216; decide), fun p np => ?_⟩
      refine ⟨dd, p, _, rfl, g5.upd np, g5.ne np, SqL.of upd_same, by show 1 ≤ 3; decide, by show 3 ≤ 1000; decide, fun H6 v sx6 g6 hv => ?_⟩
      have e5 : (10 : Int) ^ (5 : Int).toNat = 100000 := by decide
      have e9 : (10 : Int) ^ (9 : Int).toNat = 1000000000 := by decide
      obtain ⟨r, rfl, r0, r9⟩ : ∃ r : Nat, v = .int (r : Int) ∧ 0 ≤ r ∧ r < 1000000000 := by
        rw [e5] at b2
        rw [e9] at b3
        rcases List.mem_cons.mp hv with h | h
        · exact ⟨r1.toNat, by rw [h, Int.toNat_of_nonneg a1], by omega, by omega⟩
        rcases List.mem_cons.mp h with h | h
        · exact ⟨r2.toNat, by rw [h, Int.toNat_of_nonneg a2], by omega, by omega⟩
        · exact ⟨r3.toNat, by rw [List.mem_singleton.mp h, Int.toNat_of_nonneg a3], by omega, by omega⟩
      obtain ⟨n, hn⟩ : ∃ n : Nat, n = r + 1 := ⟨_, rfl⟩
      have en : (1 : Int) + (r : Int) = (n : Int) := by omega
      refine ⟨1, _, rfl, rfl, ?_⟩
      show tSeq _ _ _ [some (.ref a), some (.ref dd), _, some (.int (1 + (r : Int))), none, none, none, none, none, none] H6
      rw [en]
      refine ⟨.int n, rfl, _, _, rfl, .int _, fun e => ?_, fun n' en' h1 h2 H7 sm7 => ?_⟩
      · have e2 : inR (.int n) 1 1000000000 = true := by
          show (decide ((1 : Int) ≤ n) && decide ((n : Int) ≤ 1000000000)) = true
          rw [decide_eq_true (by omega), decide_eq_true (by omega)]
          rfl
        rw [e2] at e
        cases e
      · obtain rfl : n = n' := by
          have := V.int.inj en'
          omega
        refine ⟨.int n, rfl, n, rfl, by omega, by omega, fun H8 p8 sm8 np8 ep8 => ?_⟩
        refine ⟨p8, (LM.powers n).map fun n : Nat => (n : Int), rfl, SqL.of (by rw [← vN_int]; exact ep8), ?_⟩
        refine ⟨_, _, rfl, ?_, fun H9 sm9 => ⟨true, rfl, ifF rfl ⟨_, _, rfl, ((g6.same sm7).same sm8).same sm9⟩⟩⟩
        rw [sum_nat]
        unfold LM.powers
        rw [sum_srt]
        exact .int _
    · rintro σ H2 ⟨y2, y3, rfl, g2⟩
      -- best, times_so
      refine ⟨90, rfl, by decide, fun H3 b sm3 nb eb => ?_⟩
      have ndb : b ≠ dd := g2.ne nb
      have g3 := g2.same sm3
      refine ⟨.ref dd, rfl, .ref dd, rfl, .ref b, rfl, b, _, _, _, rfl, rfl, SqL.of eb, at_of (j := 90) rfl (vF_get (by decide)), line_le (by show 3 ≤ 16777216; decide), fun p np => ?_⟩
      refine ⟨dd, p, _, rfl, g3.upd np, g3.ne np, SqL.of upd_same, by show 1 ≤ 3; decide, by show 3 ≤ 1000; decide, fun H4 v sx4 g4 hv => ?_⟩
      have gl := LM.G_le 90
      have gp := LM.G_pos 90
      have g41 := LM.G_41
      have e290 : (2 : Nat) ^ 90 = 1237940039285380274899124224 := by decide
      obtain ⟨size, rfl, s1, s2, m, hm, s3⟩ : ∃ size : Nat, v = .int (size : Int) ∧ 1 ≤ size ∧ size ≤ 2 ^ 90 ∧ ∃ m : Nat, m ≤ 90 ∧ size ≤ LM.G m := by
        rcases List.mem_cons.mp hv with h | h
        · exact ⟨50, h, by decide, by decide, 41, by decide, by omega⟩
        rcases List.mem_cons.mp h with h | h
        · exact ⟨5000, h, by decide, by decide, 41, by decide, by omega⟩
        · exact ⟨LM.G 90, List.mem_singleton.mp h, gp, gl, 90, by decide, Nat.le_refl _⟩
      have eb4 : H4 b = some (.lst (vF LM.G (90 + 1))) := sx4 _ _ ndb (by rw [upd_ne (ne_of_none eb np)]; exact eb)
      refine ⟨dd, (size : Int), rfl, g4, by omega, nat_wide (bits_up (b := 2 ^ 90) (j := 91) s2 (by decide) (by decide)), fun H5 r sx5 g5 r0 r1 => ?_⟩
      obtain ⟨z, hz⟩ : ∃ z : Int, z = 1 + r := ⟨_, rfl⟩
      refine ⟨1, r, rfl, rfl, ?_⟩
      show tSeq _ _ _ [some (.ref a), some (.ref dd), y2, y3, some (.ref b), some (.int (1 + r)), none, none, none, none] H5
      rw [← hz]
      have eb5 := sx5 _ _ ndb eb4
      have hzm : z ≤ (LM.G m : Nat) := by omega
      -- due
      refine ⟨91, rfl, by decide, by decide, fun D hD => lc_range (lo := 0) (n := 91)
        (fun i H' => Same H5 H' ∧ H' D = some (.lst (vN ((List.range i).filter fun j => decide (z ≤ (LM.G j : Int)))))) ⟨same_upd hD, upd_same⟩ ?_ ?_⟩
      · rintro i H6 hi ⟨sm6, eD⟩
        have e0 : (0 : Int) + (i : Int) = (i : Int) := by omega
        rw [e0, List.range_succ, List.filter_append, List.filter_cons, List.filter_nil]
        refine ⟨rfl, .ref b, rfl, .int i, rfl, b, _, _, _, rfl, rfl, SqL.of (sm6 _ _ eb5), at_of (j := i) rfl (vF_get (by omega)), .int z, rfl, _, _, rfl, rfl, _, rfl, ite2 (fun c => ?_) (fun c => ?_)⟩
        · refine ⟨.int i, rfl, _, eD, line_lt ?_, sm6.updn hD, ?_⟩
          · rw [vN_len]
            have := List.length_filter_le (fun j => decide (z ≤ (LM.G j : Int))) (List.range i)
            rw [List.length_range] at this
            omega
          · rw [upd_same, if_pos c, vN_app]
            rfl
        · refine ⟨sm6, ?_⟩
          rw [if_neg c, List.append_nil]
          exact eD
      · rintro H6 ⟨sm6, eD⟩
        refine ⟨D, ((List.range 91).filter fun j => decide (z ≤ (LM.G j : Int))).map fun n : Nat => (n : Int), rfl, SqL.of (by rw [← vN_int]; exact eD), ?_, fun mm hmm hle => ?_⟩
        · rw [List.length_map]
          exact List.length_pos_of_mem (List.mem_filter.mpr ⟨List.mem_range.mpr (by omega), decide_eq_true hzm⟩)
        obtain ⟨n, hn, rfl⟩ := List.mem_map.mp hmm
        obtain ⟨hn1, hn2⟩ := List.mem_filter.mp hn
        have hn90 := List.mem_range.mp hn1
        have hnz : z ≤ (LM.G n : Int) := of_decide_eq_true hn2
        have hmin : ∀ j, j < n → (LM.G j : Int) < z := fun j hj => by
          rcases Int.lt_or_le (LM.G j : Int) z with c | c
          · exact c
          · have := hle (j : Int) (List.mem_map.mpr ⟨j, List.mem_filter.mpr ⟨List.mem_range.mpr (by omega), decide_eq_true c⟩, rfl⟩)
            omega
        -- least_for(times_so)
        refine ⟨.int z, rfl, _, _, rfl, .int _, fun e => ?_, fun z' ez h1 h2 => ⟨n, by omega, ?_, ?_, fun H7 sm7 => ?_⟩⟩
        · have e2 : inR (.int z) 1 (10 ^ 30) = true := by
            show (decide ((1 : Int) ≤ z) && decide (z ≤ 10 ^ 30)) = true
            rw [decide_eq_true (by omega), decide_eq_true (by omega)]
            rfl
          rw [e2] at e
          cases e
        · rw [← V.int.inj ez]
          exact hnz
        · rw [← V.int.inj ez]
          exact hmin
        refine ⟨.int n, rfl, _, _, rfl, .int _, fun H8 sm8 => ⟨true, rfl, ifF rfl ?_⟩⟩
        have g8 := ((g5.same sm6).same sm7).same sm8
        -- great
        refine ⟨.ref dd, rfl, 10, 30, rfl, rfl, ⟨by decide, by decide, by decide⟩, 10, 25, rfl, rfl, ⟨by decide, by decide, by decide⟩, .ref dd, rfl, dd, 999, rfl, g8, by decide, by decide, fun H9 r9 sx9 g9 r90 r91 => ?_⟩
        refine ⟨_, r9, rfl, rfl, 10, 18, rfl, rfl, ⟨by decide, by decide, by decide⟩, 10, 12, rfl, rfl, ⟨by decide, by decide, by decide⟩, 7, _, rfl, rfl, .inl ⟨by decide, by decide⟩, line_le (by show 4 ≤ 16777216; decide), fun p9 np9 => ?_⟩
        refine ⟨dd, p9, _, rfl, g9.upd np9, g9.ne np9, SqL.of upd_same, by show 1 ≤ 4; decide, by show 4 ≤ 1000; decide, fun H10 v sx10 g10 hv => ?_⟩
        obtain ⟨z2, rfl, z20, z21⟩ : ∃ z2 : Int, v = .int z2 ∧ 2 ≤ z2 ∧ z2 ≤ 10 ^ 30 := by
          rcases List.mem_cons.mp hv with h | h
          · exact ⟨_, h, by decide, by decide⟩
          rcases List.mem_cons.mp h with h | h
          · have e25 : (10 : Int) ^ (25 : Int).toNat = 10000000000000000000000000 := by decide
            refine ⟨_, h, ?_, ?_⟩
            · rw [e25]
              omega
            · rw [e25]
              omega
          rcases List.mem_cons.mp h with h | h
          · exact ⟨_, h, by decide, by decide⟩
          · exact ⟨_, List.mem_singleton.mp h, by decide, by decide⟩
        have g791 := LM.G_791
        obtain ⟨k, hk, hkz, hkmin⟩ := least_G (z := z2) (b := 791) (by omega)
        have hk1 : 1 ≤ k := by
          rcases Nat.eq_zero_or_pos k with h | h
          · subst h
            have : LM.G 0 = 1 := rfl
            omega
          · exact h
        refine ⟨.int z2, rfl, _, _, rfl, .int _, fun e => ?_, fun z' ez h1 h2 => ⟨k, by omega, ?_, ?_, fun H11 sm11 => ?_⟩⟩
        · have e2 : inR (.int z2) 1 (10 ^ 30) = true := by
            show (decide ((1 : Int) ≤ z2) && decide (z2 ≤ 10 ^ 30)) = true
            rw [decide_eq_true (by omega), decide_eq_true (by omega)]
            rfl
          rw [e2] at e
          cases e
        · rw [← V.int.inj ez]
          exact hkz
        · rw [← V.int.inj ez]
          exact hkmin
        -- the tests of n
        refine ⟨_, rfl, _, _, _, _, _, rfl, .ty "int", (Kd.int (k : Int)).ty, kit_ty (r := true) (by decide +kernel), _, rfl, ifF rfl ?_⟩
        refine ⟨.int k, rfl, 1, (k : Int), rfl, rfl, _, rfl, ifT (decide_eq_true (by omega)) ⟨(k : Int), 2000, rfl, rfl, _, rfl, ifF (by rw [decide_eq_true (show (k : Int) ≤ 2000 by omega)]; rfl) ?_⟩⟩
        refine ⟨.int k, rfl, k, rfl, by omega, fun H12 sm12 => ⟨.int z2, rfl, _, _, rfl, rfl, _, rfl, ifF (decide_eq_false (by omega)) ?_⟩⟩
        refine ⟨.int k, rfl, (k : Int), 1, rfl, rfl, k - 1, (by rw [show ((k - 1 : Nat) : Int) = (k : Int) - 1 by omega]; rfl), by omega, fun H13 sm13 => ⟨.int z2, rfl, _, _, rfl, rfl, _, rfl, ifF (decide_eq_false (by have := hkmin (k - 1) (by omega); omega)) ?_⟩⟩
        -- values that are none
        refine ⟨1, rfl, 10, 30, rfl, rfl, ⟨by decide, by decide, by decide⟩, _, 1, rfl, rfl, line_le (by show 6 ≤ 16777216; decide), fun pv npv => ?_⟩
        refine ⟨pv, rfl, ⟨_, SqL.of upd_same⟩, for_list (K := K) (a := pv) (xs := [.non, .int 0, .int (-1), .str "3", .bl true, .int (10 ^ (30 : Int).toNat + 1)])
          (fun i σ H' => ∃ y9, σ = [some (.ref a), some (.ref dd), y2, y3, some (.ref b), some (.int z), some (.int k), some (.int n), some (.int z2), y9] ∧ H' pv = some (.lst [.non, .int 0, .int (-1), .str "3", .bl true, .int (10 ^ (30 : Int).toNat + 1)]))
          ⟨none, rfl, upd_same⟩ (fun _ _ _ _ ⟨_, _, e⟩ => SqL.of e) ?_ ?_⟩
        · rintro i x σ H14 hx ⟨y9, rfl, ep⟩
          obtain ⟨t, hk, k1, k2⟩ : ∃ t, Kd H14 x t ∧ inR x 1 1000000000 = false ∧ inR x 1 (10 ^ 30) = false := by
            match i, hx with
            | 0, hx => rw [← Option.some.inj hx]; exact ⟨_, .non, rfl, rfl⟩
            | 1, hx => rw [← Option.some.inj hx]; exact ⟨_, .int _, by decide, by decide⟩
            | 2, hx => rw [← Option.some.inj hx]; exact ⟨_, .int _, by decide, by decide⟩
            | 3, hx => rw [← Option.some.inj hx]; exact ⟨_, .str _, rfl, rfl⟩
            | 4, hx => rw [← Option.some.inj hx]; exact ⟨_, .bl _, rfl, rfl⟩
            | 5, hx => rw [← Option.some.inj hx]; exact ⟨_, .int _, by decide, by decide⟩
          refine ⟨x, rfl, "cards", x, t, rfl, hk, fun _ => k1, fun _ => k2, fun H15 sm15 => ⟨true, rfl, ifF rfl ?_⟩⟩
          have hk' : Kd H15 x t := by
            cases hk with
            | non => exact .non
            | bl b => exact .bl b
            | int i => exact .int i
            | str x => exact .str x
            | lst e => exact .lst (sm15 _ _ e)
            | tup e => exact .tup (sm15 _ _ e)
            | dK e => exact .dK (sm15 _ _ e)
          exact ⟨x, rfl, "for", x, t, rfl, hk', fun _ => k1, fun _ => k2, fun H16 sm16 => ⟨true, rfl, ifF rfl ⟨_, rfl, sm16 _ _ (sm15 _ _ ep)⟩⟩⟩
        · rintro σ H14 ⟨y9, rfl, ep⟩
          refine ⟨10, 9, rfl, rfl, ⟨by decide, by decide, by decide⟩, _, 1, rfl, rfl, "cards", _, _, rfl, .int _, fun _ => by decide, fun h => absurd rfl h, fun H15 sm15 => q H15⟩
end
end LR
namespace LR
open PySem PySem.Spec PyProof.Rows L2
/-- the law's def at fa keeps its promise, wherever the written part stands -/
def LawOk (l : PySem.W.OpenLaw) (K : PySem.W.Frag) (w : World) (mg : Str → Option Value) (fa : Addr) (k : Nat) : Prop :=
  ∃ fd : FuncData, (∀ (s : Shared) (v : Value), BindsTo s fd ⟨[v], []⟩ [("_law_script", v)]) ∧ ∀ base : Heap, K.In base → base.Ns mainGlobals mg → FnOk l.prog w K mg base CX0 k fa fd P_law (sp_law K)
/-- the row's walk, where constants of the top are reckoned there: what the top left (told) is handed on -/
theorem law_walk {l : PySem.W.OpenLaw} {k : Nat} {told : (Str → Option Value) → Heap → Prop} {yp : World → Heap → Prop} {q : Program} {loose : List Str} {dr : DefRec} {Kp : Params → PySem.W.Frag}
    (m63 : l.most = some 63) (d0 : dr.params.defaults = []) (room : Room k callerA) (inK : ∀ w h, yp w h → (Kp w.params).In h)
    (ok : ∀ w mg fa h, (Kp w.params).In h → h.Ns mainGlobals mg → told mg h → mg dr.name = some (.ref fa) → LawOk l (Kp w.params) w mg fa k) :
    PySem.W.WalkO q loose told yp l.row.toRowW dr [] (fun f vs => PySem.call f vs) :=
  Att.attach_call m63 d0 fun w _ s₁ mg _ fa _ _ _ _ a _ ns gr y _ _ _ here sc arI few bare => by
    obtain ⟨fd, bound, kept⟩ := ok w mg fa s₁.heap (inK w _ y) gr.T.g gr.X here
    refine law_call (inK w _ y) gr.T.g gr.T.b gr.T.builtins gr.T.nolimit bare sc arI (Nat.le_trans few (by decide)) room kept bound (fun H _ hS => ⟨a, ns, rfl, hS, few, fun _ => rfl⟩) fun _ _ _ z => z
/-- a constant of the top that is reckoned there -/
theorem loose_int {p : Program} {lv : List (Str × PySem.W.WData)} {mg : Str → Option Value} {h : Heap} {x : Str} {i : Int} (X : PySem.W.XL p lv mg h) (m : (x, PySem.W.WData.int i) ∈ lv) : ∃ t, mg x = some (.int i t) := by
  obtain ⟨v, e, r⟩ := X.2.val _ m
  cases r with
  | int _ t => exact ⟨t, e⟩
end LR
namespace LR
open PySem PySem.Spec PyProof.Rows L2
theorem all_mk {l : PySem.W.OpenLaw} {w : World} {K : PySem.W.Frag} {h : Heap} {mg : Str → Option Value} {fa f_is_integer f_is_from f_primes_to f_table_to f_powers_of f_check_cards f_greatest f_check_number f_least_cards f_least_for f__law_random f__law_below f__law_pick f__law_equal f__law_powers f__law_table f__law_told f_law : Addr} (X : K.In h) (G : h.Ns mainGlobals mg) (hfa : mg "law" = some (.ref fa))
    {od_is_integer an_is_integer : Option Addr} {sl_is_integer : Array (Option Value)} {oc_is_integer kV_is_integer dc_is_integer pm_is_integer cd_is_integer ct_is_integer : Value}
    (a_is_integer : PySem.W.nsIn K mainGlobals "is_integer" = some (some (.ref f_is_integer))) (l_is_integer : K.lookup f_is_integer = some ⟨oc_is_integer, od_is_integer, .func (PySem.W.fnOf "is_integer" "is_integer" (defArgs s_is_integer) (defBody s_is_integer) (defScope s_is_integer) .none kV_is_integer dc_is_integer pm_is_integer an_is_integer cd_is_integer ct_is_integer), sl_is_integer⟩) (c_is_integer : PySem.W.codeIn K cd_is_integer "is_integer" = true) (k_is_integer : PySem.W.keepIn K (.ref f_is_integer) = true)
    {od_is_from an_is_from : Option Addr} {sl_is_from : Array (Option Value)} {oc_is_from kV_is_from dc_is_from pm_is_from cd_is_from ct_is_from : Value}
    (a_is_from : PySem.W.nsIn K mainGlobals "is_from" = some (some (.ref f_is_from))) (l_is_from : K.lookup f_is_from = some ⟨oc_is_from, od_is_from, .func (PySem.W.fnOf "is_from" "is_from" (defArgs s_is_from) (defBody s_is_from) (defScope s_is_from) .none kV_is_from dc_is_from pm_is_from an_is_from cd_is_from ct_is_from), sl_is_from⟩) (c_is_from : PySem.W.codeIn K cd_is_from "is_from" = true) (k_is_from : PySem.W.keepIn K (.ref f_is_from) = true)
    {od_primes_to an_primes_to : Option Addr} {sl_primes_to : Array (Option Value)} {oc_primes_to kV_primes_to dc_primes_to pm_primes_to cd_primes_to ct_primes_to : Value}
    (a_primes_to : PySem.W.nsIn K mainGlobals "primes_to" = some (some (.ref f_primes_to))) (l_primes_to : K.lookup f_primes_to = some ⟨oc_primes_to, od_primes_to, .func (PySem.W.fnOf "primes_to" "primes_to" (defArgs s_primes_to) (defBody s_primes_to) (defScope s_primes_to) .none kV_primes_to dc_primes_to pm_primes_to an_primes_to cd_primes_to ct_primes_to), sl_primes_to⟩) (c_primes_to : PySem.W.codeIn K cd_primes_to "primes_to" = true) (k_primes_to : PySem.W.keepIn K (.ref f_primes_to) = true)
    {od_table_to an_table_to : Option Addr} {sl_table_to : Array (Option Value)} {oc_table_to kV_table_to dc_table_to pm_table_to cd_table_to ct_table_to : Value}
    (a_table_to : PySem.W.nsIn K mainGlobals "table_to" = some (some (.ref f_table_to))) (l_table_to : K.lookup f_table_to = some ⟨oc_table_to, od_table_to, .func (PySem.W.fnOf "table_to" "table_to" (defArgs s_table_to) (defBody s_table_to) (defScope s_table_to) .none kV_table_to dc_table_to pm_table_to an_table_to cd_table_to ct_table_to), sl_table_to⟩) (c_table_to : PySem.W.codeIn K cd_table_to "table_to" = true) (k_table_to : PySem.W.keepIn K (.ref f_table_to) = true)
    {od_powers_of an_powers_of : Option Addr} {sl_powers_of : Array (Option Value)} {oc_powers_of kV_powers_of dc_powers_of pm_powers_of cd_powers_of ct_powers_of : Value}
    (a_powers_of : PySem.W.nsIn K mainGlobals "powers_of" = some (some (.ref f_powers_of))) (l_powers_of : K.lookup f_powers_of = some ⟨oc_powers_of, od_powers_of, .func (PySem.W.fnOf "powers_of" "powers_of" (defArgs s_powers_of) (defBody s_powers_of) (defScope s_powers_of) .none kV_powers_of dc_powers_of pm_powers_of an_powers_of cd_powers_of ct_powers_of), sl_powers_of⟩) (c_powers_of : PySem.W.codeIn K cd_powers_of "powers_of" = true) (k_powers_of : PySem.W.keepIn K (.ref f_powers_of) = true)
    {od_check_cards an_check_cards : Option Addr} {sl_check_cards : Array (Option Value)} {oc_check_cards kV_check_cards dc_check_cards pm_check_cards cd_check_cards ct_check_cards : Value}
    (a_check_cards : PySem.W.nsIn K mainGlobals "check_cards" = some (some (.ref f_check_cards))) (l_check_cards : K.lookup f_check_cards = some ⟨oc_check_cards, od_check_cards, .func (PySem.W.fnOf "check_cards" "check_cards" (defArgs s_check_cards) (defBody s_check_cards) (defScope s_check_cards) .none kV_check_cards dc_check_cards pm_check_cards an_check_cards cd_check_cards ct_check_cards), sl_check_cards⟩) (c_check_cards : PySem.W.codeIn K cd_check_cards "check_cards" = true) (k_check_cards : PySem.W.keepIn K (.ref f_check_cards) = true)
    {od_greatest an_greatest : Option Addr} {sl_greatest : Array (Option Value)} {oc_greatest kV_greatest dc_greatest pm_greatest cd_greatest ct_greatest : Value}
    (a_greatest : PySem.W.nsIn K mainGlobals "greatest" = some (some (.ref f_greatest))) (l_greatest : K.lookup f_greatest = some ⟨oc_greatest, od_greatest, .func (PySem.W.fnOf "greatest" "greatest" (defArgs s_greatest) (defBody s_greatest) (defScope s_greatest) .none kV_greatest dc_greatest pm_greatest an_greatest cd_greatest ct_greatest), sl_greatest⟩) (c_greatest : PySem.W.codeIn K cd_greatest "greatest" = true) (k_greatest : PySem.W.keepIn K (.ref f_greatest) = true)
    {od_check_number an_check_number : Option Addr} {sl_check_number : Array (Option Value)} {oc_check_number kV_check_number dc_check_number pm_check_number cd_check_number ct_check_number : Value}
    (a_check_number : PySem.W.nsIn K mainGlobals "check_number" = some (some (.ref f_check_number))) (l_check_number : K.lookup f_check_number = some ⟨oc_check_number, od_check_number, .func (PySem.W.fnOf "check_number" "check_number" (defArgs s_check_number) (defBody s_check_number) (defScope s_check_number) .none kV_check_number dc_check_number pm_check_number an_check_number cd_check_number ct_check_number), sl_check_number⟩) (c_check_number : PySem.W.codeIn K cd_check_number "check_number" = true) (k_check_number : PySem.W.keepIn K (.ref f_check_number) = true)
    {od_least_cards an_least_cards : Option Addr} {sl_least_cards : Array (Option Value)} {oc_least_cards kV_least_cards dc_least_cards pm_least_cards cd_least_cards ct_least_cards : Value}
    (a_least_cards : PySem.W.nsIn K mainGlobals "least_cards" = some (some (.ref f_least_cards))) (l_least_cards : K.lookup f_least_cards = some ⟨oc_least_cards, od_least_cards, .func (PySem.W.fnOf "least_cards" "least_cards" (defArgs s_least_cards) (defBody s_least_cards) (defScope s_least_cards) .none kV_least_cards dc_least_cards pm_least_cards an_least_cards cd_least_cards ct_least_cards), sl_least_cards⟩) (c_least_cards : PySem.W.codeIn K cd_least_cards "least_cards" = true) (k_least_cards : PySem.W.keepIn K (.ref f_least_cards) = true)
    {od_least_for an_least_for : Option Addr} {sl_least_for : Array (Option Value)} {oc_least_for kV_least_for dc_least_for pm_least_for cd_least_for ct_least_for : Value}
    (a_least_for : PySem.W.nsIn K mainGlobals "least_for" = some (some (.ref f_least_for))) (l_least_for : K.lookup f_least_for = some ⟨oc_least_for, od_least_for, .func (PySem.W.fnOf "least_for" "least_for" (defArgs s_least_for) (defBody s_least_for) (defScope s_least_for) .none kV_least_for dc_least_for pm_least_for an_least_for cd_least_for ct_least_for), sl_least_for⟩) (c_least_for : PySem.W.codeIn K cd_least_for "least_for" = true) (k_least_for : PySem.W.keepIn K (.ref f_least_for) = true)
    {od__law_random an__law_random : Option Addr} {sl__law_random : Array (Option Value)} {oc__law_random kV__law_random dc__law_random pm__law_random cd__law_random ct__law_random : Value}
    (a__law_random : PySem.W.nsIn K mainGlobals "_law_random" = some (some (.ref f__law_random))) (l__law_random : K.lookup f__law_random = some ⟨oc__law_random, od__law_random, .func (PySem.W.fnOf "_law_random" "_law_random" (defArgs s__law_random) (defBody s__law_random) (defScope s__law_random) .none kV__law_random dc__law_random pm__law_random an__law_random cd__law_random ct__law_random), sl__law_random⟩) (c__law_random : PySem.W.codeIn K cd__law_random "_law_random" = true) (k__law_random : PySem.W.keepIn K (.ref f__law_random) = true)
    {od__law_below an__law_below : Option Addr} {sl__law_below : Array (Option Value)} {oc__law_below kV__law_below dc__law_below pm__law_below cd__law_below ct__law_below : Value}
    (a__law_below : PySem.W.nsIn K mainGlobals "_law_below" = some (some (.ref f__law_below))) (l__law_below : K.lookup f__law_below = some ⟨oc__law_below, od__law_below, .func (PySem.W.fnOf "_law_below" "_law_below" (defArgs s__law_below) (defBody s__law_below) (defScope s__law_below) .none kV__law_below dc__law_below pm__law_below an__law_below cd__law_below ct__law_below), sl__law_below⟩) (c__law_below : PySem.W.codeIn K cd__law_below "_law_below" = true) (k__law_below : PySem.W.keepIn K (.ref f__law_below) = true)
    {od__law_pick an__law_pick : Option Addr} {sl__law_pick : Array (Option Value)} {oc__law_pick kV__law_pick dc__law_pick pm__law_pick cd__law_pick ct__law_pick : Value}
    (a__law_pick : PySem.W.nsIn K mainGlobals "_law_pick" = some (some (.ref f__law_pick))) (l__law_pick : K.lookup f__law_pick = some ⟨oc__law_pick, od__law_pick, .func (PySem.W.fnOf "_law_pick" "_law_pick" (defArgs s__law_pick) (defBody s__law_pick) (defScope s__law_pick) .none kV__law_pick dc__law_pick pm__law_pick an__law_pick cd__law_pick ct__law_pick), sl__law_pick⟩) (c__law_pick : PySem.W.codeIn K cd__law_pick "_law_pick" = true) (k__law_pick : PySem.W.keepIn K (.ref f__law_pick) = true)
    {od__law_equal an__law_equal : Option Addr} {sl__law_equal : Array (Option Value)} {oc__law_equal kV__law_equal dc__law_equal pm__law_equal cd__law_equal ct__law_equal : Value}
    (a__law_equal : PySem.W.nsIn K mainGlobals "_law_equal" = some (some (.ref f__law_equal))) (l__law_equal : K.lookup f__law_equal = some ⟨oc__law_equal, od__law_equal, .func (PySem.W.fnOf "_law_equal" "_law_equal" (defArgs s__law_equal) (defBody s__law_equal) (defScope s__law_equal) .none kV__law_equal dc__law_equal pm__law_equal an__law_equal cd__law_equal ct__law_equal), sl__law_equal⟩) (c__law_equal : PySem.W.codeIn K cd__law_equal "_law_equal" = true) (k__law_equal : PySem.W.keepIn K (.ref f__law_equal) = true)
    {od__law_powers an__law_powers : Option Addr} {sl__law_powers : Array (Option Value)} {oc__law_powers kV__law_powers dc__law_powers pm__law_powers cd__law_powers ct__law_powers : Value}
    (a__law_powers : PySem.W.nsIn K mainGlobals "_law_powers" = some (some (.ref f__law_powers))) (l__law_powers : K.lookup f__law_powers = some ⟨oc__law_powers, od__law_powers, .func (PySem.W.fnOf "_law_powers" "_law_powers" (defArgs s__law_powers) (defBody s__law_powers) (defScope s__law_powers) .none kV__law_powers dc__law_powers pm__law_powers an__law_powers cd__law_powers ct__law_powers), sl__law_powers⟩) (c__law_powers : PySem.W.codeIn K cd__law_powers "_law_powers" = true) (k__law_powers : PySem.W.keepIn K (.ref f__law_powers) = true)
    {od__law_table an__law_table : Option Addr} {sl__law_table : Array (Option Value)} {oc__law_table kV__law_table dc__law_table pm__law_table cd__law_table ct__law_table : Value}
    (a__law_table : PySem.W.nsIn K mainGlobals "_law_table" = some (some (.ref f__law_table))) (l__law_table : K.lookup f__law_table = some ⟨oc__law_table, od__law_table, .func (PySem.W.fnOf "_law_table" "_law_table" (defArgs s__law_table) (defBody s__law_table) (defScope s__law_table) .none kV__law_table dc__law_table pm__law_table an__law_table cd__law_table ct__law_table), sl__law_table⟩) (c__law_table : PySem.W.codeIn K cd__law_table "_law_table" = true) (k__law_table : PySem.W.keepIn K (.ref f__law_table) = true)
    {od__law_told an__law_told : Option Addr} {sl__law_told : Array (Option Value)} {oc__law_told kV__law_told dc__law_told pm__law_told cd__law_told ct__law_told : Value}
    (a__law_told : PySem.W.nsIn K mainGlobals "_law_told" = some (some (.ref f__law_told))) (l__law_told : K.lookup f__law_told = some ⟨oc__law_told, od__law_told, .func (PySem.W.fnOf "_law_told" "_law_told" (defArgs s__law_told) (defBody s__law_told) (defScope s__law_told) .none kV__law_told dc__law_told pm__law_told an__law_told cd__law_told ct__law_told), sl__law_told⟩) (c__law_told : PySem.W.codeIn K cd__law_told "_law_told" = true) (k__law_told : PySem.W.keepIn K (.ref f__law_told) = true)
    {od_law an_law : Option Addr} {sl_law : Array (Option Value)} {oc_law kV_law dc_law pm_law cd_law ct_law : Value}
    (a_law : PySem.W.nsIn K mainGlobals "law" = some (some (.ref f_law))) (l_law : K.lookup f_law = some ⟨oc_law, od_law, .func (PySem.W.fnOf "law" "law" (defArgs s_law) (defBody s_law) (defScope s_law) .none kV_law dc_law pm_law an_law cd_law ct_law), sl_law⟩) (c_law : PySem.W.codeIn K cd_law "law" = true) (k_law : PySem.W.keepIn K (.ref f_law) = true)
    {C_BadNumber : Addr} (aC_BadNumber : PySem.W.nsIn K mainGlobals "BadNumber" = some (some (.ref C_BadNumber))) (xC_BadNumber : PySem.W.excIn K C_BadNumber [.type "ValueError", .type "Exception", .type "BaseException", .type "object"] "ValueError.__new__" = true) (kC_BadNumber : PySem.W.keepIn K (.ref C_BadNumber) = true) (bC_BadNumber : PySem.W.subIn K (.ref C_BadNumber) (.type "BaseException") = some true) (tC_BadNumber : PySem.W.typeIn K (.ref C_BadNumber) = some (.type "type")) (iC_BadNumber : PySem.W.isClsIn K C_BadNumber = true) (sC_BadNumber : PySem.W.subIn K (.ref C_BadNumber) (.ref C_BadNumber) = some true)
    {C_BadCards : Addr} (aC_BadCards : PySem.W.nsIn K mainGlobals "BadCards" = some (some (.ref C_BadCards))) (xC_BadCards : PySem.W.excIn K C_BadCards [.type "ValueError", .type "Exception", .type "BaseException", .type "object"] "ValueError.__new__" = true) (kC_BadCards : PySem.W.keepIn K (.ref C_BadCards) = true) (bC_BadCards : PySem.W.subIn K (.ref C_BadCards) (.type "BaseException") = some true) (tC_BadCards : PySem.W.typeIn K (.ref C_BadCards) = some (.type "type")) (iC_BadCards : PySem.W.isClsIn K C_BadCards = true) (sC_BadCards : PySem.W.subIn K (.ref C_BadCards) (.ref C_BadCards) = some true)
    {t_MOST_GREAT : Tok} (n_MOST_GREAT : PySem.W.nsIn K mainGlobals "MOST_GREAT" = some (some (.int 2000 t_MOST_GREAT)))
    (y_isinstance : PySem.W.nsIn K mainGlobals "isinstance" = some none)
    (y_int : PySem.W.nsIn K mainGlobals "int" = some none)
    (y_bool : PySem.W.nsIn K mainGlobals "bool" = some none)
    (y_range : PySem.W.nsIn K mainGlobals "range" = some none)
    (y_reversed : PySem.W.nsIn K mainGlobals "reversed" = some none)
    (y_max : PySem.W.nsIn K mainGlobals "max" = some none)
    (y_sorted : PySem.W.nsIn K mainGlobals "sorted" = some none)
    (y_sum : PySem.W.nsIn K mainGlobals "sum" = some none)
    (y_abs : PySem.W.nsIn K mainGlobals "abs" = some none)
    (y_len : PySem.W.nsIn K mainGlobals "len" = some none)
    (y_str : PySem.W.nsIn K mainGlobals "str" = some none)
    (y_dict : PySem.W.nsIn K mainGlobals "dict" = some none)
    (y_list : PySem.W.nsIn K mainGlobals "list" = some none)
    (y_all : PySem.W.nsIn K mainGlobals "all" = some none)
    (y_tuple : PySem.W.nsIn K mainGlobals "tuple" = some none)
    (y_min : PySem.W.nsIn K mainGlobals "min" = some none)
    (u_MOST_TIMES : ∃ t, mg "MOST_TIMES" = some (.int 1000000000000000000000000000000 t))
    (u_MOST_PLAIN : ∃ t, mg "MOST_PLAIN" = some (.int 1000000000 t))
    : LawOk l K w mg fa 6 := by
  have e := hfa.symm.trans (PySem.W.mg_of X G a_law)
  cases e
  have F_is_integer := fun_mk (st := s_is_integer) l_is_integer c_is_integer k_is_integer
  let d_is_integer : D_is_integer K mg := ⟨f_is_integer, _, F_is_integer, F_is_integer.binds (ps := P_is_integer) fun _ _ _ _ _ _ us hl => match us, hl with | [_], _ => rfl, PySem.W.mg_of X G a_is_integer⟩
  have F_is_from := fun_mk (st := s_is_from) l_is_from c_is_from k_is_from
  let d_is_from : D_is_from K mg := ⟨f_is_from, _, F_is_from, F_is_from.binds (ps := P_is_from) fun _ _ _ _ _ _ us hl => match us, hl with | [_, _, _], _ => rfl, PySem.W.mg_of X G a_is_from⟩
  have F_primes_to := fun_mk (st := s_primes_to) l_primes_to c_primes_to k_primes_to
  let d_primes_to : D_primes_to K mg := ⟨f_primes_to, _, F_primes_to, F_primes_to.binds (ps := P_primes_to) fun _ _ _ _ _ _ us hl => match us, hl with | [_], _ => rfl, PySem.W.mg_of X G a_primes_to⟩
  have F_table_to := fun_mk (st := s_table_to) l_table_to c_table_to k_table_to
  let d_table_to : D_table_to K mg := ⟨f_table_to, _, F_table_to, F_table_to.binds (ps := P_table_to) fun _ _ _ _ _ _ us hl => match us, hl with | [_], _ => rfl, PySem.W.mg_of X G a_table_to⟩
  have F_powers_of := fun_mk (st := s_powers_of) l_powers_of c_powers_of k_powers_of
  let d_powers_of : D_powers_of K mg := ⟨f_powers_of, _, F_powers_of, F_powers_of.binds (ps := P_powers_of) fun _ _ _ _ _ _ us hl => match us, hl with | [_], _ => rfl, PySem.W.mg_of X G a_powers_of⟩
  have F_check_cards := fun_mk (st := s_check_cards) l_check_cards c_check_cards k_check_cards
  let d_check_cards : D_check_cards K mg := ⟨f_check_cards, _, F_check_cards, F_check_cards.binds (ps := P_check_cards) fun _ _ _ _ _ _ us hl => match us, hl with | [_, _, _], _ => rfl, PySem.W.mg_of X G a_check_cards⟩
  have F_greatest := fun_mk (st := s_greatest) l_greatest c_greatest k_greatest
  let d_greatest : D_greatest K mg := ⟨f_greatest, _, F_greatest, F_greatest.binds (ps := P_greatest) fun _ _ _ _ _ _ us hl => match us, hl with | [_], _ => rfl, PySem.W.mg_of X G a_greatest⟩
  have F_check_number := fun_mk (st := s_check_number) l_check_number c_check_number k_check_number
  let d_check_number : D_check_number K mg := ⟨f_check_number, _, F_check_number, F_check_number.binds (ps := P_check_number) fun _ _ _ _ _ _ us hl => match us, hl with | [_, _], _ => rfl, PySem.W.mg_of X G a_check_number⟩
  have F_least_cards := fun_mk (st := s_least_cards) l_least_cards c_least_cards k_least_cards
  let d_least_cards : D_least_cards K mg := ⟨f_least_cards, _, F_least_cards, F_least_cards.binds (ps := P_least_cards) fun _ _ _ _ _ _ us hl => match us, hl with | [_], _ => rfl, PySem.W.mg_of X G a_least_cards⟩
  have F_least_for := fun_mk (st := s_least_for) l_least_for c_least_for k_least_for
  let d_least_for : D_least_for K mg := ⟨f_least_for, _, F_least_for, F_least_for.binds (ps := P_least_for) fun _ _ _ _ _ _ us hl => match us, hl with | [_], _ => rfl, PySem.W.mg_of X G a_least_for⟩
  have F__law_random := fun_mk (st := s__law_random) l__law_random c__law_random k__law_random
  let d__law_random : D__law_random K mg := ⟨f__law_random, _, F__law_random, F__law_random.binds (ps := P__law_random) fun _ _ _ _ _ _ us hl => match us, hl with | [_, _], _ => rfl, PySem.W.mg_of X G a__law_random⟩
  have F__law_below := fun_mk (st := s__law_below) l__law_below c__law_below k__law_below
  let d__law_below : D__law_below K mg := ⟨f__law_below, _, F__law_below, F__law_below.binds (ps := P__law_below) fun _ _ _ _ _ _ us hl => match us, hl with | [_, _], _ => rfl, PySem.W.mg_of X G a__law_below⟩
  have F__law_pick := fun_mk (st := s__law_pick) l__law_pick c__law_pick k__law_pick
  let d__law_pick : D__law_pick K mg := ⟨f__law_pick, _, F__law_pick, F__law_pick.binds (ps := P__law_pick) fun _ _ _ _ _ _ us hl => match us, hl with | [_, _], _ => rfl, PySem.W.mg_of X G a__law_pick⟩
  have F__law_equal := fun_mk (st := s__law_equal) l__law_equal c__law_equal k__law_equal
  let d__law_equal : D__law_equal K mg := ⟨f__law_equal, _, F__law_equal, F__law_equal.binds (ps := P__law_equal) fun _ _ _ _ _ _ us hl => match us, hl with | [_, _], _ => rfl, PySem.W.mg_of X G a__law_equal⟩
  have F__law_powers := fun_mk (st := s__law_powers) l__law_powers c__law_powers k__law_powers
  let d__law_powers : D__law_powers K mg := ⟨f__law_powers, _, F__law_powers, F__law_powers.binds (ps := P__law_powers) fun _ _ _ _ _ _ us hl => match us, hl with | [_], _ => rfl, PySem.W.mg_of X G a__law_powers⟩
  have F__law_table := fun_mk (st := s__law_table) l__law_table c__law_table k__law_table
  let d__law_table : D__law_table K mg := ⟨f__law_table, _, F__law_table, F__law_table.binds (ps := P__law_table) fun _ _ _ _ _ _ us hl => match us, hl with | [_], _ => rfl, PySem.W.mg_of X G a__law_table⟩
  have F__law_told := fun_mk (st := s__law_told) l__law_told c__law_told k__law_told
  let d__law_told : D__law_told K mg := ⟨f__law_told, _, F__law_told, F__law_told.binds (ps := P__law_told) fun _ _ _ _ _ _ us hl => match us, hl with | [_, _], _ => rfl, PySem.W.mg_of X G a__law_told⟩
  have F_law := fun_mk (st := s_law) l_law c_law k_law
  let d_law : D_law K mg := ⟨fa, _, F_law, F_law.binds (ps := P_law) fun _ _ _ _ _ _ us hl => match us, hl with | [_], _ => rfl, PySem.W.mg_of X G a_law⟩
  let e_BadNumber : Ex K mg "BadNumber" := ⟨C_BadNumber, PySem.W.mg_of X G aC_BadNumber, xC_BadNumber, kC_BadNumber, bC_BadNumber, tC_BadNumber, exm_self bC_BadNumber iC_BadNumber tC_BadNumber sC_BadNumber⟩
  let e_BadCards : Ex K mg "BadCards" := ⟨C_BadCards, PySem.W.mg_of X G aC_BadCards, xC_BadCards, kC_BadCards, bC_BadCards, tC_BadCards, exm_self bC_BadCards iC_BadCards tC_BadCards sC_BadCards⟩
  have c_MOST_GREAT := PySem.W.mg_of X G n_MOST_GREAT
  have z_isinstance := PySem.W.mg_none_of X G y_isinstance
  have z_int := PySem.W.mg_none_of X G y_int
  have z_bool := PySem.W.mg_none_of X G y_bool
  have z_range := PySem.W.mg_none_of X G y_range
  have z_reversed := PySem.W.mg_none_of X G y_reversed
  have z_max := PySem.W.mg_none_of X G y_max
  have z_sorted := PySem.W.mg_none_of X G y_sorted
  have z_sum := PySem.W.mg_none_of X G y_sum
  have z_abs := PySem.W.mg_none_of X G y_abs
  have z_len := PySem.W.mg_none_of X G y_len
  have z_str := PySem.W.mg_none_of X G y_str
  have z_dict := PySem.W.mg_none_of X G y_dict
  have z_list := PySem.W.mg_none_of X G y_list
  have z_all := PySem.W.mg_none_of X G y_all
  have z_tuple := PySem.W.mg_none_of X G y_tuple
  have z_min := PySem.W.mg_none_of X G y_min
  obtain ⟨tk_MOST_TIMES, c_MOST_TIMES⟩ := u_MOST_TIMES
  obtain ⟨tk_MOST_PLAIN, c_MOST_PLAIN⟩ := u_MOST_PLAIN
  refine ⟨PySem.W.fnOf "law" "law" (defArgs s_law) (defBody s_law) (defScope s_law) .none kV_law dc_law pm_law an_law cd_law ct_law, fun s v => .of_eq rfl, fun base _ _ => ?_⟩
  have gF : FnOk l.prog w K mg base CX0 2 d_is_from.f d_is_from.fd P_is_from sp_is_from := ok_is_from d_is_from d_is_integer z_isinstance z_int z_bool
  have gN := ok_check_number d_check_number d_is_from e_BadNumber gF
  have gC := ok_check_cards d_check_cards d_is_from e_BadCards gF
  have gT : FnOk l.prog w K mg base CX0 2 d_table_to.f d_table_to.fd P_table_to sp_table_to := ok_table_to d_table_to d_primes_to z_range z_reversed z_max
  have gW : FnOk l.prog w K mg base CX0 1 d_powers_of.f d_powers_of.fd P_powers_of sp_powers_of := ok_powers_of d_powers_of z_sorted
  have gG := ok_greatest d_greatest d_check_cards d_table_to gC gT c_MOST_GREAT
  have gLC := ok_least_cards d_least_cards d_check_number d_powers_of gN gW c_MOST_PLAIN z_sum
  have gLF := ok_least_for d_least_for d_check_number d_table_to gN gT c_MOST_GREAT c_MOST_TIMES z_range
  have gR : FnOk l.prog w K mg base CX0 1 d__law_random.f d__law_random.fd P__law_random (sp_law_random K) := ok_law_random d__law_random z_int z_abs
  have gB : FnOk l.prog w K mg base CX0 1 d__law_below.f d__law_below.fd P__law_below sp_law_below := ok_law_below d__law_below z_int z_len
  have gP := ok_law_pick d__law_pick d__law_below gB z_len
  have gE : FnOk l.prog w K mg base CX0 1 d__law_equal.f d__law_equal.fd P__law_equal (sp_law_equal 0) := ok_law_equal d__law_equal ⟨z_isinstance, z_int, z_bool, z_str, z_dict, z_tuple, z_list, z_len, z_all, z_range⟩ 0
  have gQ : FnOk l.prog w K mg base CX0 1 d__law_powers.f d__law_powers.fd P__law_powers sp_law_powers := ok_law_powers d__law_powers z_range z_sorted
  have gU : FnOk l.prog w K mg base CX0 1 d__law_table.f d__law_table.fd P__law_table sp_law_table := ok_law_table d__law_table z_range z_list z_max
  have gO := ok_law_told d__law_told d_least_cards d_least_for e_BadNumber gLC gLF
  exact ok_law d_law ⟨z_range, z_min, z_sum, z_isinstance, z_int⟩ d__law_random d__law_below d__law_pick d__law_equal d__law_powers d__law_table d__law_told d_least_cards d_least_for d_greatest gR gB gP gE gQ gU gO gLC gLF gG
end LR
open PySem PySem.W PyProof.Rows
set_option maxHeartbeats 0 in
theorem PySem.Challenge.cw_longround_k04_whole_least_cards_holds : PySem.Challenge.rw_longround_k04_whole_least_cards.Holds := by
  w_on; o_law; k_head; (case hw => w_witness2)
  k_fill
  refine LR.law_walk (l := PySem.Challenge.rw_longround_k04_whole_least_cards) (k := 6) rfl rfl ⟨rfl, by decide, by decide⟩ (fun w h Y => PySem.W.kIn_of Y) ?F
  case F =>
    intro w mg fa h KX G XP hmg
    refine' LR.all_mk KX G hmg ?a_is_integer ?l_is_integer ?c_is_integer ?k_is_integer ?a_is_from ?l_is_from ?c_is_from ?k_is_from ?a_primes_to ?l_primes_to ?c_primes_to ?k_primes_to ?a_table_to ?l_table_to ?c_table_to ?k_table_to ?a_powers_of ?l_powers_of ?c_powers_of ?k_powers_of ?a_check_cards ?l_check_cards ?c_check_cards ?k_check_cards ?a_greatest ?l_greatest ?c_greatest ?k_greatest ?a_check_number ?l_check_number ?c_check_number ?k_check_number ?a_least_cards ?l_least_cards ?c_least_cards ?k_least_cards ?a_least_for ?l_least_for ?c_least_for ?k_least_for ?a__law_random ?l__law_random ?c__law_random ?k__law_random ?a__law_below ?l__law_below ?c__law_below ?k__law_below ?a__law_pick ?l__law_pick ?c__law_pick ?k__law_pick ?a__law_equal ?l__law_equal ?c__law_equal ?k__law_equal ?a__law_powers ?l__law_powers ?c__law_powers ?k__law_powers ?a__law_table ?l__law_table ?c__law_table ?k__law_table ?a__law_told ?l__law_told ?c__law_told ?k__law_told ?a_law ?l_law ?c_law ?k_law ?aC_BadNumber ?xC_BadNumber ?kC_BadNumber ?bC_BadNumber ?tC_BadNumber ?iC_BadNumber ?sC_BadNumber ?aC_BadCards ?xC_BadCards ?kC_BadCards ?bC_BadCards ?tC_BadCards ?iC_BadCards ?sC_BadCards ?n_MOST_GREAT ?y_isinstance ?y_int ?y_bool ?y_range ?y_reversed ?y_max ?y_sorted ?y_sum ?y_abs ?y_len ?y_str ?y_dict ?y_list ?y_all ?y_tuple ?y_min ?u_MOST_TIMES ?u_MOST_PLAIN
    (case a_is_integer => k_is)
    (case l_is_integer => k_is)
    (case c_is_integer => k_is)
    (case k_is_integer => k_is)
    (case a_is_from => k_is)
    (case l_is_from => k_is)
    (case c_is_from => k_is)
    (case k_is_from => k_is)
    (case a_primes_to => k_is)
    (case l_primes_to => k_is)
    (case c_primes_to => k_is)
    (case k_primes_to => k_is)
    (case a_table_to => k_is)
    (case l_table_to => k_is)
    (case c_table_to => k_is)
    (case k_table_to => k_is)
    (case a_powers_of => k_is)
    (case l_powers_of => k_is)
    (case c_powers_of => k_is)
    (case k_powers_of => k_is)
    (case a_check_cards => k_is)
    (case l_check_cards => k_is)
    (case c_check_cards => k_is)
    (case k_check_cards => k_is)
    (case a_greatest => k_is)
    (case l_greatest => k_is)
    (case c_greatest => k_is)
    (case k_greatest => k_is)
    (case a_check_number => k_is)
    (case l_check_number => k_is)
    (case c_check_number => k_is)
    (case k_check_number => k_is)
    (case a_least_cards => k_is)
    (case l_least_cards => k_is)
    (case c_least_cards => k_is)
    (case k_least_cards => k_is)
    (case a_least_for => k_is)
    (case l_least_for => k_is)
    (case c_least_for => k_is)
    (case k_least_for => k_is)
    (case a__law_random => k_is)
    (case l__law_random => k_is)
    (case c__law_random => k_is)
    (case k__law_random => k_is)
    (case a__law_below => k_is)
    (case l__law_below => k_is)
    (case c__law_below => k_is)
    (case k__law_below => k_is)
    (case a__law_pick => k_is)
    (case l__law_pick => k_is)
    (case c__law_pick => k_is)
    (case k__law_pick => k_is)
    (case a__law_equal => k_is)
    (case l__law_equal => k_is)
    (case c__law_equal => k_is)
    (case k__law_equal => k_is)
    (case a__law_powers => k_is)
    (case l__law_powers => k_is)
    (case c__law_powers => k_is)
    (case k__law_powers => k_is)
    (case a__law_table => k_is)
    (case l__law_table => k_is)
    (case c__law_table => k_is)
    (case k__law_table => k_is)
    (case a__law_told => k_is)
    (case l__law_told => k_is)
    (case c__law_told => k_is)
    (case k__law_told => k_is)
    (case a_law => k_is)
    (case l_law => k_is)
    (case c_law => k_is)
    (case k_law => k_is)
    (case aC_BadNumber => k_is)
    (case xC_BadNumber => k_exc)
    (case kC_BadNumber => k_is)
    (case bC_BadNumber => k_is)
    (case tC_BadNumber => k_is)
    (case iC_BadNumber => k_is)
    (case sC_BadNumber => first | rfl | k_is)
    (case aC_BadCards => k_is)
    (case xC_BadCards => k_exc)
    (case kC_BadCards => k_is)
    (case bC_BadCards => k_is)
    (case tC_BadCards => k_is)
    (case iC_BadCards => k_is)
    (case sC_BadCards => first | rfl | k_is)
    (case n_MOST_GREAT => k_is)
    (case y_isinstance => k_is)
    (case y_int => k_is)
    (case y_bool => k_is)
    (case y_range => k_is)
    (case y_reversed => k_is)
    (case y_max => k_is)
    (case y_sorted => k_is)
    (case y_sum => k_is)
    (case y_abs => k_is)
    (case y_len => k_is)
    (case y_str => k_is)
    (case y_dict => k_is)
    (case y_list => k_is)
    (case y_all => k_is)
    (case y_tuple => k_is)
    (case y_min => k_is)
    (case u_MOST_TIMES => exact LR.loose_int XP (by first | exact List.Mem.head _ | exact List.Mem.tail _ (List.Mem.head _) | exact List.Mem.tail _ (List.Mem.tail _ (List.Mem.head _))))
    (case u_MOST_PLAIN => exact LR.loose_int XP (by first | exact List.Mem.head _ | exact List.Mem.tail _ (List.Mem.head _) | exact List.Mem.tail _ (List.Mem.tail _ (List.Mem.head _))))
