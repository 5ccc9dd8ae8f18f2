import PyProof.Rows.All
import Wide.All
import OpenK.AllK
import Wide.FinOn
import HandS.ForMost
import HandS.Walk
import HandS.SetFor
import HandS.Strs
import HandS.SortInts
import PySem.Challenge.RW_bondroots_k14_whole_schedules
set_option linter.all false
/-! Dates by the number of the month: the mathematics, in plain Lean. -/
namespace BR

/-! ### leap years, lengths of months, starts of years -/
def isLeap (y : Int) : Bool := decide (y % 4 = 0) && (decide (y ≠ 1900) && decide (y ≠ 2100))
def lp (y : Int) : Int := if isLeap y = true then 1 else 0
def months : List Int := [31, 28, 31, 30, 31, 30, 31, 31, 30, 31, 30, 31]
def mlen (y m : Int) : Int := if m = 2 ∧ isLeap y = true then 29 else months.getD (m - 1).toNat 0
def lens (y : Int) : List Int := [31, 28 + lp y, 31, 30, 31, 30, 31, 31, 30, 31, 30, 31]
/-- the number of leap years from 1900 on, before y -/
def leaps (y : Int) : Int := (y - 1897) / 4 - (if 1900 < y then 1 else 0) - (if 2100 < y then 1 else 0)
def ys (y : Int) : Int := (y - 1900) * 365 + leaps y
/-- the days of a year ahead of a month -/
def cum (y m : Int) : Int := ([0, 31, 59, 90, 120, 151, 181, 212, 243, 273, 304, 334, 365] : List Int).getD (m - 1).toNat 0 + (if 2 < m then lp y else 0)
/-- the first day of the n-th month -/
def ms (n : Int) : Int := ys (n / 12) + cum (n / 12) (n % 12 + 1)
def ln (n : Int) : Int := mlen (n / 12) (n % 12 + 1)

theorem lp_cases (y : Int) : lp y = 0 ∨ lp y = 1 := by
  unfold lp
  split
  · exact .inr rfl
  · exact .inl rfl
theorem lp_eq (y : Int) : lp y = if y % 4 = 0 ∧ y ≠ 1900 ∧ y ≠ 2100 then 1 else 0 := by
  unfold lp isLeap
  simp only [Bool.and_eq_true, decide_eq_true_eq]
theorem ys_succ {y : Int} (h : 1900 ≤ y) : ys (y + 1) = ys y + 365 + lp y := by
  rw [lp_eq]
  unfold ys leaps
  repeat' split
  all_goals omega
theorem months12 {m : Int} (h1 : 1 ≤ m) (h2 : m ≤ 12) : m = 1 ∨ m = 2 ∨ m = 3 ∨ m = 4 ∨ m = 5 ∨ m = 6 ∨ m = 7 ∨ m = 8 ∨ m = 9 ∨ m = 10 ∨ m = 11 ∨ m = 12 := by omega
theorem cum_one (y : Int) : cum y 1 = 0 := by simp [cum]
theorem mlen_lens (y : Int) {m : Int} (h1 : 1 ≤ m) (h2 : m ≤ 12) : (lens y)[(m - 1).toNat]? = some (mlen y m) := by
  have hl := lp_cases y
  rcases months12 h1 h2 with e | e | e | e | e | e | e | e | e | e | e | e <;> subst e <;> simp [mlen, lens, months]
  unfold lp
  split <;> rfl
theorem mlen_two (y : Int) : mlen y 2 = 28 + lp y := by
  simp only [mlen, months, lp, true_and]
  split <;> simp_all
theorem mlen_ne (y : Int) {m : Int} (h : m ≠ 2) : mlen y m = months.getD (m - 1).toNat 0 := by
  unfold mlen
  rw [if_neg]
  exact fun q => h q.1
theorem cum_succ (y : Int) {m : Int} (h1 : 1 ≤ m) (h2 : m ≤ 12) : cum y (m + 1) = cum y m + mlen y m := by
  rcases months12 h1 h2 with e | e | e | e | e | e | e | e | e | e | e | e <;> subst e <;>
    first
    | (rw [mlen_two]; simp [cum]; done)
    | (rw [mlen_ne y (by decide)]; simp [cum, months]; done)
    | (rw [mlen_two]; simp [cum]; omega)
    | (rw [mlen_ne y (by decide)]; simp [cum, months]; omega)
theorem cum_end (y : Int) : cum y 13 = 365 + lp y := by simp [cum]
theorem mlen_bounds (y : Int) {m : Int} (h1 : 1 ≤ m) (h2 : m ≤ 12) : 28 ≤ mlen y m ∧ mlen y m ≤ 31 := by
  rcases months12 h1 h2 with e | e | e | e | e | e | e | e | e | e | e | e <;> subst e <;>
    first
    | (rw [mlen_ne y (by decide)]; simp [months]; done)
    | (rw [mlen_two]; have := lp_cases y; omega)
theorem ln_bounds (n : Int) : 28 ≤ ln n ∧ ln n ≤ 31 := mlen_bounds _ (by omega) (by omega)
theorem ms_succ {n : Int} (h : 22800 ≤ n) : ms (n + 1) = ms n + ln n := by
  unfold ms ln
  by_cases e : n % 12 = 11
  · have e1 : (n + 1) / 12 = n / 12 + 1 := by omega
    have e2 : (n + 1) % 12 + 1 = 1 := by omega
    have e3 : n % 12 + 1 = 12 := by omega
    rw [e1, e2, e3, cum_one, ys_succ (by omega)]
    have q := cum_succ (n / 12) (m := 12) (by omega) (by omega)
    rw [show (12 : Int) + 1 = 13 from rfl, cum_end] at q
    omega
  · have e1 : (n + 1) / 12 = n / 12 := by omega
    have e2 : (n + 1) % 12 + 1 = n % 12 + 1 + 1 := by omega
    rw [e1, e2, cum_succ _ (by omega) (by omega)]
    omega
theorem ms_step (k : Nat) : ∀ {n : Int}, 22800 ≤ n → ms n + 28 * k ≤ ms (n + k) := by
  induction k with
  | zero => intro n _; simp
  | succ k ih =>
    intro n h
    have q := ih h
    have r := ms_succ (n := n + k) (by omega)
    have b := ln_bounds (n + k)
    rw [show n + ((k + 1 : Nat) : Int) = n + k + 1 by omega, r]
    omega
theorem ms_mono {n n' : Int} (h : 22800 ≤ n) (h' : n ≤ n') : ms n + 28 * (n' - n) ≤ ms n' := by
  have q := ms_step (n' - n).toNat h
  rw [show n + ((n' - n).toNat : Int) = n' by omega] at q
  omega
theorem ms_below (k : Nat) : ∀ {n : Int}, 22800 ≤ n → ms (n + k) ≤ ms n + 31 * k := by
  induction k with
  | zero => intro n _; simp
  | succ k ih =>
    intro n h
    have q := ih h
    have r := ms_succ (n := n + k) (by omega)
    have b := ln_bounds (n + k)
    rw [show n + ((k + 1 : Nat) : Int) = n + k + 1 by omega, r]
    omega
theorem ms_first : ms 22800 = 0 := by decide
theorem ms_last : ms 26400 = 109573 := by decide
/-- a day has a date -/
theorem date_ex : ∀ (t : Nat) {D : Int}, 0 ≤ D → D < ms (22800 + t) → ∃ n d : Int, 22800 ≤ n ∧ n < 22800 + t ∧ 1 ≤ d ∧ d ≤ ln n ∧ D = ms n + d - 1
  | 0, D, h0, h => by
    rw [show (22800 : Int) + ((0 : Nat) : Int) = 22800 from rfl, ms_first] at h
    omega
  | t + 1, D, h0, h => by
    by_cases hl : D < ms (22800 + t)
    · obtain ⟨n, d, h1, h2, h3⟩ := date_ex t h0 hl
      exact ⟨n, d, h1, by omega, h3⟩
    · refine ⟨22800 + t, D - ms (22800 + t) + 1, by omega, by omega, by omega, ?_, by omega⟩
      have r := ms_succ (n := 22800 + t) (by omega)
      rw [show (22800 : Int) + ((t + 1 : Nat) : Int) = 22800 + t + 1 by omega, r] at h
      omega
theorem date_any {D : Int} (h0 : 0 ≤ D) (h : D < 109573) : ∃ n d : Int, 22800 ≤ n ∧ n < 26400 ∧ 1 ≤ d ∧ d ≤ ln n ∧ D = ms n + d - 1 := by
  have q := date_ex 3600 h0 (by rw [show (22800 : Int) + ((3600 : Nat) : Int) = 26400 from rfl, ms_last]; exact h)
  exact q
/-- days are in order as their months are -/
theorem ms_lt_of {n n' d d' : Int} (h : 22800 ≤ n) (hn : n < n') (hd : d ≤ ln n) (hd' : 1 ≤ d') : ms n + d - 1 < ms n' + d' - 1 := by
  have q := ms_mono (n := n + 1) (n' := n') (by omega) (by omega)
  have r := ms_succ h
  omega
theorem mo_of_lt {n n' d d' : Int} (h : 22800 ≤ n') (hd' : d' ≤ ln n') (hd : 1 ≤ d) (q : ms n + d - 1 ≤ ms n' + d' - 1) : n ≤ n' := by
  by_cases e : n ≤ n'
  · exact e
  · have := ms_lt_of (n := n') (n' := n) (d := d') (d' := d) h (by omega) hd' hd
    omega
/-- the years' starts against a day: what date_of's first loop asks -/
theorem ys_eq (y : Int) : ys y = ms (12 * y) := by
  unfold ms
  rw [show 12 * y / 12 = y by omega, show 12 * y % 12 + 1 = 1 by omega, cum_one]
  omega
theorem ys_ge {y : Int} (h : 1900 ≤ y) : 365 * (y - 1900) ≤ ys y ∧ ys y ≤ 366 * (y - 1900) := by
  unfold ys leaps
  repeat' split
  all_goals omega
end BR

set_option linter.all false
/-! Schedules: the mathematics, in plain Lean. -/
namespace BR
/-- the day of the month that add_months gives -/
def dd (n d : Int) (last : Bool) : Int := if last = true then ln n else if ln n < d then ln n else d
def pt (n d : Int) (last : Bool) : Int := ms n + dd n d last - 1
theorem dd_bounds {n d : Int} (h : 1 ≤ d) (last : Bool) : 1 ≤ dd n d last ∧ dd n d last ≤ ln n := by
  have b := ln_bounds n
  unfold dd
  split
  · omega
  · split <;> omega
theorem dd_gap {n d : Int} (h : 1 ≤ d) (h' : 22800 ≤ n) (last : Bool) : pt n d last + 28 ≤ pt (n + 1) d last := by
  have b := ln_bounds n
  have b' := ln_bounds (n + 1)
  have r := ms_succ h'
  unfold pt dd
  split
  · omega
  · split <;> split <;> omega
theorem pt_gapN {d : Int} (h : 1 ≤ d) (last : Bool) (k : Nat) : ∀ {n : Int}, 22800 ≤ n → pt n d last + 28 * k ≤ pt (n + k) d last := by
  induction k with
  | zero => intro n _; simp
  | succ k ih =>
    intro n h'
    have q := ih h'
    have r := dd_gap h (n := n + k) (by omega) last
    rw [show n + ((k + 1 : Nat) : Int) = n + k + 1 by omega]
    omega
theorem pt_gap {n n' d : Int} (h : 1 ≤ d) (h1 : 22800 ≤ n) (h2 : n ≤ n') (last : Bool) : pt n d last + 28 * (n' - n) ≤ pt n' d last := by
  have q := pt_gapN h last (n' - n).toNat h1
  rw [show n + ((n' - n).toNat : Int) = n' by omega] at q
  omega
theorem pt_lt {n n' d : Int} (h : 1 ≤ d) (h1 : 22800 ≤ n) (h2 : n < n') (last : Bool) : pt n d last < pt n' d last := by
  have q := pt_gap h h1 (Int.le_of_lt h2) last
  omega
theorem pt_self {n d : Int} {last : Bool} (h : d ≤ ln n) (hl : last = true → d = ln n) : pt n d last = ms n + d - 1 := by
  unfold pt dd
  split
  · rename_i e
    rw [hl e]
  · rw [if_neg (by omega)]
theorem pt_small {n d : Int} (h : d ≤ 28) : pt n d false = ms n + d - 1 := by
  have b := ln_bounds n
  exact pt_self (by omega) (fun e => by cases e)
/-- a day in a month of number n: what its bounds say of n -/
theorem pt_month {n N d : Int} {last : Bool} (h1 : 1 ≤ d) (hN : 22800 ≤ N) (h : pt n d last ≤ ms N + 30) : n ≤ N + 1 := by
  by_cases e : n ≤ N + 1
  · exact e
  · have b := dd_bounds (n := n) h1 last
    have m := ms_mono (n := N) (n' := n) hN (by omega)
    unfold pt at h
    omega
theorem pt_month' {n N d : Int} {last : Bool} (h1 : 1 ≤ d) (hn : 22800 ≤ n) (h : ms N ≤ pt n d last) : N ≤ n := by
  by_cases e : N ≤ n
  · exact e
  · have b := dd_bounds (n := n) h1 last
    have r := ms_succ hn
    have m := ms_mono (n := n + 1) (n' := N) (by omega) (by omega)
    unfold pt at h
    omega

/-! ### the days by steps -/
def past (step day other : Int) : Bool := if decide (0 < step) = true then decide (other < day) else decide (day < other)
theorem past_fwd {step day other : Int} (h : 0 < step) : past step day other = decide (other < day) := by
  unfold past
  rw [decide_eq_true h]
  rfl
theorem past_bwd {step day other : Int} (h : step < 0) : past step day other = decide (day < other) := by
  unfold past
  rw [decide_eq_false (by omega)]
  rfl
def X (n d step : Int) (last : Bool) (k : Int) : Int := pt (n + step * k) d last
def fnd (n d step : Int) (last : Bool) (j : Nat) : List Int := (List.range (j + 1)).map fun (k : Nat) => X n d step last k
theorem fnd_zero (n d step : Int) (last : Bool) : fnd n d step last 0 = [pt n d last] := by
  simp [fnd, X]
theorem fnd_succ (n d step : Int) (last : Bool) (j : Nat) : fnd n d step last (j + 1) = fnd n d step last j ++ [X n d step last ((j : Int) + 1)] := by
  unfold fnd
  rw [List.range_succ, List.map_append]
  rfl
theorem fnd_len (n d step : Int) (last : Bool) (j : Nat) : (fnd n d step last j).length = j + 1 := by
  unfold fnd
  rw [List.length_map, List.length_range]
theorem fnd_at (n d step : Int) (last : Bool) (j : Nat) {k : Nat} (h : k ≤ j) : (fnd n d step last j)[k]? = some (X n d step last k) := by
  unfold fnd
  rw [List.getElem?_map, List.getElem?_range (by omega)]
  rfl
theorem fnd_last (n d step : Int) (last : Bool) (j : Nat) : (fnd n d step last j).getLast? = some (X n d step last j) := by
  rw [List.getLast?_eq_getElem?, fnd_len]
  exact fnd_at n d step last j (Nat.le_refl _)
/-- what stands when the steps end at j -/
structure Fnd (n d step : Int) (last : Bool) (other : Int) (j : Nat) : Prop where
  lo : 22800 ≤ n + step * j
  no : ∀ k : Nat, k ≤ j → past step (X n d step last k) other = false
  stop : X n d step last j = other ∨ past step (X n d step last ((j : Int) + 1)) other = true
/-- the general fitness of a start -/
structure Fit (n d step : Int) (last : Bool) (other : Int) : Prop where
  nz : step ≠ 0
  s12 : -12 ≤ step ∧ step ≤ 12
  d1 : 1 ≤ d
  d2 : d ≤ ln n
  l : last = true → d = ln n
  n1 : 22900 ≤ n
  n2 : n ≤ 26300
  o1 : ms 22900 ≤ other
  o2 : other ≤ ms 26300 + 30
  fw : 0 < step → ms n + d - 1 < other ∧ other - (ms n + d - 1) ≤ 1680 * step
  bw : step < 0 → other < ms n + d - 1 ∧ (ms n + d - 1) - other ≤ 1680 * (-step)
theorem le_mul_nat {step : Int} {a b : Nat} (h : 0 < step) (hab : a ≤ b) : step * (a : Int) ≤ step * (b : Int) :=
  Int.mul_le_mul_of_nonneg_left (by omega) (by omega)
theorem lt_mul_nat {step : Int} {a b : Nat} (h : 0 < step) (hab : a < b) : step * (a : Int) < step * (b : Int) :=
  Int.mul_lt_mul_of_pos_left (by omega) h
theorem ge_mul_nat {step : Int} {a b : Nat} (h : step < 0) (hab : a ≤ b) : step * (b : Int) ≤ step * (a : Int) := by
  have q := le_mul_nat (step := -step) (by omega) hab
  rw [Int.neg_mul, Int.neg_mul] at q
  omega
theorem gt_mul_nat {step : Int} {a b : Nat} (h : step < 0) (hab : a < b) : step * (b : Int) < step * (a : Int) := by
  have q := lt_mul_nat (step := -step) (by omega) hab
  rw [Int.neg_mul, Int.neg_mul] at q
  omega
section
variable {n d step other : Int} {last : Bool}
theorem X_zero (F : Fit n d step last other) : X n d step last 0 = ms n + d - 1 := by
  unfold X
  rw [Int.mul_zero, Int.add_zero]
  exact pt_self F.d2 F.l
theorem X_fwd (F : Fit n d step last other) (h : 0 < step) {a b : Nat} (hab : a < b) : X n d step last a < X n d step last b := by
  unfold X
  have q := lt_mul_nat h hab
  have q0 := le_mul_nat h (Nat.zero_le a)
  have := F.n1
  exact pt_lt F.d1 (by simp at q0; omega) (by omega) last
theorem X_bwd (F : Fit n d step last other) (h : step < 0) {a b : Nat} (hab : a < b) (hb : 22800 ≤ n + step * b) : X n d step last b < X n d step last a := by
  unfold X
  have q := gt_mul_nat h hab
  exact pt_lt F.d1 hb (by omega) last
/-- the months of the steps that are not past the other day -/
theorem X_months_fwd (F : Fit n d step last other) (h : 0 < step) {k : Nat} (hk : past step (X n d step last k) other = false) : n + step * k ≤ 26301 := by
  rw [past_fwd h] at hk
  have hk := of_decide_eq_false hk
  have o2 := F.o2
  have q0 := le_mul_nat h (Nat.zero_le k)
  unfold X at hk
  exact pt_month (N := 26300) (last := last) F.d1 (by omega) (by omega)
theorem X_months_bwd (F : Fit n d step last other) (h : step < 0) {k : Nat} (lo : 22800 ≤ n + step * k) (hk : past step (X n d step last k) other = false) : 22900 ≤ n + step * k := by
  rw [past_bwd h] at hk
  have hk := of_decide_eq_false hk
  have o1 := F.o1
  unfold X at hk
  exact pt_month' (N := 22900) (last := last) F.d1 lo (by omega)
theorem mul_succ_i (step : Int) (k : Nat) : step * ((k : Int) + 1) = step * (k : Int) + step := by
  rw [Int.mul_add, Int.mul_one]
/-- at a step that is not past the other day the next one lies in the years -/
theorem X_next (F : Fit n d step last other) {k : Nat} (lo : 22800 ≤ n + step * k) (hk : past step (X n d step last k) other = false) : 22800 ≤ n + step * ((k : Int) + 1) ∧ n + step * ((k : Int) + 1) < 26400 := by
  have s := F.s12
  rw [mul_succ_i]
  rcases Int.lt_or_gt_of_ne F.nz with h | h
  · have q := X_months_bwd F h lo hk
    have q0 := ge_mul_nat h (Nat.zero_le k)
    have := F.n2
    simp at q0
    omega
  · have q := X_months_fwd F h hk
    have q0 := le_mul_nat h (Nat.zero_le k)
    have := F.n1
    simp at q0
    omega
/-- how many steps are not past -/
theorem X_few (F : Fit n d step last other) {k : Nat} (lo : 22800 ≤ n + step * k) (hk : past step (X n d step last k) other = false) : k ≤ 60 := by
  have x0 := X_zero F
  unfold X at x0 hk
  rw [Int.mul_zero, Int.add_zero] at x0
  rcases Int.lt_or_gt_of_ne F.nz with h | h
  · rw [past_bwd h] at hk
    have hk := of_decide_eq_false hk
    have b := (F.bw h).2
    have q0 := ge_mul_nat h (Nat.zero_le k)
    simp at q0
    have g := pt_gap F.d1 lo (n' := n) (by omega) last
    have e : n - (n + step * (k : Int)) = -step * (k : Int) := by
      rw [Int.neg_mul]
      omega
    rw [e] at g
    by_cases z : k ≤ 60
    · exact z
    · have w := le_mul_nat (step := -step) (a := 61) (b := k) (by omega) (by omega)
      omega
  · rw [past_fwd h] at hk
    have hk := of_decide_eq_false hk
    have b := (F.fw h).2
    have q0 := le_mul_nat h (Nat.zero_le k)
    simp at q0
    have n1 := F.n1
    have g := pt_gap F.d1 (n := n) (n' := n + step * k) (by omega) (by omega) last
    have e : (n + step * (k : Int)) - n = step * (k : Int) := by omega
    rw [e] at g
    by_cases z : k ≤ 60
    · exact z
    · have w := le_mul_nat (step := step) (a := 61) (b := k) h (by omega)
      omega
/-- the steps end at one place alone -/
theorem Fnd.one (F : Fit n d step last other) {i j : Nat} (a : Fnd n d step last other i) (b : Fnd n d step last other j) : i = j := by
  have half : ∀ {i j : Nat}, Fnd n d step last other i → Fnd n d step last other j → ¬ i < j := by
    intro i j a b hij
    have np : past step (X n d step last ((i : Int) + 1)) other = false := b.no (i + 1) (by omega)
    have st := a.stop
    rw [np] at st
    have e : X n d step last i = other := by
      rcases st with e | e
      · exact e
      · cases e
    rcases Int.lt_or_gt_of_ne F.nz with h | h
    · have q := ge_mul_nat h (a := i + 1) (b := j) (by omega)
      have lo := b.lo
      have w := X_bwd F h (a := i) (b := i + 1) (by omega) (by omega)
      rw [past_bwd h] at np
      have np := of_decide_eq_false np
      have w : X n d step last ((i : Int) + 1) < X n d step last i := w
      omega
    · have w := X_fwd F h (a := i) (b := i + 1) (by omega)
      rw [past_fwd h] at np
      have np := of_decide_eq_false np
      have w : X n d step last i < X n d step last ((i : Int) + 1) := w
      omega
  have h1 := half a b
  have h2 := half b a
  omega
theorem Fnd.few (F : Fit n d step last other) {j : Nat} (a : Fnd n d step last other j) : j ≤ 60 := X_few F a.lo (a.no j (Nat.le_refl _))
end
/-! ### what schedule makes of the steps -/
def fin (found : List Int) (other : Int) (long : Bool) : List Int :=
  if found.getLast? = some other then found else (if long = true ∧ 1 < found.length then found.dropLast else found) ++ [other]
/-- one way: by a step -/
structure Sch (n d step : Int) (last : Bool) (other : Int) (long : Bool) (xs : List Int) : Prop where
  ex : ∃ j, Fnd n d step last other j ∧ xs.Perm (fin (fnd n d step last j) other long)
  up : xs.Pairwise (· ≤ ·)
theorem sorted_up {xs l : List Int} (hl : l.Pairwise (· < ·)) (hp : xs.Perm l) (hx : xs.Pairwise (· ≤ ·)) : xs = l :=
  List.Perm.eq_of_pairwise (fun a b _ _ h1 h2 => Int.le_antisymm h1 h2) hx (hl.imp fun h => Int.le_of_lt h) hp
theorem sorted_down {xs l : List Int} (hl : l.Pairwise (· > ·)) (hp : xs.Perm l) (hx : xs.Pairwise (· ≤ ·)) : xs = l.reverse :=
  sorted_up (List.pairwise_reverse.mpr (hl.imp fun h => h)) (hp.trans (List.reverse_perm l).symm) hx
end BR

set_option linter.all false
/-! What the law asks of schedules: plain Lean. -/
namespace BR
section
variable {n d step other : Int} {last : Bool}
theorem fnd_mono_fwd (F : Fit n d step last other) (h : 0 < step) (j : Nat) : (fnd n d step last j).Pairwise (· < ·) := by
  unfold fnd
  rw [List.pairwise_map]
  exact List.pairwise_lt_range.imp fun q => X_fwd F h q
theorem fnd_mono_bwd (F : Fit n d step last other) (h : step < 0) {j : Nat} (lo : 22800 ≤ n + step * j) : (fnd n d step last j).Pairwise (· > ·) := by
  unfold fnd
  rw [List.pairwise_map]
  refine List.Pairwise.imp_of_mem ?_ List.pairwise_lt_range
  intro a b ha hb q
  have hb := List.mem_range.mp hb
  have g := ge_mul_nat h (a := b) (b := j) (by omega)
  exact X_bwd F h q (by omega)
theorem fnd_mem {j : Nat} {x : Int} (h : x ∈ fnd n d step last j) : ∃ k : Nat, k ≤ j ∧ x = X n d step last k := by
  unfold fnd at h
  obtain ⟨k, hk, e⟩ := List.mem_map.mp h
  exact ⟨k, by have := List.mem_range.mp hk; omega, e.symm⟩
theorem fnd_mem_of {j k : Nat} (h : k ≤ j) : X n d step last k ∈ fnd n d step last j := by
  unfold fnd
  exact List.mem_map.mpr ⟨k, List.mem_range.mpr (by omega), rfl⟩
/-- the four shapes of fin -/
theorem fin_met {j : Nat} (e : X n d step last j = other) (long : Bool) : fin (fnd n d step last j) other long = fnd n d step last j := by
  unfold fin
  rw [if_pos (by rw [fnd_last, e])]
theorem fin_short {j : Nat} (e : X n d step last j ≠ other) : fin (fnd n d step last j) other false = fnd n d step last j ++ [other] := by
  unfold fin
  rw [if_neg (by rw [fnd_last]; intro q; exact e (Option.some.inj q)), if_neg (by intro q; cases q.1)]
theorem fin_long_zero (e : X n d step last (0 : Nat) ≠ other) : fin (fnd n d step last 0) other true = fnd n d step last 0 ++ [other] := by
  unfold fin
  rw [if_neg (by rw [fnd_last]; intro q; exact e (Option.some.inj q)), if_neg (by rw [fnd_len]; intro q; omega)]
theorem fin_long_succ {i : Nat} (e : X n d step last ((i + 1 : Nat) : Int) ≠ other) : fin (fnd n d step last (i + 1)) other true = fnd n d step last i ++ [other] := by
  unfold fin
  rw [if_neg (by rw [fnd_last]; intro q; exact e (Option.some.inj q)), if_pos ⟨rfl, by rw [fnd_len]; omega⟩, fnd_succ, List.dropLast_concat]
theorem not_past_fwd (h : 0 < step) {x : Int} (hp : past step x other = false) : x ≤ other := by
  rw [past_fwd h] at hp
  have := of_decide_eq_false hp
  omega
theorem not_past_bwd (h : step < 0) {x : Int} (hp : past step x other = false) : other ≤ x := by
  rw [past_bwd h] at hp
  have := of_decide_eq_false hp
  omega
theorem app_fwd (F : Fit n d step last other) (h : 0 < step) {i j : Nat} (hij : i ≤ j) (a : Fnd n d step last other j) (e : X n d step last j ≠ other) : (fnd n d step last i ++ [other]).Pairwise (· < ·) := by
  rw [List.pairwise_append]
  refine ⟨fnd_mono_fwd F h i, List.pairwise_singleton _ _, fun x hx y hy => ?_⟩
  rw [List.mem_singleton.mp hy]
  obtain ⟨k, hk, rfl⟩ := fnd_mem hx
  have q := not_past_fwd h (a.no j (Nat.le_refl _))
  by_cases hkj : k = j
  · subst hkj
    omega
  · have := X_fwd F h (a := k) (b := j) (by omega)
    omega
theorem app_bwd (F : Fit n d step last other) (h : step < 0) {i j : Nat} (hij : i ≤ j) (a : Fnd n d step last other j) (e : X n d step last j ≠ other) : (fnd n d step last i ++ [other]).Pairwise (· > ·) := by
  rw [List.pairwise_append]
  have lo := a.lo
  refine ⟨fnd_mono_bwd F h (by have := ge_mul_nat h hij; omega), List.pairwise_singleton _ _, fun x hx y hy => ?_⟩
  rw [List.mem_singleton.mp hy]
  obtain ⟨k, hk, rfl⟩ := fnd_mem hx
  have q := not_past_bwd h (a.no j (Nat.le_refl _))
  by_cases hkj : k = j
  · subst hkj
    omega
  · have := X_bwd F h (a := k) (b := j) (by omega) lo
    omega
theorem fin_fwd (F : Fit n d step last other) (h : 0 < step) {j : Nat} (a : Fnd n d step last other j) (long : Bool) : (fin (fnd n d step last j) other long).Pairwise (· < ·) := by
  by_cases e : X n d step last j = other
  · rw [fin_met e]
    exact fnd_mono_fwd F h j
  · cases long with
    | false =>
      rw [fin_short e]
      exact app_fwd F h (Nat.le_refl _) a e
    | true =>
      cases j with
      | zero =>
        rw [fin_long_zero e]
        exact app_fwd F h (Nat.le_refl _) a e
      | succ i =>
        rw [fin_long_succ e]
        exact app_fwd F h (Nat.le_succ i) a e
theorem fin_bwd (F : Fit n d step last other) (h : step < 0) {j : Nat} (a : Fnd n d step last other j) (long : Bool) : (fin (fnd n d step last j) other long).Pairwise (· > ·) := by
  by_cases e : X n d step last j = other
  · rw [fin_met e]
    exact fnd_mono_bwd F h a.lo
  · cases long with
    | false =>
      rw [fin_short e]
      exact app_bwd F h (Nat.le_refl _) a e
    | true =>
      cases j with
      | zero =>
        rw [fin_long_zero e]
        exact app_bwd F h (Nat.le_refl _) a e
      | succ i =>
        rw [fin_long_succ e]
        exact app_bwd F h (Nat.le_succ i) a e
end
/-- the short and the long way, from a to b -/
structure Core (a b : Int) (z y : List Int) : Prop where
  z0 : z.head? = some a
  z1 : z.getLast? = some b
  y0 : y.head? = some a
  y1 : y.getLast? = some b
  sub : ∀ x ∈ y, x ∈ z
  len : z.length = y.length ∨ z.length = y.length + 1
  two : z.length = 2 → y = z
  most : z.length ≤ 62
section
variable {n d step other : Int} {last : Bool}
theorem fnd_head (j : Nat) : (fnd n d step last j).head? = some (X n d step last 0) := by
  rw [List.head?_eq_getElem?]
  exact fnd_at n d step last j (Nat.zero_le _)
theorem app_head (j : Nat) : (fnd n d step last j ++ [other]).head? = some (X n d step last 0) := by
  rw [List.head?_append, fnd_head]
  rfl
theorem core_of (F : Fit n d step last other) {j : Nat} (a : Fnd n d step last other j) : Core (ms n + d - 1) other (fin (fnd n d step last j) other false) (fin (fnd n d step last j) other true) := by
  have x0 := X_zero F
  have few := a.few F
  by_cases e : X n d step last j = other
  · rw [fin_met e, fin_met e]
    have h0 : (fnd n d step last j).head? = some (ms n + d - 1) := by rw [fnd_head, x0]
    have h1 : (fnd n d step last j).getLast? = some other := by rw [fnd_last, e]
    exact ⟨h0, h1, h0, h1, fun x h => h, .inl rfl, fun _ => rfl, by rw [fnd_len]; omega⟩
  · rw [fin_short e]
    have h0 : ∀ i, (fnd n d step last i ++ [other]).head? = some (ms n + d - 1) := fun i => by rw [app_head, x0]
    have h1 : ∀ i, (fnd n d step last i ++ [other]).getLast? = some other := fun i => by rw [List.getLast?_concat]
    have hl : ∀ i, (fnd n d step last i ++ [other]).length = i + 2 := fun i => by rw [List.length_append, fnd_len]; rfl
    cases j with
    | zero =>
      rw [fin_long_zero e]
      exact ⟨h0 _, h1 _, h0 _, h1 _, fun x h => h, .inl rfl, fun _ => rfl, by rw [hl]; omega⟩
    | succ i =>
      rw [fin_long_succ e]
      refine ⟨h0 _, h1 _, h0 _, h1 _, fun x h => ?_, .inr (by rw [hl, hl]), fun q => ?_, by rw [hl]; omega⟩
      · rw [fnd_succ]
        rcases List.mem_append.mp h with h | h
        · exact List.mem_append_left _ (List.mem_append_left _ h)
        · exact List.mem_append_right _ h
      · rw [hl] at q
        omega
end
/-- what the law asks of the short schedule and of the long one -/
structure Stub (a b : Int) (xs ys : List Int) : Prop where
  inc : xs.Pairwise (· < ·)
  core : Core a b xs ys
theorem Core.rev {a b : Int} {z y : List Int} (c : Core a b z y) : Core b a z.reverse y.reverse := by
  refine ⟨?_, ?_, ?_, ?_, fun x h => ?_, ?_, fun h => ?_, ?_⟩
  · rw [List.head?_reverse]; exact c.z1
  · rw [List.getLast?_reverse]; exact c.z0
  · rw [List.head?_reverse]; exact c.y1
  · rw [List.getLast?_reverse]; exact c.y0
  · exact List.mem_reverse.mpr (c.sub x (List.mem_reverse.mp h))
  · rw [List.length_reverse, List.length_reverse]; exact c.len
  · rw [List.length_reverse] at h; rw [c.two h]
  · rw [List.length_reverse]; exact c.most
section
variable {n d step other : Int} {last : Bool} {xs ys : List Int}
theorem stub_fwd (F : Fit n d step last other) (h : 0 < step) (S : Sch n d step last other false xs) (L : Sch n d step last other true ys) : Stub (ms n + d - 1) other xs ys := by
  obtain ⟨⟨j, a, p⟩, u⟩ := S
  obtain ⟨⟨i, b, q⟩, v⟩ := L
  obtain rfl := a.one F b
  have e1 := sorted_up (fin_fwd F h a false) p u
  have e2 := sorted_up (fin_fwd F h a true) q v
  rw [e1, e2]
  exact ⟨fin_fwd F h a false, core_of F a⟩
theorem stub_bwd (F : Fit n d step last other) (h : step < 0) (S : Sch n d step last other false xs) (L : Sch n d step last other true ys) : Stub other (ms n + d - 1) xs ys := by
  obtain ⟨⟨j, a, p⟩, u⟩ := S
  obtain ⟨⟨i, b, q⟩, v⟩ := L
  obtain rfl := a.one F b
  have e1 := sorted_down (fin_bwd F h a false) p u
  have e2 := sorted_down (fin_bwd F h a true) q v
  rw [e1, e2]
  exact ⟨List.pairwise_reverse.mpr ((fin_bwd F h a false).imp fun h => h), (core_of F a).rev⟩
end
/-! ### schedules that meet the other day -/
/-- the days that are due: p steps of m months from the n-th month's day d -/
def due (n d m : Int) (p : Nat) : List Int := (List.range (p + 1)).map fun (k : Nat) => pt (n + m * (k : Int)) d false
theorem fnd_due (n d m : Int) (p : Nat) : fnd n d m false p = due n d m p := rfl
section
variable {n d m : Int} {p : Nat}
theorem Sch.mono {n d step other : Int} {last : Bool} {long : Bool} {xs : List Int} {j : Nat} (F : Fit n d step last other) (a : Fnd n d step last other j) (e : X n d step last j = other) (S : Sch n d step last other long xs) :
    xs.Perm (fnd n d step last j) := by
  obtain ⟨⟨i, b, q⟩, v⟩ := S
  obtain rfl := a.one F b
  rw [fin_met e] at q
  exact q
theorem met_fwd {long : Bool} {xs : List Int} (hm : 0 < m) (hd : d ≤ 27) (F : Fit n d m false (pt (n + m * p) d false)) (S : Sch n d m false (pt (n + m * p) d false) long xs) : xs = due n d m p := by
  have n1 := F.n1
  have a : Fnd n d m false (pt (n + m * p) d false) p := by
    refine ⟨?_, fun k hk => ?_, .inl rfl⟩
    · have := le_mul_nat hm (Nat.zero_le p)
      simp at this
      omega
    · rw [past_fwd hm]
      refine decide_eq_false ?_
      by_cases e : k = p
      · subst e
        unfold X
        omega
      · have := X_fwd F hm (a := k) (b := p) (by omega)
        unfold X at this ⊢
        omega
  exact sorted_up (fnd_mono_fwd F hm p) (S.mono F a rfl) S.up
theorem back_at {k : Nat} (hk : k ≤ p) : X (n + m * p) d (-m) false k = X n d m false ((p - k : Nat) : Int) := by
  unfold X
  congr 1
  rw [Int.neg_mul, show ((p - k : Nat) : Int) = (p : Int) - k by omega, Int.mul_sub]
  omega
theorem met_bwd {long : Bool} {xs : List Int} (hm : 0 < m) (hd : d ≤ 27) (hn : 22900 ≤ n) (F : Fit (n + m * p) d (-m) false (pt n d false)) (S : Sch (n + m * p) d (-m) false (pt n d false) long xs) (D : (due n d m p).Pairwise (· < ·)) : xs = due n d m p := by
  have e0 : X (n + m * p) d (-m) false p = pt n d false := by
    rw [back_at (Nat.le_refl p), Nat.sub_self]
    unfold X
    rw [show ((0 : Nat) : Int) = 0 from rfl, Int.mul_zero, Int.add_zero]
  have lo : 22800 ≤ (n + m * p) + -m * (p : Int) := by
    rw [Int.neg_mul]
    omega
  have a : Fnd (n + m * p) d (-m) false (pt n d false) p := by
    refine ⟨lo, fun k hk => ?_, .inl e0⟩
    rw [past_bwd (by omega)]
    refine decide_eq_false ?_
    by_cases e : k = p
    · subst e
      omega
    · have := X_bwd F (by omega) (a := k) (b := p) (by omega) lo
      omega
  have P := S.mono F a e0
  refine sorted_up D (P.trans ?_) S.up
  have nd1 : (fnd (n + m * p) d (-m) false p).Nodup := (fnd_mono_bwd F (by omega) lo).imp fun h => by omega
  have nd2 : (due n d m p).Nodup := D.imp fun h => by omega
  rw [List.perm_ext_iff_of_nodup nd1 nd2]
  intro x
  rw [← fnd_due]
  constructor
  · intro h
    obtain ⟨k, hk, rfl⟩ := fnd_mem h
    rw [back_at hk]
    exact fnd_mem_of (by omega)
  · intro h
    obtain ⟨k, hk, rfl⟩ := fnd_mem h
    have := back_at (n := n) (m := m) (d := d) (p := p) (k := p - k) (by omega)
    rw [show p - (p - k) = k by omega] at this
    rw [← this]
    exact fnd_mem_of (by omega)
end
/-! ### fractions -/
theorem gcd_30 (a : Int) : (Int.gcd (30 * a) 360 : Int) = 30 * (Int.gcd a 12 : Int) := by
  have q := Int.gcd_mul_left 30 a 12
  rw [show (30 : Int) * 12 = 360 from rfl] at q
  rw [q]
  simp
theorem frac_30 (a : Int) : 30 * a / (Int.gcd (30 * a) 360 : Int) = a / (Int.gcd a 12 : Int) ∧ 360 / (Int.gcd (30 * a) 360 : Int) = 12 / (Int.gcd a 12 : Int) := by
  rw [gcd_30]
  exact ⟨Int.mul_ediv_mul_of_pos _ _ (by decide), Int.mul_ediv_mul_of_pos (a := 30) 12 _ (by decide)⟩
theorem gcd_step {a b : Int} (h : 0 < b) : Int.gcd b (a % b) = Int.gcd a b := by
  rw [Int.gcd_comm a b]
  rw [Int.emod_def, Int.gcd_sub_mul_left_right]
theorem gcd_end {a : Int} (h : 0 ≤ a) : (Int.gcd a 0 : Int) = a := by
  rw [Int.gcd_zero_right]
  omega
theorem gcd_le {a b : Int} (h : 0 < b) : 0 < (Int.gcd a b : Int) ∧ (Int.gcd a b : Int) ≤ b := by
  have h1 : (Int.gcd a b : Int) ∣ b := Int.gcd_dvd_right ..
  have h2 := Int.le_of_dvd h h1
  have h3 : Int.gcd a b ≠ 0 := by
    intro e
    rw [Int.gcd_eq_zero_iff] at e
    omega
  omega
/-! ### business days: Saturdays and Sundays are moved to Mondays -/
def nb (x : Int) : Int := if x % 7 = 5 then x + 2 else if x % 7 = 6 then x + 1 else x
theorem nb_week (x : Int) : nb x % 7 ≠ 5 ∧ nb x % 7 ≠ 6 := by
  unfold nb
  repeat' split
  all_goals omega
theorem nb_near (x : Int) : x ≤ nb x ∧ nb x ≤ x + 2 := by
  unfold nb
  repeat' split
  all_goals omega
theorem nb_mono {x y : Int} (h : x ≤ y) : nb x ≤ nb y := by
  unfold nb
  repeat' split
  all_goals omega
end BR

set_option Elab.async false
set_option linter.all false
set_option maxRecDepth 100000
/-! The text by places, the defs' facts. -/
namespace BR
open PySem PySem.Spec PyProof.Rows L2
def top (i : Nat) : Stmt := PySem.Challenge.pw_bondroots_k14_whole_schedules.main.body.getD i (.Pass ⟨0, 0, 0, 0⟩)
/-- a def of the text as the top leaves it: what stands at f, how its arguments bind, its name -/
structure Df (K : PySem.W.Frag) (mg : Str → Option Value) (x : Str) (st : Stmt) (ps : List Str) (f : Addr) (fd : FuncData) : Prop where
  F : Fun K x x st f fd
  B : Binds K fd ps []
  G : mg x = some (.ref f)
/-- a call's plain promise: from pre of the arguments and the answer; what stood stands -/
def spP (n : Nat) (pre : List V → Hp → V → Prop) : Sp := fun vs H Q _ => vs.length = n ∧ ∃ r, pre vs H r ∧ ∀ H', Same H H' → Q r H'
theorem same_upd {H : Hp} {p : Addr} {o : HO} (h : H p = none) : Same H (upd H p o) := fun b x e => by
  rw [upd_ne (ne_of_none e h)]
  exact e
theorem sameT {K : PySem.W.Frag} {H H' : Hp} {a : Addr} {xs : List V} (e : Same H H') (h : SqT K H a xs) : SqT K H' a xs := by
  rcases h with (h | ⟨o, h⟩) | h
  · exact .inl (.inl (e _ _ h))
  · exact .inl (.inr ⟨o, e _ _ h⟩)
  · exact .inr h
/-- what is never reached -/
theorem pe_never {X : Cx} {e : Expr} : PE X e (fun _ _ _ => False) := ⟨fun _ _ _ _ _ _ h => h.elim⟩
theorem pt_never {X : Cx} {e : Expr} : PT X e (fun _ _ _ => False) := ⟨fun _ _ _ _ _ _ h => h.elim⟩
/-- a if c else b, as a test -/
def tIfT (t u v : TT) : TT := fun σ H Q => t σ H fun c H1 => if c = true then u σ H1 Q else v σ H1 Q
theorem pt_ifExp {X : Cx} {c a b : Expr} {pos : Pos} {t u v : TT} (hc : PT X c t) (ha : PT X a u) (hb : PT X b v) : PT X (.IfExp c a b pos) (tIfT t u v) := by
  refine ⟨fun pins s σ H Q I h => isTrue_IfExp (thn (hc.run pins s σ H _ I h) fun d s1 ⟨H1, I1, q1⟩ => ?_)⟩
  cases d with
  | true => exact ha.run pins s1 σ H1 Q I1 q1
  | false => exact hb.run pins s1 σ H1 Q I1 q1
/-- bool <= bool -/
theorem op_le_bl {X : Cx} : OpR X (compareOp .LtE) (fun x y H Q => ∃ i j, x = .bl i ∧ y = .bl j ∧ Q (.bl (decide (b2i i ≤ b2i j))) H) := by
  intro pins s σ H x y v u Q I rx ry h
  obtain ⟨i, j, rfl, rfl, q⟩ := h
  cases rx
  cases ry
  exact le_bool (fin_bl I q rfl)
abbrev sLeap : Stmt := top 4
abbrev sLen : Stmt := top 5
abbrev sYst : Stmt := top 6
abbrev sDay : Stmt := top 7
abbrev sDate : Stmt := top 8
abbrev sWeek : Stmt := top 9
abbrev sAdd : Stmt := top 10
abbrev sBiz : Stmt := top 12
abbrev sNext : Stmt := top 13
abbrev sMov : Stmt := top 14
abbrev sSteps : Stmt := top 16
abbrev sSched : Stmt := top 17
abbrev sMsch : Stmt := top 18
abbrev sDiv : Stmt := top 20
abbrev sFrac : Stmt := top 21
abbrev sBym : Stmt := top 23
abbrev sCount : Stmt := top 24
abbrev lOpen : Stmt := top 26
abbrev lSpread : Stmt := top 27
abbrev lTake : Stmt := top 28
abbrev lOne : Stmt := top 29
abbrev lLens : Stmt := top 30
abbrev lDay : Stmt := top 31
abbrev lDate : Stmt := top 32
abbrev lGcd : Stmt := top 33
abbrev lFrac : Stmt := top 34
abbrev lBoth : Stmt := top 35
abbrev lStub : Stmt := top 36
abbrev lLaw : Stmt := top 37
section
variable {P : Program} {w : World} {K : PySem.W.Frag} {mg : Str → Option Value} {base : Heap}
/-! ### is_leap -/
theorem scLeap : FnScope ["year"] ["year"] (defScope sLeap) := ⟨rfl, rfl, rfl, by decide +kernel, rfl, by decide +kernel, by decide +kernel⟩
def spLeap : Sp := spP 1 fun vs _ r => ∃ y : Int, vs = [.int y] ∧ r = .bl (isLeap y)
theorem ok_leap {f : Addr} {fd : FuncData} (D : Df K mg "is_leap" sLeap ["year"] f fd) : FnOk P w K mg base CX0 1 f fd ["year"] spLeap := by
  refine D.F.ok scLeap (fun vs H Q E h => h.1) (fun cdv A outer s H vs Q E hr h => ?_)
  obtain ⟨_, r, ⟨y, rfl, rfl⟩, k⟩ := h
  refine ⟨_, pss_one (ps_ret (pe_and (pe_cmpR op_eq (pe_op op_mod (pv 0) pe_int) pe_int (nomark _))
    (pe_one (pe_cmpR op_notIn_seq (pv 0) (pe_tup (pa_cons pe_int (pa_cons pe_int pa_nil))) (by rfl))))), ?_⟩
  refine ⟨_, rfl, _, _, rfl, rfl, (by show (0 : Int) < 4; decide), rfl, _, rfl, ?_⟩
  have e : isLeap y = (decide (V.int (y % 4) = V.int 0) && (!inV (.int y) [.int 1900, .int 2100])) := by
    rw [dec_int]
    unfold isLeap inV
    by_cases h1 : y = 1900
    · subst h1; decide
    · by_cases h2 : y = 2100
      · subst h2; decide
      · simp [eqV, h1, h2]
        by_cases h4 : y % 4 = 0
        · simp [h4]; omega
        · simp [h4]
  refine ite2 (fun c => ?_) (fun c => ?_)
  · refine ⟨_, rfl, (by show 2 ≤ sizeLine; decide), fun p hp => ?_⟩
    refine ⟨p, _, rfl, .inr (.inl (.inl upd_same)), rfl, rfl, ?_⟩
    have q := k _ (same_upd hp (o := .tup [.int 1900, .int 2100]))
    rw [e, c] at q
    exact q
  · have q := k _ (Same.refl H)
    rw [e, (Bool.not_eq_true _).mp c] at q
    exact q
end
end BR

set_option Elab.async false
set_option linter.all false
set_option maxRecDepth 100000
set_option maxHeartbeats 4000000
/-! The defs of dates. -/
namespace BR
open PySem PySem.Spec PyProof.Rows L2
/-- what the top leaves at a name: a def that keeps its promise -/
structure Ok (P : Program) (w : World) (K : PySem.W.Frag) (mg : Str → Option Value) (base : Heap) (x : Str) (k : Nat) (ps : List Str) (sp : Sp) (f : Addr) (fd : FuncData) : Prop where
  G : mg x = some (.ref f)
  kp : PySem.W.keepIn K (.ref f) = true
  B : Binds K fd ps []
  O : FnOk P w K mg base CX0 k f fd ps sp
structure Cs (K : PySem.W.Frag) (mg : Str → Option Value) : Prop where
  first : ∃ t, mg "FIRST_YEAR" = some (.int 1900 t)
  last : ∃ t, mg "LAST_YEAR" = some (.int 2199 t)
  months : ∃ a, mg "MONTHS" = some (.ref a) ∧ ∀ H, SqT K H a (months.map V.int)
structure Bl (mg : Str → Option Value) : Prop where
  len : mg "len" = none
  range : mg "range" = none
  sum : mg "sum" = none
  min : mg "min" = none
  max : mg "max" = none
  abs : mg "abs" = none
  int : mg "int" = none
  list : mg "list" = none
  tuple : mg "tuple" = none
  sorted : mg "sorted" = none
  set : mg "set" = none
  enum : mg "enumerate" = none
section
variable {P : Program} {w : World} {K : PySem.W.Frag} {mg : Str → Option Value} {base : Heap}
theorem Df.ok {x : Str} {st : Stmt} {ps : List Str} {f : Addr} {fd : FuncData} {k : Nat} {sp : Sp} (D : Df K mg x st ps f fd) (O : FnOk P w K mg base CX0 k f fd ps sp) : Ok P w K mg base x k ps sp f fd := ⟨D.G, D.F.kp, D.B, O⟩
/-! ### month_length -/
theorem scLen : FnScope ["year", "month"] ["year", "month"] (defScope sLen) := ⟨rfl, rfl, rfl, by decide +kernel, rfl, by decide +kernel, by decide +kernel⟩
def spLen : Sp := spP 2 fun vs _ r => ∃ y m : Int, vs = [.int y, .int m] ∧ 1 ≤ m ∧ m ≤ 12 ∧ r = .int (mlen y m)
theorem mlen_eq (y m : Int) (h : ¬ (m = 2 ∧ isLeap y = true)) : mlen y m = months.getD (m - 1).toNat 0 := by
  unfold mlen
  rw [if_neg h]
theorem ok_len {f fL : Addr} {fd fdL : FuncData} (D : Df K mg "month_length" sLen ["year", "month"] f fd) (C : Cs K mg) (L : Ok P w K mg base "is_leap" 1 ["year"] spLeap fL fdL) : FnOk P w K mg base CX0 2 f fd ["year", "month"] spLen := by
  refine D.F.ok scLen (fun vs H Q E h => h.1) (fun cdv A outer s H vs Q E hr h => ?_)
  obtain ⟨_, r, ⟨y, m, rfl, h1, h2, rfl⟩, k⟩ := h
  obtain ⟨a, gM, sM⟩ := C.months
  refine ⟨_, pss_one (ps_ret (pe_ifExp (PW.pt (pw_and (pt_cmpR op_eq (pv 1) pe_int (nomark _))
      (pw_and1 (pt_val (pe_call L.O hr (by rfl) L.G L.kp L.B .nil pass0 (pa_cons (pv 0) pa_nil))))))
    pe_int (pe_ix ix_tup (pe_glob (v := .ref a) rfl gM rfl) (pe_op op_sub (pv 1) pe_int) (fun _ _ => rfl)))), ?_⟩
  have tab : ∀ H', Same H H' → ¬ (m = 2 ∧ isLeap y = true) → Q (.int (months.getD (m - 1).toNat 0)) H' := fun H' sm e => by
    have q := k H' sm
    rw [mlen_eq y m e] at q
    exact q
  have at_ : ∀ H', Same H H' → ¬ (m = 2 ∧ isLeap y = true) → rIxT K (.ref a) (.int (m - 1)) H' Q := fun H' sm e => by
    refine ⟨a, months.map V.int, m - 1, .int (months.getD (m - 1).toNat 0), rfl, rfl, sM _, at_of (j := (m - 1).toNat) (by omega) ?_, tab H' sm e⟩
    rcases months12 h1 h2 with e | e | e | e | e | e | e | e | e | e | e | e <;> subst e <;> rfl
  refine ⟨_, rfl, rfl, _, rfl, ite2 (fun c => ?_) (fun c => ?_)⟩
  · have c := of_decide_eq_true c
    have em : m = 2 := V.int.inj c
    refine ⟨_, rfl, rfl, _, ⟨y, rfl, rfl⟩, fun H1 sm => ⟨_, rfl, ?_⟩⟩
    refine ite2 (fun d => ?_) (fun d => ?_)
    · have q := k H1 sm
      rw [show mlen y m = 29 by unfold mlen; rw [if_pos ⟨em, d⟩]] at q
      exact q
    · exact ⟨_, rfl, _, _, rfl, rfl, at_ H1 sm fun e => d e.2⟩
  · refine iteF ?_
    exact ⟨_, rfl, _, _, rfl, rfl, at_ H (Same.refl H) fun e => c (decide_eq_true (by rw [e.1]))⟩
/-! ### year_start -/
def cnt : Nat → Nat
  | 0 => 0
  | i + 1 => cnt i + (if isLeap (1900 + (i : Int) * 4) = true then 1 else 0)
theorem cnt_succ (i : Nat) : cnt (i + 1) = cnt i + (if isLeap (1900 + (i : Int) * 4) = true then 1 else 0) := rfl
theorem cnt_le : ∀ n : Nat, cnt n ≤ n
  | 0 => Nat.le_refl _
  | n + 1 => by
    have ih := cnt_le n
    unfold cnt
    split <;> omega
theorem leap_at (n : Nat) : isLeap (1900 + (n : Int) * 4) = decide (n ≠ 0 ∧ n ≠ 50) := by
  unfold isLeap
  rw [decide_eq_true (show (1900 + (n : Int) * 4) % 4 = 0 by omega), Bool.true_and, ← Bool.decide_and]
  exact decide_eq_decide.mpr ⟨fun h => by omega, fun h => by omega⟩
theorem cnt_eq : ∀ n : Nat, (cnt n : Int) = n - (if 0 < n then 1 else 0) - (if 50 < n then 1 else 0)
  | 0 => rfl
  | n + 1 => by
    have ih := cnt_eq n
    unfold cnt
    rw [leap_at]
    simp only [decide_eq_true_eq]
    rw [Int.natCast_add, ih]
    repeat' split
    all_goals omega
theorem cnt_leaps {y : Int} (h : 1900 ≤ y) : (cnt (if 1900 < y then (y - 1900 - 1) / 4 + 1 else 0).toNat : Int) = leaps y := by
  rw [cnt_eq]
  unfold leaps
  repeat' split
  all_goals omega
theorem size_four (y : Int) : Builtin.Range.rangeSize 1900 y 4 = ((if 1900 < y then (y - 1900 - 1) / 4 + 1 else 0).toNat : Int) := by
  unfold Builtin.Range.rangeSize
  rw [if_pos (by decide)]
  split <;> omega
theorem small_four {y : Int} (h : -10000 ≤ y) (h' : y ≤ 10000) : Builtin.Range.small 1900 y 4 = true := by
  have e := size_four y
  unfold Builtin.Range.small
  rw [e]
  have b : ((if 1900 < y then (y - 1900 - 1) / 4 + 1 else 0).toNat : Int) < 10000 := by
    split <;> omega
  have b0 : (0 : Int) ≤ ((if 1900 < y then (y - 1900 - 1) / 4 + 1 else 0).toNat : Int) := Int.natCast_nonneg _
  generalize ((if 1900 < y then (y - 1900 - 1) / 4 + 1 else 0).toNat : Int) = z at b b0 ⊢
  simp only [Builtin.Range.rangeFitsLong, Bool.and_eq_true, Bool.or_eq_true, decide_eq_true_eq, beq_iff_eq, show (4 : Int) > 0 by decide, if_true]
  omega
theorem scYst : FnScope ["year", "count", "one"] ["year"] (defScope sYst) := ⟨rfl, rfl, rfl, by decide +kernel, rfl, by decide +kernel, by decide +kernel⟩
def spYst : Sp := spP 1 fun vs _ r => ∃ y : Int, vs = [.int y] ∧ 1900 ≤ y ∧ y ≤ 3000 ∧ r = .int (ys y)
theorem ok_yst {f fL : Addr} {fd fdL : FuncData} (D : Df K mg "year_start" sYst ["year"] f fd) (C : Cs K mg) (B : Bl mg) (L : Ok P w K mg base "is_leap" 1 ["year"] spLeap fL fdL) : FnOk P w K mg base CX0 2 f fd ["year"] spYst := by
  refine D.F.ok scYst (fun vs H Q E h => h.1) (fun cdv A outer s H vs Q E hr h => ?_)
  obtain ⟨_, r, ⟨y, rfl, h1, h2, rfl⟩, k⟩ := h
  obtain ⟨tf, gF⟩ := C.first
  refine ⟨_, pss_cons (ps_set (i := 1) scYst.nd rfl (.inl rfl) (pe_op op_mul (pe_op op_sub (pv 0) (pe_glob (v := .int 1900) rfl gF ⟨_, rfl⟩)) pe_int))
    (pss_one (ps_ret (pe_op op_add (pv 1) (pe_callB call_len_seq (by rfl) B.len PySem.boot_len (pa_cons
      (pe_lc (own := [("one", 2)]) (g := gName 2) (by rfl) scYst.nd (pi_range3 (by rfl) B.range (pa_cons (pe_glob (v := .int 1900) rfl gF ⟨_, rfl⟩) (pa_cons (pv 0) (pa_cons pe_int pa_nil))))
        (blkOk_by (own := [("one", 2)]) (N := ["year", "count", "one"]) (sc := defScope sYst) (by decide +kernel))
        (fun _ _ _ _ _ => pg_name (i := 2) scYst.nd rfl (.inl rfl)) (fun _ _ _ _ _ => pts_one (pt_val (pe_call L.O hr (by rfl) L.G L.kp L.B .nil pass0 (pa_cons (pv 2) pa_nil)))) (fun _ _ _ _ _ => pv 2)) pa_nil))))), ?_⟩
  refine ⟨_, rfl, _, _, rfl, rfl, _, _, rfl, rfl, .inr ⟨by decide, by decide⟩, ?_⟩
  refine ⟨_, rfl, _, rfl, 1900, y, 4, (if 1900 < y then (y - 1900 - 1) / 4 + 1 else 0).toNat, rfl, ⟨by decide, by decide, ?_, ?_⟩, fun D hD => ?_⟩
  · exact small_four (by omega) (by omega)
  · exact size_four y
  refine lc_it walk_rangeC (fun i H' => Same H H' ∧ H D = none ∧ ∃ acc : List V, H' D = some (.lst acc) ∧ acc.length = cnt i) ⟨same_upd hD, hD, [], upd_same, rfl⟩ (fun _ _ _ _ => trivial) ?_ ?_
  · rintro i x H1 H2 hi ⟨sm, _, acc, ea, el⟩ ⟨rfl, rfl⟩
    refine ⟨rfl, _, rfl, rfl, _, ⟨_, rfl, rfl⟩, fun H3 sm3 => ⟨_, rfl, ?_⟩⟩
    have hi' : i < 1000 := by
      split at hi <;> omega
    refine ite2 (fun c => ?_) (fun c => ?_)
    · refine ⟨_, rfl, acc, sm3 _ _ ea, ?_, fun b o e => ?_, hD, _, upd_same, ?_⟩
      · have := cnt_le i
        exact small1000 (by omega)
      · rw [upd_ne (ne_of_none e hD)]
        exact sm3 _ _ (sm _ _ e)
      · rw [List.length_append, el, cnt_succ, if_pos c]
        rfl
    · refine ⟨sm.trans sm3, hD, acc, sm3 _ _ ea, ?_⟩
      rw [el, cnt_succ, if_neg c]
      rfl
  · rintro H1 ⟨sm, _, acc, ea, el⟩
    refine ⟨D, acc, rfl, .inl (SqL.of ea), _, _, rfl, rfl, ?_⟩
    have q := k H1 sm
    rw [el, cnt_leaps h1]
    exact q
end
end BR

set_option Elab.async false
set_option linter.all false
set_option maxRecDepth 100000
set_option maxHeartbeats 4000000
/-! day_of, date_of, weekday, add_months. -/
namespace BR
open PySem PySem.Spec PyProof.Rows L2
/-- the tuple of a date: the n-th month's day d -/
def dt (n d : Int) : List V := [.int (n / 12), .int (n % 12 + 1), .int d]
/-- ways joined: what follows is a letter, of which only R is asked -/
theorem cutT {t : TT} {σ : L2.St} {H : Hp} {Q : Bool → Hp → Prop} (R : Bool → Hp → Prop) (h : ∀ Q' : Bool → Hp → Prop, (∀ b H', R b H' → Q' b H') → t σ H Q') (k : ∀ b H', R b H' → Q b H') : t σ H Q := h Q k
theorem cutE {t : TE} {σ : L2.St} {H : Hp} {Q : VK} (R : V → Hp → Prop) (h : ∀ Q' : VK, (∀ b H', R b H' → Q' b H') → t σ H Q') (k : ∀ b H', R b H' → Q b H') : t σ H Q := h Q k
theorem cutS {t u : TS} {D : Ends} {σ : L2.St} {H : Hp} (R : L2.St → Hp → Prop) (h : ∀ N : L2.St → Hp → Prop, (∀ σ' H', R σ' H' → N σ' H') → t { D with nx := N } σ H) (k : ∀ σ' H', R σ' H' → u D σ' H') : tSeq t u D σ H := h (u D) k
/-- a comprehension without a test -/
theorem lcY {J : It} {n : Nat} {G : Hp → Prop} {Y : Nat → Hp → V → Hp → Prop} (w : Walk J n G Y) {j : Nat} {te : TE} {vs : List Nat} {σ : L2.St} {H1 : Hp} {D : Addr} {Qd : Hp → Prop} (Pv : Nat → Hp → Prop) (h0 : Pv 0 (upd H1 D (.lst [])))
    (hG : ∀ i H, i ≤ n → Pv i H → G H) (hw : ∀ x : V, wipe ((wipe σ vs).set j (some x)) vs = wipe σ vs)
    (hs : ∀ i x H H', i < n → Pv i H → Y i H x H' → te ((wipe σ vs).set j (some x)) H' fun y H4 => ∃ acc, H4 D = some (.lst acc) ∧ acc.length < sizeLine ∧ Pv (i + 1) (upd H4 D (.lst (acc ++ [y]))))
    (hd : ∀ H, Pv n H → Qd H) :
    ∃ W : Nat → Nat → Hp → Prop, (∃ m, W 0 m (upd H1 D (.lst []))) ∧ ∀ i m H, W i m H →
      (J.stop i H ∧ Qd H) ∨ (J.go i H ∧ ∃ Nx : Hp → Prop, (∀ H', Nx H' → ∃ m', m' < m ∧ W (i + 1) m' H') ∧ ∀ x H', J.yld i H x H' → gName j x (wipe σ vs) H' fun σ2 H2 => wipe σ2 vs = wipe σ vs ∧ tYes σ2 H2 fun b H3 =>
        if b = true then te σ2 H3 fun y H4 => ∃ acc, H4 D = some (.lst acc) ∧ acc.length < sizeLine ∧ Nx (upd H4 D (.lst (acc ++ [y]))) else Nx H3) :=
  lc_it w Pv h0 hG (fun i x H H' hi p y => ⟨hw x, (if_pos rfl : (if true = true then te ((wipe σ vs).set j (some x)) H' fun y H4 => ∃ acc, H4 D = some (.lst acc) ∧ acc.length < sizeLine ∧ Pv (i + 1) (upd H4 D (.lst (acc ++ [y]))) else Pv (i + 1) H') = _).mpr (hs i x H H' hi p y)⟩) hd
section
variable {P : Program} {w : World} {K : PySem.W.Frag} {mg : Str → Option Value} {base : Heap}
/-! ### day_of -/
theorem scDay : FnScope ["date", "year", "month", "day", "one"] ["date"] (defScope sDay) := ⟨rfl, rfl, rfl, by decide +kernel, rfl, by decide +kernel, by decide +kernel⟩
def spDay (K : PySem.W.Frag) : Sp := spP 1 fun vs H r => ∃ (a : Addr) (n d : Int), vs = [.ref a] ∧ SqT K H a (dt n d) ∧ 22800 ≤ n ∧ n ≤ 30000 ∧ r = .int (ms n + d - 1)
theorem ok_day {f fY fM : Addr} {fd fdY fdM : FuncData} (D : Df K mg "day_of" sDay ["date"] f fd) (B : Bl mg) (Y : Ok P w K mg base "year_start" 2 ["year"] spYst fY fdY) (M : Ok P w K mg base "month_length" 2 ["year", "month"] spLen fM fdM) :
    FnOk P w K mg base CX0 3 f fd ["date"] (spDay K) := by
  refine D.F.ok scDay (fun vs H Q E h => h.1) (fun cdv A outer s H vs Q E hr h => ?_)
  obtain ⟨_, r, ⟨a, n, d, rfl, hT, h1, h2, rfl⟩, k⟩ := h
  refine ⟨_, pss_cons (ps_asg (pv 0) (pg_tup rfl (pgs_cons (pg_name (i := 1) scDay.nd rfl (.inr rfl)) (pgs_cons (pg_name (i := 2) scDay.nd rfl (.inl rfl)) (pgs_cons (pg_name (i := 3) scDay.nd rfl (.inl rfl)) pgs_nil)))))
    (pss_one (ps_ret (pe_op op_sub (pe_op op_add (pe_op op_add (pe_call Y.O hr (by rfl) Y.G Y.kp Y.B .nil pass0 (pa_cons (pv 1) pa_nil))
      (pe_callB (cr_sum rfl) (by rfl) B.sum (by decide +kernel) (pa_cons
        (pe_lc (own := [("one", 4)]) (g := gName 4) (tt := tYes) rfl scDay.nd (pi_range2 (by rfl) B.range (pa_cons pe_int (pa_cons (pv 2) pa_nil)))
          (blkOk_by (own := [("one", 4)]) (N := ["date", "year", "month", "day", "one"]) (sc := defScope sDay) (by decide +kernel))
          (fun _ _ _ _ _ => pg_name (i := 4) scDay.nd rfl (.inl rfl)) (fun _ _ _ _ _ => pts_nil) (fun _ _ _ _ _ => pe_call M.O hr (by rfl) M.G M.kp M.B .nil pass0 (pa_cons (pv 1) (pa_cons (pv 4) pa_nil)))) pa_nil))) (pv 3)) pe_int))), ?_⟩
  refine ⟨_, rfl, a, _, rfl, hT, rfl, _, _, rfl, _, _, rfl, _, _, rfl, rfl, ?_⟩
  refine ⟨_, rfl, rfl, _, ⟨n / 12, rfl, by omega, by omega, rfl⟩, fun H1 sm1 => ?_⟩
  refine ⟨_, rfl, 1, _, rfl, ⟨by decide, by decide, by omega, by omega⟩, fun D hD => ?_⟩
  refine lcY walk_range (fun i H' => Same H1 H' ∧ ∃ ns : List Int, H' D = some (.lst (ns.map V.int)) ∧ ns.length = i ∧ ns.sum = cum (n / 12) (1 + i)) ⟨same_upd hD, [], upd_same, rfl, by rw [show (1 : Int) + ((0 : Nat) : Int) = 1 from rfl, cum_one]; rfl⟩ (fun _ _ _ _ => trivial) (fun _ => rfl) ?_ ?_
  · rintro i x H2 H2' hi ⟨sm, ns, ea, el, es⟩ ⟨rfl, rfl⟩
    refine ⟨_, rfl, _, rfl, rfl, _, ⟨n / 12, 1 + i, rfl, by omega, by omega, rfl⟩, fun H3 sm3 => ?_⟩
    refine ⟨ns.map V.int, sm3 _ _ ea, ?_, fun b o e => ?_, ns ++ [mlen (n / 12) (1 + i)], ?_, ?_, ?_⟩
    · rw [List.length_map]
      exact small1000 (by omega)
    · rw [upd_ne (ne_of_none e hD)]
      exact sm3 _ _ (sm _ _ e)
    · rw [upd_same, List.map_append]
      rfl
    · rw [List.length_append, el]
      rfl
    · rw [List.sum_append, es, show (1 : Int) + ((i + 1 : Nat) : Int) = 1 + i + 1 by omega, cum_succ _ (by omega) (by omega)]
      simp
  · rintro H2 ⟨sm, ns, ea, el, es⟩
    refine ⟨D, ns, rfl, SqL.of ea, _, _, rfl, rfl, _, rfl, _, _, rfl, rfl, _, _, rfl, rfl, ?_⟩
    have q := k H2 (sm1.trans sm)
    rw [es, show (1 : Int) + (((n % 12 + 1 - 1).toNat : Nat) : Int) = n % 12 + 1 by omega]
    exact q
/-! ### date_of -/
theorem scDate : FnScope ["day", "year", "rest", "month"] ["day"] (defScope sDate) := ⟨rfl, rfl, rfl, by decide +kernel, rfl, by decide +kernel, by decide +kernel⟩
def spDate : Sp := fun vs H Q _ => ∃ n d : Int, vs = [.int (ms n + d - 1)] ∧ 22800 ≤ n ∧ n < 26400 ∧ 1 ≤ d ∧ d ≤ ln n ∧ ∀ H' p, Same H H' → H p = none → H' p = some (.tup (dt n d)) → Q (.ref p) H'
theorem ys_mono {y z : Int} (h : 1900 ≤ y) (h' : y ≤ z) : ys y ≤ ys z := by
  rw [ys_eq, ys_eq]
  have := ms_mono (n := 12 * y) (n' := 12 * z) (by omega) (by omega)
  omega
theorem ys_of {n d : Int} (h : 22800 ≤ n) (h1 : 1 ≤ d) (h2 : d ≤ ln n) : ys (n / 12) ≤ ms n + d - 1 ∧ ms n + d - 1 < ys (n / 12 + 1) := by
  rw [ys_eq, ys_eq]
  have a := ms_mono (n := 12 * (n / 12)) (n' := n) (by omega) (by omega)
  have b := ms_mono (n := n + 1) (n' := 12 * (n / 12 + 1)) (by omega) (by omega)
  have c := ms_succ h
  omega
theorem ms_at (y : Int) {m : Int} (h1 : 1 ≤ m) (h2 : m ≤ 12) : ms (12 * y + m - 1) = ys y + cum y m := by
  unfold ms
  rw [show (12 * y + m - 1) / 12 = y by omega, show (12 * y + m - 1) % 12 + 1 = m by omega]
theorem ok_date {f fY fM : Addr} {fd fdY fdM : FuncData} (D : Df K mg "date_of" sDate ["day"] f fd) (C : Cs K mg) (Y : Ok P w K mg base "year_start" 2 ["year"] spYst fY fdY) (M : Ok P w K mg base "month_length" 2 ["year", "month"] spLen fM fdM) :
    FnOk P w K mg base CX0 3 f fd ["day"] spDate := by
  refine D.F.ok scDate (fun vs H Q E h => ?_) (fun cdv A outer s H vs Q E hr h => ?_)
  · obtain ⟨n, d, rfl, _⟩ := h
    rfl
  obtain ⟨n, d, rfl, n1, n2, d1, d2, k⟩ := h
  obtain ⟨tf, gF⟩ := C.first
  obtain ⟨tl, gL⟩ := C.last
  obtain ⟨y1, y2⟩ := ys_of n1 d1 d2
  have dpos : 0 ≤ ms n + d - 1 := by
    have := ys_ge (y := n / 12) (by omega)
    omega
  generalize hD : ms n + d - 1 = day at y1 y2 dpos
  refine ⟨_, pss_cons (ps_set (i := 1) scDate.nd rfl (.inl rfl) (pe_op op_add (pe_glob (v := .int 1900) rfl gF ⟨_, rfl⟩) (pe_op op_fdiv (pv 0) pe_int)))
    (pss_cons (ps_while PassesOwn.never (PW.pt (pw_and (pt_cmpR op_lt (pv 1) (pe_glob (v := .int 2199) rfl gL ⟨_, rfl⟩) (nomark _))
        (pw_and1 (pt_cmpR op_le (pe_call Y.O hr (by rfl) Y.G Y.kp Y.B .nil pass0 (pa_cons (pe_op op_add (pv 1) pe_int) pa_nil)) (pv 0) (nomark _)))))
      (pss_one (ps_aug (i := 1) scDate.nd rfl (.inl rfl) pe_int ip_add)))
    (pss_cons (ps_par (i := 2) (j := 3) (by rfl) scDate.nd rfl rfl (by decide) rfl rfl (pa_cons (pe_op op_sub (pv 0) (pe_call Y.O hr (by rfl) Y.G Y.kp Y.B .nil pass0 (pa_cons (pv 1) pa_nil))) (pa_cons pe_int pa_nil)) (by rfl))
    (pss_cons (ps_while PassesOwn.never (pt_cmpR op_ge (pv 2) (pe_call M.O hr (by rfl) M.G M.kp M.B .nil pass0 (pa_cons (pv 1) (pa_cons (pv 3) pa_nil))) (nomark _))
      (pss_cons (ps_aug (i := 2) scDate.nd rfl (.inl rfl) (pe_call M.O hr (by rfl) M.G M.kp M.B .nil pass0 (pa_cons (pv 1) (pa_cons (pv 3) pa_nil))) ip_sub)
        (pss_one (ps_aug (i := 3) scDate.nd rfl (.inl rfl) pe_int ip_add))))
    (pss_one (ps_ret (pe_tup (pa_cons (pv 1) (pa_cons (pv 3) (pa_cons (pe_op op_add (pv 2) pe_int) pa_nil))))))))), ?_⟩
  refine cutS (fun σ H' => σ = [some (.int day), some (.int (1900 + day / 366)), none, none] ∧ H' = H) (fun N hN => ⟨_, rfl, _, _, rfl, rfl, ⟨by decide, by decide⟩, _, _, rfl, rfl, hN _ _ ⟨rfl, rfl⟩⟩) ?_
  rintro σ H0 ⟨rfl, rfl⟩
  refine cutS (fun σ H' => σ = [some (.int day), some (.int (n / 12)), none, none] ∧ Same H0 H') (fun N hN => ?_) ?_
  · refine ⟨fun m σ H' => ∃ y : Int, σ = [some (.int day), some (.int y), none, none] ∧ 1900 ≤ y ∧ y ≤ n / 12 ∧ m = (n / 12 - y).toNat ∧ Same H0 H',
      ⟨_, 1900 + day / 366, rfl, by omega, ?_, rfl, Same.refl H0⟩, ?_⟩
    · have := ys_ge (y := n / 12 + 1) (by omega)
      omega
    rintro m σ H1 ⟨y, rfl, h1, h2, rfl, sm⟩
    -- while year < LAST_YEAR and year_start(year + 1) <= day
    refine cutT (fun b H2 => b = decide (y < n / 12) ∧ Same H0 H2) (fun Q' kq => ?_) ?_
    · refine ⟨_, rfl, _, _, rfl, rfl, _, rfl, ite2 (fun c => ?_) (fun c => ?_)⟩
      · have c := of_decide_eq_true c
        refine ⟨_, rfl, _, _, rfl, rfl, rfl, _, ⟨y + 1, rfl, by omega, by omega, rfl⟩, fun H2 sm2 => ?_⟩
        refine ⟨_, rfl, _, _, rfl, rfl, _, rfl, kq _ _ ⟨decide_eq_decide.mpr ⟨fun q => ?_, fun q => ?_⟩, sm.trans sm2⟩⟩
        · by_cases e : y < n / 12
          · exact e
          · have e : y = n / 12 := by omega
            subst e
            omega
        · have := ys_mono (y := y + 1) (z := n / 12) (by omega) (by omega)
          omega
      · have c : ¬ y < 2199 := fun q => c (decide_eq_true q)
        refine kq _ _ ⟨(decide_eq_false (by omega)).symm, sm⟩
    · rintro b H2 ⟨rfl, sm2⟩
      refine ite2 (fun c => ?_) (fun c => ?_)
      · have c := of_decide_eq_true c
        refine ⟨fun σ' H' => ∃ m', m' < (n / 12 - y).toNat ∧ ∃ y : Int, σ' = [some (.int day), some (.int y), none, none] ∧ 1900 ≤ y ∧ y ≤ n / 12 ∧ m' = (n / 12 - y).toNat ∧ Same H0 H', fun _ _ h => h, ?_⟩
        exact ⟨_, rfl, _, _, rfl, rfl, (n / 12 - (y + 1)).toNat, by omega, y + 1, rfl, by omega, by omega, rfl, sm2⟩
      · have c : ¬ y < n / 12 := fun q => c (decide_eq_true q)
        have e : y = n / 12 := by omega
        exact hN _ _ ⟨by rw [e], sm2⟩
  rintro σ H1 ⟨rfl, sm⟩
  -- rest, month = day - year_start(year), 1
  refine cutS (fun σ H' => σ = [some (.int day), some (.int (n / 12)), some (.int (day - ys (n / 12))), some (.int 1)] ∧ Same H1 H')
    (fun N hN => ⟨_, rfl, _, rfl, rfl, _, ⟨n / 12, rfl, by omega, by omega, rfl⟩, fun H2 sm2 => ⟨_, _, rfl, rfl, _, _, rfl, hN _ _ ⟨rfl, sm2⟩⟩⟩) ?_
  rintro σ H2 ⟨rfl, sm2⟩
  have dy : day = ys (n / 12) + cum (n / 12) (n % 12 + 1) + d - 1 := by
    rw [← hD]
    unfold ms
    rfl
  refine cutS (fun σ H' => σ = [some (.int day), some (.int (n / 12)), some (.int (d - 1)), some (.int (n % 12 + 1))] ∧ Same H0 H') (fun N hN => ?_) ?_
  · refine ⟨fun m σ H' => ∃ z : Int, σ = [some (.int day), some (.int (n / 12)), some (.int (day - ys (n / 12) - cum (n / 12) z)), some (.int z)] ∧ 1 ≤ z ∧ z ≤ n % 12 + 1 ∧ m = (n % 12 + 1 - z).toNat ∧ Same H0 H',
      ⟨_, 1, by rw [cum_one, Int.sub_zero], by omega, by omega, rfl, sm.trans sm2⟩, ?_⟩
    rintro m σ H3 ⟨z, rfl, h1, h2, rfl, sm3⟩
    -- while rest >= month_length(year, month)
    refine ⟨_, rfl, _, rfl, _, rfl, rfl, _, ⟨n / 12, z, rfl, h1, by omega, rfl⟩, fun H4 sm4 => ?_⟩
    refine ⟨_, _, rfl, rfl, _, rfl, ite2 (fun c => ?_) (fun c => ?_)⟩
    · have c := of_decide_eq_true c
      have lt : z < n % 12 + 1 := by
        by_cases e : z < n % 12 + 1
        · exact e
        · have e : z = n % 12 + 1 := by omega
          subst e
          unfold ln at d2
          omega
      refine ⟨fun σ' H' => ∃ m', m' < (n % 12 + 1 - z).toNat ∧ ∃ z : Int, σ' = [some (.int day), some (.int (n / 12)), some (.int (day - ys (n / 12) - cum (n / 12) z)), some (.int z)] ∧ 1 ≤ z ∧ z ≤ n % 12 + 1 ∧ m' = (n % 12 + 1 - z).toNat ∧ Same H0 H', fun _ _ h => h, ?_⟩
      refine ⟨_, rfl, _, rfl, _, rfl, rfl, _, ⟨n / 12, z, rfl, h1, by omega, rfl⟩, fun H5 sm5 => ?_⟩
      refine ⟨_, _, rfl, rfl, _, rfl, _, _, rfl, rfl, (n % 12 + 1 - (z + 1)).toNat, by omega, z + 1, ?_, by omega, by omega, rfl, (sm3.trans sm4).trans sm5⟩
      rw [cum_succ _ h1 (by omega), show day - ys (n / 12) - (cum (n / 12) z + mlen (n / 12) z) = day - ys (n / 12) - cum (n / 12) z - mlen (n / 12) z by omega]
      rfl
    · have c : ¬ mlen (n / 12) z ≤ day - ys (n / 12) - cum (n / 12) z := fun q => c (decide_eq_true q)
      have e : z = n % 12 + 1 := by
        by_cases e : z = n % 12 + 1
        · exact e
        · have a := cum_succ (n / 12) h1 (by omega)
          have b := ms_mono (n := 12 * (n / 12) + (z + 1) - 1) (n' := n) (by omega) (by omega)
          rw [ms_at _ (by omega) (by omega)] at b
          unfold ms at b
          omega
      subst e
      exact hN _ _ ⟨by rw [show day - ys (n / 12) - cum (n / 12) (n % 12 + 1) = d - 1 by omega], sm3.trans sm4⟩
  rintro σ H3 ⟨rfl, sm3⟩
  refine ⟨_, rfl, _, rfl, _, rfl, _, _, rfl, rfl, (by show 3 ≤ sizeLine; decide), fun p hp => ?_⟩
  refine k _ p (sm3.trans (same_upd hp)) (sm3.free hp) ?_
  rw [upd_same]
  show some (HO.tup [V.int (n / 12), V.int (n % 12 + 1), V.int (d - 1 + 1)]) = _
  rw [show d - 1 + 1 = d by omega]
  rfl
/-! ### weekday -/
theorem scWeek : FnScope ["day"] ["day"] (defScope sWeek) := ⟨rfl, rfl, rfl, by decide +kernel, rfl, by decide +kernel, by decide +kernel⟩
def spWeek : Sp := spP 1 fun vs _ r => ∃ y : Int, vs = [.int y] ∧ r = .int (y % 7)
theorem ok_week {f : Addr} {fd : FuncData} (D : Df K mg "weekday" sWeek ["day"] f fd) : FnOk P w K mg base CX0 1 f fd ["day"] spWeek := by
  refine D.F.ok scWeek (fun vs H Q E h => h.1) (fun cdv A outer s H vs Q E hr h => ?_)
  obtain ⟨_, r, ⟨y, rfl, rfl⟩, k⟩ := h
  refine ⟨_, pss_one (ps_ret (pe_op op_mod (pv 0) pe_int)), ?_⟩
  exact ⟨_, rfl, _, _, rfl, rfl, (by show (0 : Int) < 7; decide), k _ (Same.refl H)⟩
/-! ### add_months -/
theorem scAdd : FnScope ["date", "months", "last", "year", "month", "day", "count", "later", "number", "length"] ["date", "months", "last"] (defScope sAdd) := ⟨rfl, rfl, rfl, by decide +kernel, rfl, by decide +kernel, by decide +kernel⟩
def spAdd (K : PySem.W.Frag) : Sp := fun vs H Q _ => ∃ (a : Addr) (n d m : Int) (last : Bool), vs = [.ref a, .int m, .bl last] ∧ SqT K H a (dt n d) ∧ ∀ H' p, Same H H' → H p = none → H' p = some (.tup (dt (n + m) (dd (n + m) d last))) → Q (.ref p) H'
theorem ok_add {f fM : Addr} {fd fdM : FuncData} (D : Df K mg "add_months" sAdd ["date", "months", "last"] f fd) (B : Bl mg) (M : Ok P w K mg base "month_length" 2 ["year", "month"] spLen fM fdM) :
    FnOk P w K mg base CX0 3 f fd ["date", "months", "last"] (spAdd K) := by
  refine D.F.ok scAdd (fun vs H Q E h => ?_) (fun cdv A outer s H vs Q E hr h => ?_)
  · obtain ⟨a, n, d, m, last, rfl, _⟩ := h
    rfl
  obtain ⟨a, n, d, m, last, rfl, hT, k⟩ := h
  refine ⟨_, pss_cons (ps_asg (pv 0) (pg_tup rfl (pgs_cons (pg_name (i := 3) scAdd.nd rfl (.inl rfl)) (pgs_cons (pg_name (i := 4) scAdd.nd rfl (.inl rfl)) (pgs_cons (pg_name (i := 5) scAdd.nd rfl (.inl rfl)) pgs_nil)))))
    (pss_cons (ps_set (i := 6) scAdd.nd rfl (.inl rfl) (pe_op op_add (pe_op op_sub (pe_op op_add (pe_op op_mul (pv 3) pe_int) (pv 4)) pe_int) (pv 1)))
    (pss_cons (ps_par (i := 7) (j := 8) (by rfl) scAdd.nd rfl rfl (by decide) rfl rfl (pa_cons (pe_op op_fdiv (pv 6) pe_int) (pa_cons (pe_op op_add (pe_op op_mod (pv 6) pe_int) pe_int) pa_nil)) (by rfl))
    (pss_cons (ps_set (i := 9) scAdd.nd rfl (.inl rfl) (pe_call M.O hr (by rfl) M.G M.kp M.B .nil pass0 (pa_cons (pv 7) (pa_cons (pv 8) pa_nil))))
    (pss_one (ps_ret (pe_tup (pa_cons (pv 7) (pa_cons (pv 8) (pa_cons (pe_ifExp (pt_val (pv 2)) (pv 9) (pe_callB (call_min2 rfl) (by rfl) B.min (by decide +kernel) (pa_cons (pv 5) (pa_cons (pv 9) pa_nil)))) pa_nil))))))))), ?_⟩
  refine cutS (fun σ H' => σ = [some (.ref a), some (.int m), some (.bl last), some (.int (n / 12)), some (.int (n % 12 + 1)), some (.int d), none, none, none, none] ∧ H' = H)
    (fun N hN => ⟨_, rfl, a, _, rfl, hT, rfl, _, _, rfl, _, _, rfl, _, _, rfl, rfl, hN _ _ ⟨rfl, rfl⟩⟩) ?_
  rintro σ H0 ⟨rfl, rfl⟩
  refine cutS (fun σ H' => σ = [some (.ref a), some (.int m), some (.bl last), some (.int (n / 12)), some (.int (n % 12 + 1)), some (.int d), some (.int (n + m)), none, none, none] ∧ H' = H0)
    (fun N hN => ⟨_, rfl, _, _, rfl, rfl, .inr ⟨by decide, by decide⟩, _, rfl, _, _, rfl, rfl, _, _, rfl, rfl, _, rfl, _, _, rfl, rfl, hN _ _ ⟨by rw [show n + m = n / 12 * 12 + (n % 12 + 1) - 1 + m by omega]; rfl, rfl⟩⟩) ?_
  rintro σ H ⟨rfl, rfl⟩
  refine ⟨_, rfl, _, _, rfl, rfl, ⟨by decide, by decide⟩, _, rfl, _, _, rfl, rfl, (by show (0 : Int) < 12; decide), _, _, rfl, rfl, _, _, rfl, ?_⟩
  refine ⟨_, rfl, _, rfl, rfl, _, ⟨(n + m) / 12, (n + m) % 12 + 1, rfl, by omega, by omega, rfl⟩, fun H1 sm1 => ?_⟩
  have fin : ∀ z : Int, z = dd (n + m) d last → ∀ p, H1 p = none → Q (.ref p) (upd H1 p (.tup [.int ((n + m) / 12), .int ((n + m) % 12 + 1), .int z])) := fun z hz p hp => by
    refine k _ p (sm1.trans (same_upd hp)) (sm1.free hp) ?_
    rw [upd_same, hz]
    rfl
  refine ⟨_, rfl, _, rfl, _, rfl, _, rfl, ?_⟩
  refine ite2 (fun c => ?_) (fun c => ?_)
  · refine ⟨_, rfl, (by show 3 ≤ sizeLine; decide), fun p hp => fin _ ?_ p hp⟩
    unfold dd
    rw [if_pos c]
    rfl
  · refine ⟨_, rfl, _, rfl, _, _, rfl, (by show 3 ≤ sizeLine; decide), fun p hp => fin _ ?_ p hp⟩
    unfold dd
    rw [if_neg c]
    rfl
end
end BR

set_option Elab.async false
set_option linter.all false
set_option maxRecDepth 100000
set_option maxHeartbeats 4000000
/-! The defs of calendars. -/
namespace BR
open PySem PySem.Spec PyProof.Rows L2
/-- the calendar of Saturdays and Sundays stands at c -/
def Cal (K : PySem.W.Frag) (H : Hp) (c : Addr) : Prop := ∃ we ho : Addr, SqT K H c [.ref we, .ref ho] ∧ SqT K H we [.int 5, .int 6] ∧ SqT K H ho []
theorem Cal.same {K : PySem.W.Frag} {H H' : Hp} {c : Addr} (e : Same H H') (h : Cal K H c) : Cal K H' c := by
  obtain ⟨we, ho, h1, h2, h3⟩ := h
  exact ⟨we, ho, sameT e h1, sameT e h2, sameT e h3⟩
def biz (x : Int) : Bool := decide (x % 7 ≠ 5 ∧ x % 7 ≠ 6)
theorem biz_in (x : Int) : (!inV (.int (x % 7)) [.int 5, .int 6]) = biz x := by
  unfold inV biz
  by_cases h1 : x % 7 = 5
  · simp [eqV, h1]
  · by_cases h2 : x % 7 = 6
    · simp [eqV, h2]
    · simp [eqV, h1, h2]
      omega
theorem biz_nb (x : Int) : biz (nb x) = true := decide_eq_true (nb_week x)
theorem nb_biz {x : Int} (h : biz x = true) : nb x = x := by
  have h := of_decide_eq_true h
  unfold nb
  rw [if_neg h.1, if_neg h.2]
theorem nb_next {x : Int} (h : ¬ biz x = true) : nb (x + 1) = nb x ∧ x < nb x := by
  have h : ¬ (x % 7 ≠ 5 ∧ x % 7 ≠ 6) := fun q => h (decide_eq_true q)
  unfold nb
  repeat' split
  all_goals omega
section
variable {P : Program} {w : World} {K : PySem.W.Frag} {mg : Str → Option Value} {base : Heap}
theorem scBiz : FnScope ["calendar", "day"] ["calendar", "day"] (defScope sBiz) := ⟨rfl, rfl, rfl, by decide +kernel, rfl, by decide +kernel, by decide +kernel⟩
def spBiz (K : PySem.W.Frag) : Sp := spP 2 fun vs H r => ∃ (c : Addr) (x : Int), vs = [.ref c, .int x] ∧ Cal K H c ∧ r = .bl (biz x)
theorem ok_biz {f fW : Addr} {fd fdW : FuncData} (D : Df K mg "is_business" sBiz ["calendar", "day"] f fd) (W : Ok P w K mg base "weekday" 1 ["day"] spWeek fW fdW) : FnOk P w K mg base CX0 2 f fd ["calendar", "day"] (spBiz K) := by
  refine D.F.ok scBiz (fun vs H Q E h => h.1) (fun cdv A outer s H vs Q E hr h => ?_)
  obtain ⟨_, r, ⟨c, x, rfl, hc, rfl⟩, k⟩ := h
  refine ⟨_, pss_one (ps_ret (pe_and (pe_cmpR op_notIn_seq (pe_call W.O hr (by rfl) W.G W.kp W.B .nil pass0 (pa_cons (pv 1) pa_nil)) (pe_ix ix_tup (pv 0) pe_int (fun _ _ => rfl)) (by rfl))
    (pe_one (pe_cmpR op_notIn_seq (pv 1) (pe_ix ix_tup (pv 0) pe_int (fun _ _ => rfl)) (by rfl))))), ?_⟩
  refine ⟨_, rfl, rfl, _, ⟨x, rfl, rfl⟩, fun H1 sm => ?_⟩
  obtain ⟨we, ho, h1, h2, h3⟩ := hc.same sm
  refine ⟨_, rfl, c, _, 0, _, rfl, rfl, h1, atI_nat (j := 0) rfl, we, _, rfl, .inr h2, rfl, rfl, ?_⟩
  have e := biz_in x
  refine ⟨_, rfl, ite2 (fun q => ?_) (fun q => ?_)⟩
  · refine ⟨_, rfl, _, rfl, c, _, 1, _, rfl, rfl, h1, atI_nat (j := 1) rfl, ho, _, rfl, .inr h3, rfl, rfl, ?_⟩
    have q : biz x = true := e.symm.trans q
    have z := k H1 sm
    rw [q] at z
    exact z
  · have q : biz x = false := e.symm.trans ((Bool.not_eq_true _).mp q)
    have z := k H1 sm
    rw [q] at z
    exact z
/-! ### next_business, by a step of 1 -/
theorem scNext : FnScope ["calendar", "day", "step"] ["calendar", "day", "step"] (defScope sNext) := ⟨rfl, rfl, rfl, by decide +kernel, rfl, by decide +kernel, by decide +kernel⟩
def spNext (K : PySem.W.Frag) : Sp := spP 3 fun vs H r => ∃ (c : Addr) (x : Int), vs = [.ref c, .int x, .int 1] ∧ Cal K H c ∧ r = .int (nb x)
theorem ok_next {f fB : Addr} {fd fdB : FuncData} (D : Df K mg "next_business" sNext ["calendar", "day", "step"] f fd) (B : Ok P w K mg base "is_business" 2 ["calendar", "day"] (spBiz K) fB fdB) : FnOk P w K mg base CX0 3 f fd ["calendar", "day", "step"] (spNext K) := by
  refine D.F.ok scNext (fun vs H Q E h => h.1) (fun cdv A outer s H vs Q E hr h => ?_)
  obtain ⟨_, r, ⟨c, x, rfl, hc, rfl⟩, k⟩ := h
  refine ⟨_, pss_cons (ps_while PassesOwn.never (pt_not (pt_val (pe_call B.O hr (by rfl) B.G B.kp B.B .nil pass0 (pa_cons (pv 0) (pa_cons (pv 1) pa_nil)))))
    (pss_one (ps_aug (i := 1) scNext.nd rfl (.inl rfl) (pv 2) ip_add))) (pss_one (ps_ret (pv 1))), ?_⟩
  refine ⟨fun m σ H' => ∃ y : Int, σ = [some (.ref c), some (.int y), some (.int 1)] ∧ nb y = nb x ∧ m = (nb x - y).toNat ∧ Same H H', ⟨_, x, rfl, rfl, rfl, Same.refl H⟩, ?_⟩
  rintro m σ H1 ⟨y, rfl, e, rfl, sm⟩
  refine ⟨_, rfl, _, rfl, rfl, _, ⟨c, y, rfl, hc.same sm, rfl⟩, fun H2 sm2 => ⟨_, rfl, ?_⟩⟩
  refine ite2 (fun q => ?_) (fun q => ?_)
  · have q : ¬ biz y = true := by
      intro z
      rw [z] at q
      cases q
    have nx := nb_next q
    refine ⟨fun σ' H' => ∃ m', m' < (nb x - y).toNat ∧ ∃ y : Int, σ' = [some (.ref c), some (.int y), some (.int 1)] ∧ nb y = nb x ∧ m' = (nb x - y).toNat ∧ Same H H', fun _ _ h => h, ?_⟩
    exact ⟨_, rfl, _, rfl, _, _, rfl, rfl, (nb x - (y + 1)).toNat, by omega, y + 1, rfl, nx.1.trans e, rfl, sm.trans sm2⟩
  · have q : biz y = true := by
      cases z : biz y
      · rw [z] at q
        exact absurd rfl q
      · rfl
    have z := k H2 (sm.trans sm2)
    rw [← e, nb_biz q] at z
    exact ⟨_, rfl, z⟩
/-! ### moved, following -/
theorem scMov : FnScope ["calendar", "day", "rule", "step", "found"] ["calendar", "day", "rule"] (defScope sMov) := ⟨rfl, rfl, rfl, by decide +kernel, rfl, by decide +kernel, by decide +kernel⟩
def spMov (K : PySem.W.Frag) : Sp := spP 3 fun vs H r => ∃ (c : Addr) (x : Int), vs = [.ref c, .int x, .str "following"] ∧ Cal K H c ∧ r = .int (nb x)
theorem ends_f : Txt.endswith (Str.ofString "following") (Str.ofString "following") = true := by decide +kernel
theorem starts_f : Txt.startswith (Str.ofString "following") (Str.ofString "modified") = false := by decide +kernel
theorem f_none : ¬ (Str.ofString "following" = Str.ofString "none") := by decide +kernel
theorem ok_mov {f fB : Addr} {fd fdB : FuncData} (D : Df K mg "moved" sMov ["calendar", "day", "rule"] f fd) (B : Ok P w K mg base "next_business" 3 ["calendar", "day", "step"] (spNext K) fB fdB) : FnOk P w K mg base CX0 4 f fd ["calendar", "day", "rule"] (spMov K) := by
  refine D.F.ok scMov (fun vs H Q E h => h.1) (fun cdv A outer s H vs Q E hr h => ?_)
  obtain ⟨_, r, ⟨c, x, rfl, hc, rfl⟩, k⟩ := h
  refine ⟨_, pss_cons (ps_if (pt_cmpR op_eq (pv 2) pe_str (nomark _)) (pss_one (ps_ret (pv 1))) pss_nil)
    (pss_cons (ps_set (i := 3) scMov.nd rfl (.inl rfl) (pe_ifExp (pt_val (pe_m1 PySem.F.slot_str_endswith PySem.F.type_str_endswith mt_endswith (pv 2) pe_str)) pe_int (pe_op op_sub pe_int pe_int)))
    (pss_cons (ps_set (i := 4) scMov.nd rfl (.inl rfl) (pe_call B.O hr (by rfl) B.G B.kp B.B .nil pass0 (pa_cons (pv 0) (pa_cons (pv 1) (pa_cons (pv 3) pa_nil)))))
    (pss_cons (ps_if (PW.pt (pw_and (pt_val (pe_m1 PySem.F.slot_str_startswith PySem.F.type_str_startswith mt_startswith (pv 2) pe_str)) (pw_and1 pt_never))) (pss_one ps_never) pss_nil)
    (pss_one (ps_ret (pv 4)))))), ?_⟩
  refine ⟨_, rfl, rfl, _, rfl, ite2 (fun q => absurd (V.str.inj (of_decide_eq_true q)) f_none) (fun _ => ?_)⟩
  refine ⟨_, rfl, ⟨_, rfl⟩, _, _, rfl, rfl, _, rfl, ?_⟩
  rw [ends_f]
  refine iteT ?_
  refine ⟨_, rfl, _, rfl, _, rfl, rfl, _, ⟨c, x, rfl, hc, rfl⟩, fun H1 sm => ?_⟩
  refine ⟨_, rfl, ⟨_, rfl⟩, _, _, rfl, rfl, _, rfl, ?_⟩
  rw [starts_f]
  refine iteF (iteF ?_)
  exact ⟨_, rfl, k H1 sm⟩
end
end BR

set_option Elab.async false
set_option linter.all false
set_option maxRecDepth 100000
set_option maxHeartbeats 4000000
/-! steps. -/
namespace BR
open PySem PySem.Spec PyProof.Rows L2
section
variable {P : Program} {w : World} {K : PySem.W.Frag} {mg : Str → Option Value} {base : Heap}
theorem scSteps : FnScope ["first", "other", "months", "is_last", "date", "found", "day"] ["first", "other", "months", "is_last"] (defScope sSteps) := ⟨rfl, rfl, rfl, by decide +kernel, rfl, by decide +kernel, by decide +kernel⟩
def spSteps : Sp := fun vs H Q _ => ∃ (n d step other : Int) (last : Bool), vs = [.int (ms n + d - 1), .int other, .int step, .bl last] ∧ Fit n d step last other ∧
  ∀ (H' : Hp) (p : Addr) (j : Nat), Same H H' → H p = none → Fnd n d step last other j → H' p = some (.lst ((fnd n d step last j).map V.int)) → Q (.ref p) H'
theorem mlen_fnd (n d step : Int) (last : Bool) (k : Nat) : (((fnd n d step last k).map V.int).length : Int) = (k : Int) + 1 := by
  rw [List.length_map, fnd_len]
  rfl
/-- between two turns -/
structure StInv (H : Hp) (n d step other : Int) (last : Bool) (t l : Addr) (k : Nat) (σ : L2.St) (H' : Hp) : Prop where
  lo : 22800 ≤ n + step * k
  no : ∀ i : Nat, i ≤ k → past step (X n d step last i) other = false
  ne : X n d step last k ≠ other
  sm : Same H H'
  fr : H l = none
  ht : H' t = some (.tup (dt n d))
  hl : H' l = some (.lst ((fnd n d step last k).map V.int))
  sg : ∃ y, σ = [some (.int (ms n + d - 1)), some (.int other), some (.int step), some (.bl last), some (.ref t), some (.ref l), y]
theorem ok_steps {f fD fY fA : Addr} {fd fdD fdY fdA : FuncData} (D : Df K mg "steps" sSteps ["first", "other", "months", "is_last"] f fd) (B : Bl mg) (DO : Ok P w K mg base "date_of" 3 ["day"] spDate fD fdD)
    (DY : Ok P w K mg base "day_of" 3 ["date"] (spDay K) fY fdY) (AM : Ok P w K mg base "add_months" 3 ["date", "months", "last"] (spAdd K) fA fdA) : FnOk P w K mg base CX0 4 f fd ["first", "other", "months", "is_last"] spSteps := by
  refine D.F.ok scSteps (fun vs H Q E h => ?_) (fun cdv A outer s H vs Q E hr h => ?_)
  · obtain ⟨n, d, step, other, last, rfl, _⟩ := h
    rfl
  obtain ⟨n, d, step, other, last, rfl, F, k⟩ := h
  refine ⟨_, pss_cons (ps_par (i := 4) (j := 5) (by rfl) scSteps.nd rfl rfl (by decide) rfl rfl (pa_cons (pe_call DO.O hr (by rfl) DO.G DO.kp DO.B .nil pass0 (pa_cons (pv 0) pa_nil)) (pa_cons (pe_lst (pa_cons (pv 0) pa_nil)) pa_nil)) (by rfl))
    (pss_one (ps_while PassesOwn.never (pt_val pe_bl)
      (pss_cons (ps_set (i := 6) scSteps.nd rfl (.inl rfl) (pe_call DY.O hr (by rfl) DY.G DY.kp DY.B .nil pass0 (pa_cons (pe_call AM.O hr (by rfl) AM.G AM.kp AM.B .nil pass0
          (pa_cons (pv 4) (pa_cons (pe_op op_mul (pv 2) (pe_callB call_len_seq (by rfl) B.len PySem.boot_len (pa_cons (pv 5) pa_nil))) (pa_cons (pv 3) pa_nil)))) pa_nil)))
      (pss_cons (ps_if (pt_ifExp (pt_cmpR op_gt (pv 2) pe_int (nomark _)) (pt_cmpR op_gt (pv 6) (pv 1) (nomark _)) (pt_cmpR op_lt (pv 6) (pv 1) (nomark _))) (pss_one (ps_ret (pv 5))) pss_nil)
      (pss_cons (ps_expr (pe_bm PySem.F.plainAttrs_list PySem.F.slot_list_append PySem.F.type_list_append mt_append (pv 5) (pa_cons (pv 6) pa_nil)))
      (pss_one (ps_if (pt_cmpR op_eq (pv 6) (pv 1) (nomark _)) (pss_one (ps_ret (pv 5))) pss_nil))))))), ?_⟩
  have n1 := F.n1
  have n2 := F.n2
  have x0 := X_zero F
  -- date, found = date_of(first), [first]
  refine cutS (fun σ H' => ∃ t l, StInv H n d step other last t l 0 σ H') (fun N hN => ?_) ?_
  · refine ⟨_, rfl, n, d, rfl, by omega, by omega, F.d1, F.d2, fun H1 t sm0 nt ht => ?_⟩
    refine ⟨_, rfl, (by show 1 ≤ sizeLine; decide), fun l hl => ?_⟩
    refine ⟨_, _, rfl, hN _ _ ⟨t, l, ⟨?_, fun i hi => ?_, ?_, sm0.trans (same_upd hl), sm0.free hl, ?_, ?_, none, rfl⟩⟩⟩
    · rw [show ((0 : Nat) : Int) = 0 from rfl, Int.mul_zero]
      omega
    · have e : i = 0 := by omega
      subst e
      rw [show ((0 : Nat) : Int) = 0 from rfl, x0]
      rcases Int.lt_or_gt_of_ne F.nz with h | h
      · rw [past_bwd h]
        exact decide_eq_false (by have := (F.bw h).1; omega)
      · rw [past_fwd h]
        exact decide_eq_false (by have := (F.fw h).1; omega)
    · rw [show ((0 : Nat) : Int) = 0 from rfl, x0]
      rcases Int.lt_or_gt_of_ne F.nz with h | h
      · have := (F.bw h).1
        omega
      · have := (F.fw h).1
        omega
    · rw [upd_ne (ne_of_none ht hl)]
      exact ht
    · rw [upd_same, fnd_zero, pt_self F.d2 F.l]
      rfl
  rintro σ H0 ⟨t, l, I0⟩
  -- while True
  refine ⟨fun m σ H' => ∃ i : Nat, StInv H n d step other last t l i σ H' ∧ m = 60 - i, ⟨_, 0, I0, rfl⟩, ?_⟩
  rintro m σ H1 ⟨i, I, rfl⟩
  refine ⟨_, rfl, ?_⟩
  refine iteT ⟨fun σ' H' => ∃ m', m' < 60 - i ∧ ∃ i' : Nat, StInv H n d step other last t l i' σ' H' ∧ m' = 60 - i', fun _ _ h => h, ?_⟩
  obtain ⟨y, rfl⟩ := I.sg
  have nx := X_next F I.lo (I.no i (Nat.le_refl _))
  have hlen := mlen_fnd n d step last i
  -- day = day_of(add_months(date, months * len(found), is_last))
  refine cutS (fun σ' H' => σ' = [some (.int (ms n + d - 1)), some (.int other), some (.int step), some (.bl last), some (.ref t), some (.ref l), some (.int (X n d step last ((i : Int) + 1)))] ∧ Same H1 H') (fun N hN => ?_) ?_
  · have s12 := F.s12
    refine ⟨_, rfl, _, rfl, _, rfl, l, _, rfl, .inl (SqL.of I.hl), _, _, rfl, rfl, .inl ⟨by omega, by omega⟩, _, rfl, t, n, d, step * ((i : Int) + 1), last, by rw [hlen]; rfl, SqT.of I.ht, fun H2 p sm2 np hp => ?_⟩
    refine ⟨rfl, _, ⟨p, n + step * ((i : Int) + 1), _, rfl, SqT.of hp, nx.1, by omega, rfl⟩, fun H3 sm3 => hN _ _ ⟨rfl, sm2.trans sm3⟩⟩
  rintro σ H2 ⟨rfl, sm2⟩
  have hl2 := sm2 _ _ I.hl
  have ht2 := sm2 _ _ I.ht
  have smH := I.sm.trans sm2
  -- if day > other if months > 0 else day < other
  refine cutS (fun σ' H' => σ' = [some (.int (ms n + d - 1)), some (.int other), some (.int step), some (.bl last), some (.ref t), some (.ref l), some (.int (X n d step last ((i : Int) + 1)))] ∧ H' = H2 ∧ past step (X n d step last ((i : Int) + 1)) other = false) (fun N hN => ?_) ?_
  · refine cutT (fun b H' => b = past step (X n d step last ((i : Int) + 1)) other ∧ H' = H2) (fun Q' kq => ?_) ?_
    · refine ⟨_, rfl, _, _, rfl, rfl, _, rfl, ite2 (fun c => ?_) (fun c => ?_)⟩
      · refine ⟨_, rfl, _, rfl, _, _, rfl, rfl, _, rfl, kq _ _ ⟨?_, rfl⟩⟩
        rw [past_fwd (of_decide_eq_true c)]
      · refine ⟨_, rfl, _, rfl, _, _, rfl, rfl, _, rfl, kq _ _ ⟨?_, rfl⟩⟩
        unfold past
        rw [if_neg c]
    · rintro b H' ⟨rfl, rfl⟩
      refine ite2 (fun c => ?_) (fun c => ?_)
      · exact ⟨_, rfl, k _ _ i smH I.fr ⟨I.lo, I.no, .inr c⟩ hl2⟩
      · exact hN _ _ ⟨rfl, rfl, (Bool.not_eq_true _).mp c⟩
  rintro σ H' ⟨rfl, rfl, np⟩
  have few := X_few F (k := i + 1) nx.1 np
  have no' : ∀ z : Nat, z ≤ i + 1 → past step (X n d step last z) other = false := fun z hz => by
    by_cases e : z = i + 1
    · subst e
      exact np
    · exact I.no z (by omega)
  -- found.append(day)
  refine cutS (fun σ' H3 => σ' = [some (.int (ms n + d - 1)), some (.int other), some (.int step), some (.bl last), some (.ref t), some (.ref l), some (.int (X n d step last ((i : Int) + 1)))] ∧ Same H H3 ∧ H3 t = some (.tup (dt n d)) ∧ H3 l = some (.lst ((fnd n d step last (i + 1)).map V.int))) (fun N hN => ?_) ?_
  · refine ⟨_, rfl, .inl ⟨rfl, _, SqL.of hl2⟩, _, rfl, l, _, _, rfl, rfl, hl2, ?_, hN _ _ ⟨rfl, fun b o e => ?_, ?_, ?_⟩⟩
    · rw [List.length_map, fnd_len]
      exact small1000 (by omega)
    · rw [upd_ne (ne_of_none e I.fr)]
      exact smH _ _ e
    · rw [upd_ne (ne_of ht2 hl2 (by intro q; cases q))]
      exact ht2
    · rw [upd_same, fnd_succ, List.map_append]
      rfl
  rintro σ H3 ⟨rfl, sm3, ht3, hl3⟩
  -- if day == other
  refine ⟨_, rfl, _, rfl, rfl, _, rfl, ite2 (fun c => ?_) (fun c => ?_)⟩
  · have c : X n d step last ((i : Int) + 1) = other := V.int.inj (of_decide_eq_true c)
    exact ⟨_, rfl, k _ _ (i + 1) sm3 I.fr ⟨nx.1, no', .inl c⟩ hl3⟩
  · exact ⟨60 - (i + 1), by omega, i + 1, ⟨nx.1, no', fun e => c (decide_eq_true (congrArg V.int e)), sm3, I.fr, ht3, hl3, _, rfl⟩, rfl⟩
end
end BR

set_option Elab.async false
set_option linter.all false
set_option maxRecDepth 100000
set_option maxHeartbeats 4000000
/-! schedule. -/
namespace BR
open PySem PySem.Spec PyProof.Rows L2
theorem atI_end {l : List V} {v : V} (h : l.getLast? = some v) : atI l (-1) = some v := by
  obtain ⟨ys, rfl⟩ := List.getLast?_eq_some_iff.mp h
  exact atI_last ys v
theorem last_map {l : List Int} {x : Int} (h : l.getLast? = some x) : (l.map V.int).getLast? = some (.int x) := by
  rw [List.getLast?_map, h]
  rfl
theorem start_end : ¬ (Str.ofString "end" = Str.ofString "start") := by decide +kernel
theorem short_long : ¬ (Str.ofString "short" = Str.ofString "long") := by decide +kernel
/-- which day is the first: by the side -/
def Side (side : Str) (st en mo first other step : Int) : Prop := (side = Str.ofString "start" ∧ st = first ∧ en = other ∧ step = mo) ∨ (side = Str.ofString "end" ∧ en = first ∧ st = other ∧ step = -mo)
def Stubs (stub : Str) (long : Bool) : Prop := (stub = Str.ofString "long" ∧ long = true) ∨ (stub = Str.ofString "short" ∧ long = false)
section
variable {P : Program} {w : World} {K : PySem.W.Frag} {mg : Str → Option Value} {base : Heap}
theorem scSched : FnScope ["start", "end", "months", "side", "stub", "keep", "first", "other", "step", "year", "month", "day", "found"] ["start", "end", "months", "side", "stub", "keep"] (defScope sSched) := ⟨rfl, rfl, rfl, by decide +kernel, rfl, by decide +kernel, by decide +kernel⟩
def spSched : Sp := fun vs H Q _ => ∃ (n d step other st en mo : Int) (side stub : Str) (keep long last : Bool), vs = [.int st, .int en, .int mo, .str side, .str stub, .bl keep] ∧ Side side st en mo (ms n + d - 1) other step ∧ Stubs stub long ∧
  last = (keep && decide (d = ln n)) ∧ Fit n d step last other ∧
  ∀ (H' : Hp) (p : Addr) (xs : List Int), Same H H' → H p = none → Sch n d step last other long xs → H' p = some (.tup (xs.map V.int)) → Q (.ref p) H'
theorem ok_sched {f fD fS fM : Addr} {fd fdD fdS fdM : FuncData} (D : Df K mg "schedule" sSched ["start", "end", "months", "side", "stub", "keep"] f fd) (B : Bl mg) (DO : Ok P w K mg base "date_of" 3 ["day"] spDate fD fdD)
    (S : Ok P w K mg base "steps" 4 ["first", "other", "months", "is_last"] spSteps fS fdS) (M : Ok P w K mg base "month_length" 2 ["year", "month"] spLen fM fdM) : FnOk P w K mg base CX0 5 f fd ["start", "end", "months", "side", "stub", "keep"] spSched := by
  refine D.F.ok scSched (fun vs H Q E h => ?_) (fun cdv A outer s H vs Q E hr h => ?_)
  · obtain ⟨n, d, step, other, st, en, mo, side, stub, keep, long, last, rfl, _⟩ := h
    rfl
  obtain ⟨n, d, step, other, st, en, mo, side, stub, keep, long, last, rfl, hside, hstub, hlast, F, k⟩ := h
  refine ⟨_, pss_cons (ps_asg (pe_ifExp (pt_cmpR op_eq (pv 3) pe_str (nomark _)) (pe_tup (pa_cons (pv 0) (pa_cons (pv 1) (pa_cons (pv 2) pa_nil)))) (pe_tup (pa_cons (pv 1) (pa_cons (pv 0) (pa_cons (pe_op op_sub pe_int (pv 2)) pa_nil)))))
      (pg_tup rfl (pgs_cons (pg_name (i := 6) scSched.nd rfl (.inl rfl)) (pgs_cons (pg_name (i := 7) scSched.nd rfl (.inl rfl)) (pgs_cons (pg_name (i := 8) scSched.nd rfl (.inl rfl)) pgs_nil)))))
    (pss_cons (ps_asg (pe_call DO.O (hr.mono (by decide)) (by rfl) DO.G DO.kp DO.B .nil pass0 (pa_cons (pv 6) pa_nil))
      (pg_tup rfl (pgs_cons (pg_name (i := 9) scSched.nd rfl (.inl rfl)) (pgs_cons (pg_name (i := 10) scSched.nd rfl (.inl rfl)) (pgs_cons (pg_name (i := 11) scSched.nd rfl (.inl rfl)) pgs_nil)))))
    (pss_cons (ps_set (i := 12) scSched.nd rfl (.inl rfl) (pe_call S.O hr (by rfl) S.G S.kp S.B .nil pass0 (pa_cons (pv 6) (pa_cons (pv 7) (pa_cons (pv 8) (pa_cons
        (pe_and (pv 5) (pe_one (pe_cmpR op_eq (pv 11) (pe_call M.O (hr.mono (by decide)) (by rfl) M.G M.kp M.B .nil pass0 (pa_cons (pv 9) (pa_cons (pv 10) pa_nil))) (nomark _)))) pa_nil))))))
    (pss_cons (ps_if (pt_cmpR op_ne (pe_ix ix_list (pv 12) (pe_un un_neg pe_int) (fun _ _ => rfl)) (pv 7) (nomark _))
      (pss_cons (ps_if (PW.pt (pw_and (pt_cmpR op_eq (pv 4) pe_str (nomark _)) (pw_and1 (pt_cmpR op_gt (pe_callB call_len_seq (by rfl) B.len PySem.boot_len (pa_cons (pv 12) pa_nil)) pe_int (nomark _)))))
          (pss_one (ps_expr (pe_bm0 PySem.F.plainAttrs_list PySem.F.slot_list_pop PySem.F.type_list_pop mt_pop (pv 12)))) pss_nil)
        (pss_one (ps_expr (pe_bm PySem.F.plainAttrs_list PySem.F.slot_list_append PySem.F.type_list_append mt_append (pv 12) (pa_cons (pv 7) pa_nil))))) pss_nil)
    (pss_one (ps_ret (pe_callTy call_tuple_of (by rfl) B.tuple (by decide +kernel) (pa_cons (pe_callB cr_sortedI (by rfl) B.sorted (by decide +kernel) (pa_cons (pv 12) pa_nil)) pa_nil))))))), ?_⟩
  have n1 := F.n1
  have n2 := F.n2
  -- first, other, step
  refine cutS (fun σ H' => σ = [some (.int st), some (.int en), some (.int mo), some (.str side), some (.str stub), some (.bl keep), some (.int (ms n + d - 1)), some (.int other), some (.int step), none, none, none, none] ∧ Same H H') (fun N hN => ?_) ?_
  · refine ⟨_, rfl, rfl, _, rfl, ?_⟩
    rcases hside with ⟨rfl, rfl, rfl, rfl⟩ | ⟨rfl, rfl, rfl, rfl⟩
    · refine ite2 (fun _ => ?_) (fun c => absurd (decide_eq_true rfl) c)
      refine ⟨_, rfl, _, rfl, _, rfl, (by show 3 ≤ sizeLine; decide), fun p hp => ?_⟩
      exact ⟨p, _, rfl, SqT.of upd_same, rfl, _, _, rfl, _, _, rfl, _, _, rfl, rfl, hN _ _ ⟨rfl, same_upd hp⟩⟩
    · refine ite2 (fun c => absurd (V.str.inj (of_decide_eq_true c)) start_end) (fun _ => ?_)
      refine ⟨_, rfl, _, rfl, _, rfl, _, _, rfl, rfl, (by show 3 ≤ sizeLine; decide), fun p hp => ?_⟩
      exact ⟨p, _, rfl, SqT.of upd_same, rfl, _, _, rfl, _, _, rfl, _, _, rfl, rfl, hN _ _ ⟨by rw [← Int.zero_sub]; rfl, same_upd hp⟩⟩
  rintro σ H1 ⟨rfl, sm1⟩
  -- year, month, day = date_of(first)
  refine cutS (fun σ H' => σ = [some (.int st), some (.int en), some (.int mo), some (.str side), some (.str stub), some (.bl keep), some (.int (ms n + d - 1)), some (.int other), some (.int step), some (.int (n / 12)), some (.int (n % 12 + 1)), some (.int d), none] ∧ Same H H') (fun N hN => ?_) ?_
  · refine ⟨_, rfl, n, d, rfl, by omega, by omega, F.d1, F.d2, fun H2 t sm2 nt ht => ?_⟩
    exact ⟨t, _, rfl, SqT.of ht, rfl, _, _, rfl, _, _, rfl, _, _, rfl, rfl, hN _ _ ⟨rfl, sm1.trans sm2⟩⟩
  rintro σ H2 ⟨rfl, sm2⟩
  -- found = steps(..)
  refine cutS (fun σ H' => ∃ (l : Addr) (j : Nat), σ = [some (.int st), some (.int en), some (.int mo), some (.str side), some (.str stub), some (.bl keep), some (.int (ms n + d - 1)), some (.int other), some (.int step), some (.int (n / 12)), some (.int (n % 12 + 1)), some (.int d), some (.ref l)] ∧ Same H H' ∧ H l = none ∧
      Fnd n d step last other j ∧ H' l = some (.lst ((fnd n d step last j).map V.int))) (fun N hN => ?_) ?_
  · refine ⟨_, rfl, _, rfl, _, rfl, ?_⟩
    show tAndV _ _ _ _ _
    refine cutE (fun v H' => v = .bl last ∧ Same H H') (fun Q' kq => ?_) ?_
    · refine ⟨_, rfl, _, rfl, ite2 (fun c => ?_) (fun c => ?_)⟩
      · subst c
        refine ⟨_, rfl, _, rfl, _, rfl, rfl, _, ⟨n / 12, n % 12 + 1, rfl, by omega, by omega, rfl⟩, fun H3 sm3 => ⟨rfl, kq _ _ ⟨?_, sm2.trans sm3⟩⟩⟩
        rw [hlast, dec_int, Bool.true_and]
        show V.bl (d == ln n) = _
        rfl
      · have c : keep = false := (Bool.not_eq_true _).mp c
        subst c
        exact kq _ _ ⟨by rw [hlast]; rfl, sm2⟩
    rintro v H3 ⟨rfl, sm3⟩
    refine ⟨n, d, step, other, last, rfl, F, fun H4 l j sm4 nl fj hl => hN _ _ ⟨l, j, rfl, sm3.trans sm4, sm3.free nl, fj, hl⟩⟩
  rintro σ H3 ⟨l, j, rfl, sm3, nl, fj, hl⟩
  have few := fj.few F
  have hlst := last_map (fnd_last n d step last j)
  -- the rest beside the other day
  refine cutS (fun σ H' => σ = [some (.int st), some (.int en), some (.int mo), some (.str side), some (.str stub), some (.bl keep), some (.int (ms n + d - 1)), some (.int other), some (.int step), some (.int (n / 12)), some (.int (n % 12 + 1)), some (.int d), some (.ref l)] ∧ Same H H' ∧
      H' l = some (.lst ((fin (fnd n d step last j) other long).map V.int))) (fun N hN => ?_) ?_
  · refine ⟨_, rfl, _, rfl, l, _, _, _, rfl, rfl, SqL.of hl, atI_end hlst, _, rfl, rfl, _, rfl, ite2 (fun c => ?_) (fun c => ?_)⟩
    · have c : X n d step last j ≠ other := fun e => by
        rw [e, decide_eq_true rfl] at c
        cases c
      have smu : ∀ (H4 : Hp) (o : HO), Same H H4 → Same H (upd H4 l o) := fun H4 o sm b x e => by
        rw [upd_ne (ne_of_none e nl)]
        exact sm _ _ e
      refine cutS (fun σ H' => σ = [some (.int st), some (.int en), some (.int mo), some (.str side), some (.str stub), some (.bl keep), some (.int (ms n + d - 1)), some (.int other), some (.int step), some (.int (n / 12)), some (.int (n % 12 + 1)), some (.int d), some (.ref l)] ∧ Same H H' ∧
          ∃ ys : List Int, H' l = some (.lst (ys.map V.int)) ∧ ys.length ≤ 100 ∧ fin (fnd n d step last j) other long = ys ++ [other]) (fun N2 hN2 => ?_) ?_
      · -- if stub == "long" and len(found) > 1: found.pop()
        have short : ¬ (long = true ∧ 1 < (fnd n d step last j).length) → fin (fnd n d step last j) other long = fnd n d step last j ++ [other] := fun h => by
          unfold fin
          rw [if_neg (by rw [fnd_last]; intro q; exact c (Option.some.inj q)), if_neg h]
        refine ⟨_, rfl, rfl, _, rfl, ite2 (fun q => ?_) (fun q => ?_)⟩
        · have q : stub = Str.ofString "long" := V.str.inj (of_decide_eq_true q)
          have hl1 : long = true := by
            rcases hstub with ⟨_, e⟩ | ⟨e, _⟩
            · exact e
            · exact absurd (e.symm.trans q) short_long
          refine ⟨_, rfl, l, _, rfl, .inl (SqL.of hl), _, _, rfl, rfl, _, rfl, ite2 (fun z => ?_) (fun z => ?_)⟩
          · have z := of_decide_eq_true z
            rw [List.length_map] at z
            refine ⟨_, rfl, .inl ⟨rfl, _, SqL.of hl⟩, l, _, .int (X n d step last j), rfl, rfl, hl, ?_, hN2 _ _ ⟨rfl, smu _ _ sm3, (fnd n d step last j).dropLast, ?_, ?_, ?_⟩⟩
            · rw [← List.getLast?_eq_getElem?]
              exact hlst
            · rw [upd_same, List.map_dropLast]
            · rw [List.length_dropLast, fnd_len]
              omega
            · unfold fin
              rw [if_neg (by rw [fnd_last]; intro q; exact c (Option.some.inj q)), if_pos ⟨hl1, by omega⟩]
          · have z : ¬ (1 : Int) < ((fnd n d step last j).map V.int).length := fun q => z (decide_eq_true q)
            rw [List.length_map] at z
            exact hN2 _ _ ⟨rfl, sm3, _, hl, by rw [fnd_len]; omega, short fun h => by omega⟩
        · have hl0 : long = false := by
            rcases hstub with ⟨e, _⟩ | ⟨_, e⟩
            · exact absurd (decide_eq_true (congrArg V.str e)) q
            · exact e
          exact iteF (hN2 _ _ ⟨rfl, sm3, _, hl, by rw [fnd_len]; omega, short fun h => by rw [hl0] at h; cases h.1⟩)
      rintro σ H4 ⟨rfl, sm4, ys, hy, hyl, e⟩
      refine ⟨_, rfl, .inl ⟨rfl, _, SqL.of hy⟩, _, rfl, l, _, _, rfl, rfl, hy, by rw [List.length_map]; exact small1000 (by omega), hN _ _ ⟨rfl, smu _ _ sm4, ?_⟩⟩
      rw [upd_same, e, List.map_append]
      rfl
    · have c : X n d step last j = other := by
        by_cases e : X n d step last j = other
        · exact e
        · refine absurd ?_ c
          rw [decide_eq_false (fun q => e (V.int.inj q))]
          rfl
      exact hN _ _ ⟨rfl, sm3, by rw [fin_met c]; exact hl⟩
  rintro σ H4 ⟨rfl, sm4, hf⟩
  -- return tuple(sorted(found))
  refine ⟨_, rfl, l, _, rfl, SqL.of hf, fun xs q hp hu nq => ?_⟩
  refine ⟨q, _, rfl, .inl ⟨SqL.of upd_same, fun p np => ?_⟩⟩
  refine k _ p xs ((sm4.trans (same_upd nq)).trans (same_upd np)) ((sm4.trans (same_upd nq)).free np) ⟨⟨j, fj, hp⟩, hu⟩ ?_
  rw [upd_same]
end
end BR

set_option Elab.async false
set_option linter.all false
set_option maxRecDepth 100000
/-! set(xs) of a list of ints, its order led. -/
namespace BR
open PySem PySem.Spec PyProof.Rows L2
/-- the new set, empty -/
abbrev nset (w : World) : Obj := { cls := .type "set", dict := none, data := .set #[] 0 (.fresh 0 0 (!w.params.followText "set-order")) }
/-- what stands behind set(xs) -/
def SetMade (w : World) (s : Shared) (ns : List Int) (s' : Shared) : Prop := ∃ h' tk c, s' = { s with heap := h', toks := tk } ∧ SetR w h' s.heap.objs.size (fun j => decide (j ∈ ns)) c ∧ c ≤ ns.length ∧
  ∀ b o, s.heap.get? b = some o → h'.get? b = some o
section
variable {P : Program} {w : World} {A : Around} {E : Value → Shared → Prop} {s : Shared}
theorem get_push2 {h : Heap} {x y : Obj} {b : Addr} {o : Obj} (e : h.get? b = some o) : ((h.push x).push y).get? b = some o :=
  Heap.get?_push_of_some _ (Heap.get?_push_of_some _ e)
theorem push_sz (h : Heap) (x : Obj) : (h.push x).objs.size = h.objs.size + 1 := Heap.size_push ..
theorem off_two {n b : Nat} (h : b < n) : b ≠ n ∧ b ≠ n + 1 := by omega
set_option maxHeartbeats 3200000 in
theorem set_of_ints {l : Addr} {items : Array Value} {ns : List Int} {Q : Value → Shared → Prop} (hh : A.handled = none) (hl : s.heap.IsList l items) (hi : IntsAre items.toList ns) (hb : ns.length + 1 < scanBound)
    (h : ∀ s', SetMade w s ns s' → Q (.ref s.heap.objs.size) s') : wpAny (model P w) A (call (.type "set") [.ref l]) Q E s := by
  have n1 := F.called_set.notType
  have n2 := F.called_set.canCreate
  have n3 := F.typeCall_set_1 (.ref l)
  have n4 := F.called_set.made
  have n5 := F.called_set.sub
  obtain ⟨mc, mt, n6⟩ := F.called_set.mro
  have isz : items.size = ns.length := by
    rw [← Array.length_toList]
    exact IntsAre.length hi
  refine wpAny_call (codeAny_of_tree ?_)
  change wpAny _ _ (callAny (.type "set") _) _ _ _
  refine wpAny_pure ⟨Code.quiet_builtin _ (by decide +kernel), codeAny_builtin F.entry_type_call ?_⟩
  rw [Around.under_plain (weight_type_call_type "set" [.ref l] []) rfl]
  repeat (any_goals (first | assumption | wp_step))
  refine codeAny_mono (code_set_led1 (.ref l) (E := E) (Q₁ := fun v t => v = .ref s.heap.objs.size ∧ t = { s with heap := s.heap.push (nset w) }) ⟨rfl, rfl⟩) ?_
  rintro (e | fl) s1 hr
  · exact hr
  cases fl
  case ret v =>
    obtain ⟨rfl, rfl⟩ := hr
    have at0 : (s.heap.push (nset w)).get? s.heap.objs.size = some (nset w) := Heap.get?_push_size _ rfl
    have ty0 : Shared.TypeIs { s with heap := s.heap.push (nset w) } (.ref s.heap.objs.size) "set" := ⟨_, at0, rfl⟩
    have m1 := F.called_set.init.lookup
    have m2 := F.called_set.init.bind (.ref s.heap.objs.size)
    repeat (any_goals (first | assumption | wp_step))
    refine codeAny_mono (codeAny_call_builtin (R := wants (fun r t => r = .none ∧ SetMade w s ns t) E) F.called_set.init.plain F.entry_set_init (check_set_init_1 ty0 ?_)) ?_
    · obtain ⟨⟨oc, od, odata, osl⟩, hol, hc, nl, hd⟩ := hl
      dsimp only at hc hd
      subst hc hd
      have ol1 := Heap.get?_push_of_some (nset w) hol
      have sub1 := F.sub_list_set
      have sub2 := F.sub_list_frozenset
      have nodict : (Value.type "list" == Value.type "dict") = false := by decide
      have il1 : (s.heap.push (nset w)).IsList l items := ⟨_, ol1, rfl, nl, rfl⟩
      have lt := Heap.lt_size hol
      have l2 := off_two lt
      unfold Builtin.«set.__init__» noKeywords Builtin.Frozenset.updateFrom
      generalize hp : pyIter = pyI
      wp_walk
      subst hp
      refine wpAny_pyIter_list il1 (wpAny_bind (wpAny_runValue ?_))
      have hin : A.in1.in1.in1.handled = none := by simp [hh]
      have lne : l ≠ (s.heap.push (nset w)).objs.size := by
        rw [push_sz]
        exact l2.2
      have apart : s.heap.objs.size ∉ [(s.heap.push (nset w)).objs.size, l] := by
        rw [push_sz]
        intro q
        rcases List.mem_cons.mp q with q | q
        · exact absurd q (Nat.ne_of_lt (Nat.lt_succ_self _))
        · exact l2.1 (List.mem_singleton.mp q).symm
      refine set_update_ints ((Walks.list hin _ l lne items).toS) s.heap.objs.size apart ns isz hb (fun i v hv => ?_) (items.size - 0) 0 _ (by omega) (Nat.zero_le _)
        ⟨⟨_, Heap.get?_push_size _ rfl, rfl, rfl⟩, il1.push _⟩ ⟨0, Nat.le_refl _, setR_new_at (Heap.get?_push_of_some _ at0)⟩ ?_
      · have hlt : i < ns.length := by
          rw [← isz]
          exact (Array.getElem?_eq_some_iff.mp hv).1
        obtain ⟨t, e⟩ := IntsAre.int_at hi i v (by rw [Array.getElem?_toList]; exact hv)
        refine ⟨ns[i], t, List.getElem?_eq_getElem hlt, ?_⟩
        rw [e, List.getD_eq_getElem?_getD, List.getElem?_eq_getElem hlt]
        rfl
      · rintro ⟨h', g', d', tk', os'⟩ c mv hc2 hS
        obtain rfl : g' = s.gens := mv.gens
        obtain rfl : d' = s.drawn := mv.drawn
        obtain rfl : os' = s.os := mv.os
        rw [isz] at hc2
        refine wpAny_pure (wpAny_pure ⟨rfl, h', tk', c, rfl, hS, hc2, fun b o e => mv.heap b o ?_ (get_push2 e)⟩)
        have b2 := off_two (Heap.lt_size e)
        rw [push_sz]
        intro q
        rcases List.mem_cons.mp q with q | q
        · exact b2.1 q
        · exact b2.2 (List.mem_singleton.mp q)
    · rintro (e | fl2) s2 hr2
      · exact hr2
      cases fl2
      case ret v2 =>
        obtain ⟨rfl, made⟩ := hr2
        obtain ⟨h', tk, c, rfl, m3⟩ := id made
        repeat (any_goals (first | assumption | wp_step))
        exact h _ made
      all_goals exact hr2.elim
  all_goals exact hr.elim
end
/-- set(xs) over the abstract heap -/
def rSetL (K : PySem.W.Frag) (w : World) : List V → Hp → VK → Prop := fun vs H Q => ∃ (a : Addr) (ns : List Int), vs = [V.ref a] ∧ (SqL K H a (ns.map V.int)) ∧ ns.length + 1 < scanBound ∧
  ∀ (p : Addr) (c : Nat), H p = none → c ≤ ns.length → Q (.ref p) (upd H p (SetO w p (fun j => decide (j ∈ ns)) c))
theorem cr_setL {X : Cx} (hc : X.calm = true) : CallR X (.type "set") (rSetL X.K X.w) := by
  intro pins s σ H vs us Q I r h
  obtain ⟨a, ns, rfl, hs, hb, q⟩ := h
  rw [Vals.ref1 r]
  obtain ⟨its, rv, pl, hz⟩ := I.list hs
  refine set_of_ints (I.ok.hd hc) pl.isList (ns := ns) (by simpa using ints_of_vals rv) hb fun s' made => ?_
  obtain ⟨h', tk, c, rfl, hR, hc2, keep⟩ := made
  have np : H s.heap.objs.size = none := I.hok.fresh (Nat.le_refl _)
  exact ⟨.ref _, _, I.laid (t' := tk) keep (Nat.le_refl _) (setO_new hR), rfl, q _ c np hc2⟩
def rSetT (K : PySem.W.Frag) (w : World) : List V → Hp → VK → Prop := fun vs H Q => ∃ (a : Addr) (ns : List Int), vs = [V.ref a] ∧ (SqT K H a (ns.map V.int)) ∧ ns.length + 1 < scanBound ∧
  ∀ (p : Addr) (c : Nat), H p = none → c ≤ ns.length → Q (.ref p) (upd H p (SetO w p (fun j => decide (j ∈ ns)) c))
theorem cr_setT {X : Cx} (hc : X.calm = true) : CallR X (.type "set") (rSetT X.K X.w) := by
  intro pins s σ H vs us Q I r h
  obtain ⟨a, ns, rfl, hs, hb, q⟩ := h
  rw [Vals.ref1 r]
  obtain ⟨its, rv, ht, hz⟩ := I.tuple hs
  have np : H s.heap.objs.size = none := I.hok.fresh (Nat.le_refl _)
  refine call_set_tupI ns (I.ok.hd hc) ht (by simpa using ints_of_vals rv) hb fun h' tk c hR hc2 keep => ?_
  exact ⟨.ref _, _, I.laid (t' := tk) keep (Nat.le_refl _) (setO_new hR), rfl, q _ c np hc2⟩
end BR

set_option Elab.async false
set_option linter.all false
set_option maxRecDepth 100000
set_option maxHeartbeats 4000000
/-! moved_schedule; fractions and counts. -/
namespace BR
open PySem PySem.Spec PyProof.Rows L2
section
variable {P : Program} {w : World} {K : PySem.W.Frag} {mg : Str → Option Value} {base : Heap}
theorem scMsch : FnScope ["calendar", "days", "rule", "day"] ["calendar", "days", "rule"] (defScope sMsch) := ⟨rfl, rfl, rfl, by decide +kernel, rfl, by decide +kernel, by decide +kernel⟩
def spMsch (K : PySem.W.Frag) : Sp := fun vs H Q _ => ∃ (c t : Addr) (xs : List Int), vs = [.ref c, .ref t, .str "following"] ∧ Cal K H c ∧ SqT K H t (xs.map V.int) ∧ xs.length ≤ 62 ∧
  ∀ (H' : Hp) (p : Addr) (zs : List Int), Same H H' → H p = none → zs.Pairwise (· < ·) → (∀ z, z ∈ zs ↔ z ∈ xs.map nb) → zs.length ≤ xs.length → H' p = some (.tup (zs.map V.int)) → Q (.ref p) H'
theorem at_map {xs : List Int} {i : Nat} {x : V} (h : (xs.map V.int)[i]? = some x) : ∃ z, xs[i]? = some z ∧ x = .int z := by
  rw [List.getElem?_map] at h
  cases e : xs[i]? with
  | none =>
    rw [e] at h
    cases h
  | some z =>
    rw [e] at h
    exact ⟨z, rfl, (Option.some.inj h).symm⟩
theorem ok_msch {f fM : Addr} {fd fdM : FuncData} (D : Df K mg "moved_schedule" sMsch ["calendar", "days", "rule"] f fd) (B : Bl mg) (M : Ok P w K mg base "moved" 4 ["calendar", "day", "rule"] (spMov K) fM fdM) : FnOk P w K mg base CX0 5 f fd ["calendar", "days", "rule"] (spMsch K) := by
  refine D.F.ok scMsch (fun vs H Q E h => ?_) (fun cdv A outer s H vs Q E hr h => ?_)
  · obtain ⟨c, t, xs, rfl, _⟩ := h
    rfl
  obtain ⟨c, t, xs, rfl, hc, ht, hx, k⟩ := h
  refine ⟨_, pss_one (ps_ret (pe_callTy call_tuple_of (by rfl) B.tuple (by decide +kernel) (pa_cons (pe_callB (cr_sortedSet rfl) (by rfl) B.sorted (by decide +kernel) (pa_cons (pe_callTy (cr_setL rfl) (by rfl) B.set (by decide +kernel) (pa_cons
      (pe_lc (own := [("day", 3)]) (g := gName 3) (tt := tYes) rfl scMsch.nd (pi_tup (pv 1))
        (blkOk_by (own := [("day", 3)]) (N := ["calendar", "days", "rule", "day"]) (sc := defScope sMsch) (by decide +kernel))
        (fun _ _ _ _ _ => pg_name (i := 3) scMsch.nd rfl (.inl rfl)) (fun _ _ _ _ _ => pts_nil) (fun _ _ _ _ _ => pe_call M.O hr (by rfl) M.G M.kp M.B .nil pass0 (pa_cons (pv 0) (pa_cons (pv 3) (pa_cons (pv 2) pa_nil))))) pa_nil)) pa_nil)) pa_nil))), ?_⟩
  refine ⟨_, rfl, t, rfl, ⟨_, ht⟩, fun L hL => ?_⟩
  refine lcY (walk_tup (xs := xs.map V.int)) (fun i H' => Same H H' ∧ H' L = some (.lst (((xs.take i).map nb).map V.int))) ⟨same_upd hL, upd_same⟩ (fun i H' _ q => sameT q.1 ht) (fun _ => rfl) ?_ ?_
  · rintro i x H1 H1' hi ⟨sm, ea⟩ ⟨rfl, hx⟩
    obtain ⟨z, hz, rfl⟩ := at_map hx
    rw [List.length_map] at hi
    refine ⟨_, rfl, _, rfl, _, rfl, rfl, _, ⟨c, z, rfl, hc.same sm, rfl⟩, fun H2 sm2 => ⟨_, sm2 _ _ ea, ?_, fun b o e => ?_, ?_⟩⟩
    · rw [List.length_map, List.length_map, List.length_take]
      exact small1000 (by omega)
    · rw [upd_ne (ne_of_none e hL)]
      exact sm2 _ _ (sm _ _ e)
    · rw [upd_same, List.take_add_one, hz, List.map_append, List.map_append]
      rfl
  · rintro H1 ⟨sm, ea⟩
    rw [List.length_map, List.take_length] at ea
    refine ⟨L, xs.map nb, rfl, SqL.of ea, by rw [List.length_map]; unfold scanBound; omega, fun sA cn nsA hcn => ?_⟩
    rw [List.length_map] at hcn
    refine ⟨sA, _, cn, rfl, upd_same, by omega, fun zs q inc mem len nq => ?_⟩
    refine ⟨q, _, rfl, .inl ⟨SqL.of upd_same, fun p np => ?_⟩⟩
    have s1 := (sm.trans (same_upd nsA)).trans (same_upd nq (o := .lst (zs.map V.int)))
    refine k _ p zs (s1.trans (same_upd np)) (s1.free np) inc (fun z => (mem z).trans decide_eq_true_iff) (by omega) ?_
    rw [upd_same]
/-! ### divisor -/
theorem scDiv : FnScope ["a", "b"] ["a", "b"] (defScope sDiv) := ⟨rfl, rfl, rfl, by decide +kernel, rfl, by decide +kernel, by decide +kernel⟩
def spGcd : Sp := spP 2 fun vs _ r => ∃ x y : Int, vs = [.int x, .int y] ∧ 0 ≤ x ∧ 0 ≤ y ∧ r = .int (Int.gcd x y)
theorem ok_div {f : Addr} {fd : FuncData} (D : Df K mg "divisor" sDiv ["a", "b"] f fd) (B : Bl mg) : FnOk P w K mg base CX0 1 f fd ["a", "b"] spGcd := by
  refine D.F.ok scDiv (fun vs H Q E h => h.1) (fun cdv A outer s H vs Q E hr h => ?_)
  obtain ⟨_, r, ⟨x, y, rfl, hx, hy, rfl⟩, k⟩ := h
  refine ⟨_, pss_cons (ps_while PassesOwn.never (pt_cmpR op_ne (pv 1) pe_int (nomark _))
      (pss_one (ps_par (i := 0) (j := 1) (by rfl) scDiv.nd rfl rfl (by decide) rfl rfl (pa_cons (pv 1) (pa_cons (pe_op op_mod (pv 0) (pv 1)) pa_nil)) (by rfl))))
    (pss_one (ps_ret (pe_callB call_abs (by rfl) B.abs (by decide +kernel) (pa_cons (pv 0) pa_nil)))), ?_⟩
  refine ⟨fun m σ H' => ∃ u v : Int, σ = [some (.int u), some (.int v)] ∧ 0 ≤ u ∧ 0 ≤ v ∧ Int.gcd u v = Int.gcd x y ∧ m = v.toNat ∧ H' = H, ⟨_, x, y, rfl, hx, hy, rfl, rfl, rfl⟩, ?_⟩
  rintro m σ H' ⟨u, v, rfl, hu, hv, e, rfl, rfl⟩
  refine ⟨_, rfl, rfl, _, rfl, ite2 (fun c => ?_) (fun c => ?_)⟩
  · have c : v ≠ 0 := fun z => by
      rw [z, decide_eq_true rfl] at c
      cases c
    have vp : 0 < v := by omega
    refine ⟨fun σ' H1 => ∃ m', m' < v.toNat ∧ ∃ u v : Int, σ' = [some (.int u), some (.int v)] ∧ 0 ≤ u ∧ 0 ≤ v ∧ Int.gcd u v = Int.gcd x y ∧ m' = v.toNat ∧ H1 = H', fun _ _ h => h, ?_⟩
    have m1 := Int.emod_nonneg u c
    have m2 := Int.emod_lt_of_pos u vp
    exact ⟨_, rfl, _, rfl, _, rfl, _, _, rfl, rfl, vp, _, _, rfl, (u % v).toNat, by omega, v, u % v, rfl, hv, m1, (gcd_step vp).trans e, rfl, rfl⟩
  · have c : v = 0 := by
      by_cases z : v = 0
      · exact z
      · refine absurd ?_ c
        rw [decide_eq_false (fun q => z (V.int.inj q))]
        rfl
    subst c
    have q := k H' (Same.refl H')
    rw [← e, gcd_end hu] at q
    refine ⟨_, rfl, u, rfl, ?_⟩
    rw [if_neg (by omega)]
    exact q
/-! ### fraction, of a bottom above 0 -/
theorem scFrac : FnScope ["top", "bottom", "common"] ["top", "bottom"] (defScope sFrac) := ⟨rfl, rfl, rfl, by decide +kernel, rfl, by decide +kernel, by decide +kernel⟩
/-- the fraction's two parts -/
def fr (x y : Int) : List V := [.int (x / (Int.gcd x y : Int)), .int (y / (Int.gcd x y : Int))]
def spFrac : Sp := fun vs H Q _ => ∃ x y : Int, vs = [.int x, .int y] ∧ 0 ≤ x ∧ 0 < y ∧ y < 100000 ∧ ∀ H' p, Same H H' → H p = none → H' p = some (.tup (fr x y)) → Q (.ref p) H'
theorem ok_frac {f fG : Addr} {fd fdG : FuncData} (D : Df K mg "fraction" sFrac ["top", "bottom"] f fd) (G : Ok P w K mg base "divisor" 1 ["a", "b"] spGcd fG fdG) : FnOk P w K mg base CX0 2 f fd ["top", "bottom"] spFrac := by
  refine D.F.ok scFrac (fun vs H Q E h => ?_) (fun cdv A outer s H vs Q E hr h => ?_)
  · obtain ⟨x, y, rfl, _⟩ := h
    rfl
  obtain ⟨x, y, rfl, hx, hy, hy2, k⟩ := h
  have gl := gcd_le (a := x) hy
  refine ⟨_, pss_cons (ps_set (i := 2) scFrac.nd rfl (.inl rfl) (pe_call G.O hr (by rfl) G.G G.kp G.B .nil pass0 (pa_cons (pv 0) (pa_cons (pv 1) pa_nil))))
    (pss_cons (ps_if (pt_cmpR op_lt (pv 1) pe_int (nomark _)) (pss_one ps_never) pss_nil)
    (pss_one (ps_ret (pe_tup (pa_cons (pe_op op_fdiv (pv 0) (pv 2)) (pa_cons (pe_op op_fdiv (pv 1) (pv 2)) pa_nil)))))), ?_⟩
  refine ⟨_, rfl, _, rfl, rfl, _, ⟨x, y, rfl, hx, by omega, rfl⟩, fun H1 sm => ?_⟩
  refine ⟨_, rfl, _, _, rfl, rfl, _, rfl, ite2 (fun c => absurd (of_decide_eq_true c) (by omega)) (fun _ => ?_)⟩
  refine ⟨_, rfl, _, rfl, _, _, rfl, rfl, ⟨gl.1, by omega⟩, _, rfl, _, rfl, _, _, rfl, rfl, ⟨gl.1, by omega⟩, (by show 2 ≤ sizeLine; decide), fun p hp => ?_⟩
  refine k _ p (sm.trans (same_upd hp)) (sm.free hp) ?_
  rw [upd_same]
  rfl
/-! ### by_months and count, by 30E/360 -/
theorem scBym : FnScope ["word", "first", "last", "year", "month", "day", "later_year", "later_month", "later_day"] ["word", "first", "last"] (defScope sBym) := ⟨rfl, rfl, rfl, by decide +kernel, rfl, by decide +kernel, by decide +kernel⟩
/-- two dates on the same day of the month, up to the 28th -/
def spBym : Sp := spP 3 fun vs _ r => ∃ n n' d : Int, vs = [.str "30E/360", .int (ms n + d - 1), .int (ms n' + d - 1)] ∧ 22800 ≤ n ∧ n < 26400 ∧ 22800 ≤ n' ∧ n' < 26400 ∧ 1 ≤ d ∧ d ≤ 28 ∧ r = .int (30 * (n' - n))
theorem ok_bym {f fD : Addr} {fd fdD : FuncData} (D : Df K mg "by_months" sBym ["word", "first", "last"] f fd) (B : Bl mg) (DO : Ok P w K mg base "date_of" 3 ["day"] spDate fD fdD) : FnOk P w K mg base CX0 4 f fd ["word", "first", "last"] spBym := by
  refine D.F.ok scBym (fun vs H Q E h => h.1) (fun cdv A outer s H vs Q E hr h => ?_)
  obtain ⟨_, r, ⟨n, n', d, rfl, n1, n2, n3, n4, d1, d2, rfl⟩, k⟩ := h
  have b1 := ln_bounds n
  have b2 := ln_bounds n'
  refine ⟨_, pss_cons (ps_asg (pe_call DO.O hr (by rfl) DO.G DO.kp DO.B .nil pass0 (pa_cons (pv 1) pa_nil))
      (pg_tup rfl (pgs_cons (pg_name (i := 3) scBym.nd rfl (.inl rfl)) (pgs_cons (pg_name (i := 4) scBym.nd rfl (.inl rfl)) (pgs_cons (pg_name (i := 5) scBym.nd rfl (.inl rfl)) pgs_nil)))))
    (pss_cons (ps_asg (pe_call DO.O hr (by rfl) DO.G DO.kp DO.B .nil pass0 (pa_cons (pv 2) pa_nil))
      (pg_tup rfl (pgs_cons (pg_name (i := 6) scBym.nd rfl (.inl rfl)) (pgs_cons (pg_name (i := 7) scBym.nd rfl (.inl rfl)) (pgs_cons (pg_name (i := 8) scBym.nd rfl (.inl rfl)) pgs_nil)))))
    (pss_cons (ps_set (i := 5) scBym.nd rfl (.inl rfl) (pe_callB (call_min2 rfl) (by rfl) B.min (by decide +kernel) (pa_cons (pv 5) (pa_cons pe_int pa_nil))))
    (pss_cons (ps_if (PW.pt (pw_or (pt_cmpR op_eq (pv 0) pe_str (nomark _)) (pw_or1 (pt_cmpR op_eq (pv 5) pe_int (nomark _)))))
      (pss_one (ps_set (i := 8) scBym.nd rfl (.inl rfl) (pe_callB (call_min2 rfl) (by rfl) B.min (by decide +kernel) (pa_cons (pv 8) (pa_cons pe_int pa_nil))))) pss_nil)
    (pss_one (ps_ret (pe_op op_sub (pe_op op_add (pe_op op_add (pe_op op_mul pe_int (pe_op op_sub (pv 6) (pv 3))) (pe_op op_mul pe_int (pe_op op_sub (pv 7) (pv 4)))) (pv 8)) (pv 5))))))), ?_⟩
  refine cutS (fun σ H' => σ = [some (.str (Str.ofString "30E/360")), some (.int (ms n + d - 1)), some (.int (ms n' + d - 1)), some (.int (n / 12)), some (.int (n % 12 + 1)), some (.int d), none, none, none] ∧ Same H H') (fun N hN => ?_) ?_
  · refine ⟨_, rfl, n, d, rfl, n1, n2, d1, by omega, fun H2 t sm2 nt ht => ?_⟩
    exact ⟨t, _, rfl, SqT.of ht, rfl, _, _, rfl, _, _, rfl, _, _, rfl, rfl, hN _ _ ⟨rfl, sm2⟩⟩
  rintro σ H1 ⟨rfl, sm1⟩
  refine cutS (fun σ H' => σ = [some (.str (Str.ofString "30E/360")), some (.int (ms n + d - 1)), some (.int (ms n' + d - 1)), some (.int (n / 12)), some (.int (n % 12 + 1)), some (.int d), some (.int (n' / 12)), some (.int (n' % 12 + 1)), some (.int d)] ∧ Same H H') (fun N hN => ?_) ?_
  · refine ⟨_, rfl, n', d, rfl, n3, n4, d1, by omega, fun H2 t sm2 nt ht => ?_⟩
    exact ⟨t, _, rfl, SqT.of ht, rfl, _, _, rfl, _, _, rfl, _, _, rfl, rfl, hN _ _ ⟨rfl, sm1.trans sm2⟩⟩
  rintro σ H2 ⟨rfl, sm2⟩
  have e30 : (if (30 : Int) < d then 30 else d) = d := if_neg (by omega)
  refine cutS (fun σ H' => σ = [some (.str (Str.ofString "30E/360")), some (.int (ms n + d - 1)), some (.int (ms n' + d - 1)), some (.int (n / 12)), some (.int (n % 12 + 1)), some (.int d), some (.int (n' / 12)), some (.int (n' % 12 + 1)), some (.int d)] ∧ H' = H2)
    (fun N hN => ⟨_, rfl, d, 30, rfl, hN _ _ ⟨by rw [e30]; rfl, rfl⟩⟩) ?_
  rintro σ H3 ⟨rfl, rfl⟩
  refine cutS (fun σ H' => σ = [some (.str (Str.ofString "30E/360")), some (.int (ms n + d - 1)), some (.int (ms n' + d - 1)), some (.int (n / 12)), some (.int (n % 12 + 1)), some (.int d), some (.int (n' / 12)), some (.int (n' % 12 + 1)), some (.int d)] ∧ H' = H3)
    (fun N hN => ⟨_, rfl, rfl, _, rfl, ite2 (fun _ => iteT ⟨_, rfl, d, 30, rfl, hN _ _ ⟨by rw [e30]; rfl, rfl⟩⟩) (fun c => absurd (decide_eq_true rfl) c)⟩) ?_
  rintro σ H4 ⟨rfl, rfl⟩
  refine ⟨_, rfl, _, rfl, _, _, rfl, rfl, _, _, rfl, rfl, .inl ⟨by decide, by decide⟩, _, rfl, _, rfl, _, _, rfl, rfl, _, _, rfl, rfl, .inl ⟨by decide, by decide⟩, _, _, rfl, rfl, _, rfl, _, _, rfl, rfl, _, rfl, _, _, rfl, rfl, ?_⟩
  have q := k H4 sm2
  rw [show 30 * (n' - n) = 360 * (n' / 12 - n / 12) + 30 * (n' % 12 + 1 - (n % 12 + 1)) + d - d by omega] at q
  exact q
theorem scCount : FnScope ["word", "first", "last"] ["word", "first", "last"] (defScope sCount) := ⟨rfl, rfl, rfl, by decide +kernel, rfl, by decide +kernel, by decide +kernel⟩
def spCount : Sp := fun vs H Q _ => ∃ n n' d : Int, vs = [.str "30E/360", .int (ms n + d - 1), .int (ms n' + d - 1)] ∧ 22800 ≤ n ∧ n ≤ n' ∧ n' < 26400 ∧ 1 ≤ d ∧ d ≤ 28 ∧ ∀ H' p, Same H H' → H p = none → H' p = some (.tup (fr (30 * (n' - n)) 360)) → Q (.ref p) H'
theorem w360 : ¬ (Str.ofString "30E/360" = Str.ofString "actual/360") := by decide +kernel
theorem w365 : ¬ (Str.ofString "30E/360" = Str.ofString "actual/365") := by decide +kernel
theorem ok_count {f fF fM : Addr} {fd fdF fdM : FuncData} (D : Df K mg "count" sCount ["word", "first", "last"] f fd) (FR : Ok P w K mg base "fraction" 2 ["top", "bottom"] spFrac fF fdF) (M : Ok P w K mg base "by_months" 4 ["word", "first", "last"] spBym fM fdM) :
    FnOk P w K mg base CX0 5 f fd ["word", "first", "last"] spCount := by
  refine D.F.ok scCount (fun vs H Q E h => ?_) (fun cdv A outer s H vs Q E hr h => ?_)
  · obtain ⟨n, n', d, rfl, _⟩ := h
    rfl
  obtain ⟨n, n', d, rfl, n1, n2, n3, d1, d2, k⟩ := h
  refine ⟨_, pss_cons (ps_if (pt_cmpR op_eq (pv 0) pe_str (nomark _)) (pss_one ps_never) pss_nil)
    (pss_cons (ps_if (pt_cmpR op_eq (pv 0) pe_str (nomark _)) (pss_one ps_never) pss_nil)
    (pss_one (ps_ret (pe_call FR.O (hr.mono (by decide)) (by rfl) FR.G FR.kp FR.B .nil pass0 (pa_cons (pe_call M.O hr (by rfl) M.G M.kp M.B .nil pass0 (pa_cons (pv 0) (pa_cons (pv 1) (pa_cons (pv 2) pa_nil)))) (pa_cons pe_int pa_nil)))))), ?_⟩
  refine ⟨_, rfl, rfl, _, rfl, ite2 (fun c => absurd (V.str.inj (of_decide_eq_true c)) w360) (fun _ => ?_)⟩
  refine ⟨_, rfl, rfl, _, rfl, ite2 (fun c => absurd (V.str.inj (of_decide_eq_true c)) w365) (fun _ => ?_)⟩
  refine ⟨_, rfl, _, rfl, _, rfl, rfl, _, ⟨n, n', d, rfl, n1, by omega, by omega, n3, d1, d2, rfl⟩, fun H1 sm => ?_⟩
  exact ⟨_, _, rfl, by omega, by decide, by decide, fun H2 p sm2 np hp => k H2 p (sm.trans sm2) (sm.free np) hp⟩
end
end BR

set_option Elab.async false
set_option linter.all false
set_option maxRecDepth 100000
set_option maxHeartbeats 4000000
/-! The law's own dates and fractions. -/
namespace BR
open PySem PySem.Spec PyProof.Rows L2
section
variable {P : Program} {w : World} {K : PySem.W.Frag} {mg : Str → Option Value} {base : Heap}
/-! ### _law_lengths -/
theorem scLens : FnScope ["_law_year", "_law_leap"] ["_law_year"] (defScope lLens) := ⟨rfl, rfl, rfl, by decide +kernel, rfl, by decide +kernel, by decide +kernel⟩
def spLens : Sp := fun vs H Q _ => ∃ y : Int, vs = [.int y] ∧ ∀ H' p, Same H H' → H p = none → H' p = some (.lst ((lens y).map V.int)) → Q (.ref p) H'
theorem leap_of (y : Int) : isLeap y = (decide (V.int (y % 4) = V.int 0) && (!inV (.int y) [.int 1900, .int 2100])) := by
  rw [dec_int]
  unfold isLeap inV
  by_cases h1 : y = 1900
  · subst h1
    decide
  · by_cases h2 : y = 2100
    · subst h2
      decide
    · by_cases h4 : y % 4 = 0
      · simp [eqV, h1, h2, h4]
        omega
      · simp [eqV, h1, h2, h4]
theorem ok_lens {f : Addr} {fd : FuncData} (D : Df K mg "_law_lengths" lLens ["_law_year"] f fd) (B : Bl mg) : FnOk P w K mg base CX0 1 f fd ["_law_year"] spLens := by
  refine D.F.ok scLens (fun vs H Q E h => ?_) (fun cdv A outer s H vs Q E hr h => ?_)
  · obtain ⟨y, rfl, _⟩ := h
    rfl
  obtain ⟨y, rfl, k⟩ := h
  refine ⟨_, pss_cons (ps_set (i := 1) scLens.nd rfl (.inl rfl) (pe_callTy call_int1 (by rfl) B.int (by decide +kernel) (pa_cons (pe_and (pe_cmpR op_eq (pe_op op_mod (pv 0) pe_int) pe_int (nomark _))
      (pe_one (pe_cmpR op_notIn_seq (pv 0) (pe_tup (pa_cons pe_int (pa_cons pe_int pa_nil))) (by rfl)))) pa_nil)))
    (pss_one (ps_ret (pe_lst (pa_cons pe_int (pa_cons (pe_op op_add pe_int (pv 1)) (pa_cons pe_int (pa_cons pe_int (pa_cons pe_int (pa_cons pe_int (pa_cons pe_int (pa_cons pe_int (pa_cons pe_int (pa_cons pe_int (pa_cons pe_int (pa_cons pe_int pa_nil))))))))))))))), ?_⟩
  refine cutS (fun σ H' => σ = [some (.int y), some (.int (lp y))] ∧ Same H H') (fun N hN => ?_) ?_
  · have fin : ∀ H', Same H H' → ∀ b, b = isLeap y → N [some (.int y), some (.int (if b = true then 1 else 0))] H' := fun H' sm b hb => by
      subst hb
      exact hN _ _ ⟨rfl, sm⟩
    have e := leap_of y
    refine ⟨_, rfl, _, _, rfl, rfl, (by show (0 : Int) < 4; decide), rfl, _, rfl, ite2 (fun c => ?_) (fun c => ?_)⟩
    · refine ⟨_, rfl, (by show 2 ≤ sizeLine; decide), fun p hp => ?_⟩
      refine ⟨p, _, rfl, .inr (SqT.of upd_same), rfl, rfl, .inr ⟨_, rfl, fin _ (same_upd hp) _ ?_⟩⟩
      rw [e, c]
      rfl
    · refine .inr ⟨_, rfl, fin _ (Same.refl H) _ ?_⟩
      rw [e, (Bool.not_eq_true _).mp c]
      rfl
  rintro σ H1 ⟨rfl, sm⟩
  refine ⟨_, rfl, _, _, rfl, rfl, (by show 12 ≤ sizeLine; decide), fun p hp => ?_⟩
  refine k _ p (sm.trans (same_upd hp)) (sm.free hp) ?_
  rw [upd_same]
  rfl
/-! ### _law_day_of -/
theorem cut_take (xs : List V) {j : Int} (h0 : 0 ≤ j) (h : j ≤ xs.length) : cutV xs none (some j) = xs.take j.toNat := by
  have e : j = (j.toNat : Int) := by omega
  unfold cutV
  rw [HT.sIx_none, e, HT.sIx_nat]
  rw [List.drop_zero, Nat.sub_zero, Int.toNat_natCast, Nat.min_eq_left (by omega)]
theorem lens_sum (y : Int) {m : Int} (h1 : 1 ≤ m) (h2 : m ≤ 12) : ((lens y).take (m - 1).toNat).sum = cum y m := by
  rcases months12 h1 h2 with e | e | e | e | e | e | e | e | e | e | e | e <;> subst e <;> simp [lens, cum] <;> omega
theorem lday_eq {n d : Int} (h : 22800 ≤ n) : 365 * (n / 12 - 1900) + ((if (n / 12 - 1901) / 4 > 0 then (n / 12 - 1901) / 4 else 0) - (if (decide (2100 < n / 12)) = true then 1 else 0)) + cum (n / 12) (n % 12 + 1) + d - 1 = ms n + d - 1 := by
  unfold ms ys leaps
  simp only [decide_eq_true_eq]
  repeat' split
  all_goals omega
theorem scLDay : FnScope ["_law_date", "_law_year", "_law_month", "_law_part", "_law_leaps"] ["_law_date"] (defScope lDay) := ⟨rfl, rfl, rfl, by decide +kernel, rfl, by decide +kernel, by decide +kernel⟩
theorem ok_lday {f fL : Addr} {fd fdL : FuncData} (D : Df K mg "_law_day_of" lDay ["_law_date"] f fd) (B : Bl mg) (L : Ok P w K mg base "_law_lengths" 1 ["_law_year"] spLens fL fdL) : FnOk P w K mg base CX0 2 f fd ["_law_date"] (spDay K) := by
  refine D.F.ok scLDay (fun vs H Q E h => h.1) (fun cdv A outer s H vs Q E hr h => ?_)
  obtain ⟨_, r, ⟨a, n, d, rfl, hT, h1, h2, rfl⟩, k⟩ := h
  refine ⟨_, pss_cons (ps_asg (pv 0) (pg_tup rfl (pgs_cons (pg_name (i := 1) scLDay.nd rfl (.inl rfl)) (pgs_cons (pg_name (i := 2) scLDay.nd rfl (.inl rfl)) (pgs_cons (pg_name (i := 3) scLDay.nd rfl (.inl rfl)) pgs_nil)))))
    (pss_cons (ps_set (i := 4) scLDay.nd rfl (.inl rfl) (pe_op op_sub (pe_callB (call_max2 rfl) (by rfl) B.max (by decide +kernel) (pa_cons pe_int (pa_cons (pe_op op_fdiv (pe_op op_sub (pv 1) pe_int) pe_int) pa_nil)))
      (pe_callTy call_int1 (by rfl) B.int (by decide +kernel) (pa_cons (pe_cmpR op_gt (pv 1) pe_int (nomark _)) pa_nil))))
    (pss_one (ps_ret (pe_op op_sub (pe_op op_add (pe_op op_add (pe_op op_add (pe_op op_mul pe_int (pe_op op_sub (pv 1) pe_int)) (pv 4))
      (pe_callB (cr_sum rfl) (by rfl) B.sum (by decide +kernel) (pa_cons (pe_slice sl_list (pe_call L.O hr (by rfl) L.G L.kp L.B .nil pass0 (pa_cons (pv 1) pa_nil)) po_none (po_some (pe_op op_sub (pv 2) pe_int))) pa_nil))) (pv 3)) pe_int)))), ?_⟩
  refine cutS (fun σ H' => σ = [some (.ref a), some (.int (n / 12)), some (.int (n % 12 + 1)), some (.int d), none] ∧ H' = H)
    (fun N hN => ⟨_, rfl, a, _, rfl, hT, rfl, _, _, rfl, _, _, rfl, _, _, rfl, rfl, hN _ _ ⟨rfl, rfl⟩⟩) ?_
  rintro σ H0 ⟨rfl, rfl⟩
  refine cutS (fun σ H' => σ = [some (.ref a), some (.int (n / 12)), some (.int (n % 12 + 1)), some (.int d), some (.int ((if (n / 12 - 1901) / 4 > 0 then (n / 12 - 1901) / 4 else 0) - (if (decide (2100 < n / 12)) = true then 1 else 0)))] ∧ H' = H0)
    (fun N hN => ⟨_, rfl, _, _, rfl, rfl, _, _, rfl, rfl, ⟨by decide, by decide⟩, 0, _, rfl, _, rfl, _, _, rfl, rfl, .inr ⟨_, rfl, _, _, rfl, rfl, hN _ _ ⟨rfl, rfl⟩⟩⟩) ?_
  rintro σ H1 ⟨rfl, rfl⟩
  refine ⟨_, rfl, _, _, rfl, rfl, _, _, rfl, rfl, .inl ⟨by decide, by decide⟩, _, rfl, _, _, rfl, rfl, _, rfl, n / 12, rfl, fun H2 l sm2 nl hl => ?_⟩
  refine ⟨_, rfl, _, _, rfl, rfl, _, rfl, l, _, rfl, SqL.of hl, fun q nq => ?_⟩
  refine ⟨q, (lens (n / 12)).take (n % 12 + 1 - 1).toNat, rfl, SqL.of ?_, _, _, rfl, rfl, _, rfl, _, _, rfl, rfl, _, _, rfl, rfl, ?_⟩
  · rw [upd_same]
    show some (HO.lst (cutV ((lens (n / 12)).map V.int) none (some (n % 12 + 1 - 1)))) = _
    rw [cut_take _ (by omega) (by rw [List.length_map]; show n % 12 + 1 - 1 ≤ 12; omega), List.map_take]
  · have z : ∀ H', Same H1 H' → Q (.int (365 * (n / 12 - 1900) + ((if (n / 12 - 1901) / 4 > 0 then (n / 12 - 1901) / 4 else 0) - (if (decide (2100 < n / 12)) = true then 1 else 0)) + cum (n / 12) (n % 12 + 1) + d - 1)) H' := by
      rw [lday_eq h1]
      exact k
    rw [lens_sum _ (by omega) (by omega)]
    exact z _ (sm2.trans (same_upd nq))
/-! ### _law_date_of -/
theorem scLDate : FnScope ["_law_day", "_law_year", "_law_rest", "_law_month"] ["_law_day"] (defScope lDate) := ⟨rfl, rfl, rfl, by decide +kernel, rfl, by decide +kernel, by decide +kernel⟩
theorem dt_jan (y : Int) : dt (12 * y) 1 = [.int y, .int 1, .int 1] := by
  unfold dt
  rw [show 12 * y / 12 = y by omega, show 12 * y % 12 + 1 = 1 by omega]
theorem ok_ldate {f fY fM : Addr} {fd fdY fdM : FuncData} (D : Df K mg "_law_date_of" lDate ["_law_day"] f fd) (Y : Ok P w K mg base "_law_day_of" 2 ["_law_date"] (spDay K) fY fdY) (M : Ok P w K mg base "_law_lengths" 1 ["_law_year"] spLens fM fdM) :
    FnOk P w K mg base CX0 3 f fd ["_law_day"] spDate := by
  refine D.F.ok scLDate (fun vs H Q E h => ?_) (fun cdv A outer s H vs Q E hr h => ?_)
  · obtain ⟨n, d, rfl, _⟩ := h
    rfl
  obtain ⟨n, d, rfl, n1, n2, d1, d2, k⟩ := h
  obtain ⟨y1, y2⟩ := ys_of n1 d1 d2
  have dpos : 0 ≤ ms n + d - 1 := by
    have := ys_ge (y := n / 12) (by omega)
    omega
  generalize hD : ms n + d - 1 = day at y1 y2 dpos
  have hr1 : Room 1 _ := hr.mono (by decide)
  refine ⟨_, pss_cons (ps_set (i := 1) scLDate.nd rfl (.inl rfl) (pe_op op_add pe_int (pe_op op_fdiv (pv 0) pe_int)))
    (pss_cons (ps_while PassesOwn.never (PW.pt (pw_and (pt_cmpR op_lt (pv 1) pe_int (nomark _))
        (pw_and1 (pt_cmpR op_le (pe_call Y.O hr (by rfl) Y.G Y.kp Y.B .nil pass0 (pa_cons (pe_tup (pa_cons (pe_op op_add (pv 1) pe_int) (pa_cons pe_int (pa_cons pe_int pa_nil)))) pa_nil)) (pv 0) (nomark _)))))
      (pss_one (ps_set (i := 1) scLDate.nd rfl (.inl rfl) (pe_op op_add (pv 1) pe_int))))
    (pss_cons (ps_par (i := 2) (j := 3) (by rfl) scLDate.nd rfl rfl (by decide) rfl rfl (pa_cons (pe_op op_sub (pv 0) (pe_call Y.O hr (by rfl) Y.G Y.kp Y.B .nil pass0 (pa_cons (pe_tup (pa_cons (pv 1) (pa_cons pe_int (pa_cons pe_int pa_nil)))) pa_nil))) (pa_cons pe_int pa_nil)) (by rfl))
    (pss_cons (ps_while PassesOwn.never (pt_cmpR op_ge (pv 2) (pe_ix ix_list (pe_call M.O hr1 (by rfl) M.G M.kp M.B .nil pass0 (pa_cons (pv 1) pa_nil)) (pe_op op_sub (pv 3) pe_int) (fun _ _ => rfl)) (nomark _))
      (pss_one (ps_par (i := 2) (j := 3) (by rfl) scLDate.nd rfl rfl (by decide) rfl rfl (pa_cons (pe_op op_sub (pv 2) (pe_ix ix_list (pe_call M.O hr1 (by rfl) M.G M.kp M.B .nil pass0 (pa_cons (pv 1) pa_nil)) (pe_op op_sub (pv 3) pe_int) (fun _ _ => rfl)))
        (pa_cons (pe_op op_add (pv 3) pe_int) pa_nil)) (by rfl))))
    (pss_one (ps_ret (pe_tup (pa_cons (pv 1) (pa_cons (pv 3) (pa_cons (pe_op op_add (pv 2) pe_int) pa_nil))))))))), ?_⟩
  refine cutS (fun σ H' => σ = [some (.int day), some (.int (1900 + day / 366)), none, none] ∧ H' = H) (fun N hN => ⟨_, rfl, _, _, rfl, rfl, ⟨by decide, by decide⟩, _, _, rfl, rfl, hN _ _ ⟨rfl, rfl⟩⟩) ?_
  rintro σ H0 ⟨rfl, rfl⟩
  refine cutS (fun σ H' => σ = [some (.int day), some (.int (n / 12)), none, none] ∧ Same H0 H') (fun N hN => ?_) ?_
  · refine ⟨fun m σ H' => ∃ y : Int, σ = [some (.int day), some (.int y), none, none] ∧ 1900 ≤ y ∧ y ≤ n / 12 ∧ m = (n / 12 - y).toNat ∧ Same H0 H',
      ⟨_, 1900 + day / 366, rfl, by omega, ?_, rfl, Same.refl H0⟩, ?_⟩
    · have := ys_ge (y := n / 12 + 1) (by omega)
      omega
    rintro m σ H1 ⟨y, rfl, h1, h2, rfl, sm⟩
    refine cutT (fun b H2 => b = decide (y < n / 12) ∧ Same H0 H2) (fun Q' kq => ?_) ?_
    · refine ⟨_, rfl, _, _, rfl, rfl, _, rfl, ite2 (fun c => ?_) (fun c => ?_)⟩
      · have c := of_decide_eq_true c
        refine ⟨_, rfl, _, _, rfl, rfl, (by show 3 ≤ sizeLine; decide), fun p hp => ?_⟩
        refine ⟨rfl, _, ⟨p, 12 * (y + 1), 1, rfl, SqT.of (by rw [upd_same, dt_jan]), by omega, by omega, rfl⟩, fun H2 sm2 => ?_⟩
        refine ⟨_, rfl, _, _, rfl, rfl, _, rfl, kq _ _ ⟨decide_eq_decide.mpr ⟨fun q => ?_, fun q => ?_⟩, (sm.trans (same_upd hp)).trans sm2⟩⟩
        · rw [← ys_eq] at q
          by_cases e : y < n / 12
          · exact e
          · have e : y = n / 12 := by omega
            subst e
            omega
        · rw [← ys_eq]
          have := ys_mono (y := y + 1) (z := n / 12) (by omega) (by omega)
          omega
      · have c : ¬ y < 2199 := fun q => c (decide_eq_true q)
        refine kq _ _ ⟨(decide_eq_false (by omega)).symm, sm⟩
    · rintro b H2 ⟨rfl, sm2⟩
      refine ite2 (fun c => ?_) (fun c => ?_)
      · have c := of_decide_eq_true c
        refine ⟨fun σ' H' => ∃ m', m' < (n / 12 - y).toNat ∧ ∃ y : Int, σ' = [some (.int day), some (.int y), none, none] ∧ 1900 ≤ y ∧ y ≤ n / 12 ∧ m' = (n / 12 - y).toNat ∧ Same H0 H', fun _ _ h => h, ?_⟩
        exact ⟨_, rfl, _, _, rfl, rfl, (n / 12 - (y + 1)).toNat, by omega, y + 1, rfl, by omega, by omega, rfl, sm2⟩
      · have c : ¬ y < n / 12 := fun q => c (decide_eq_true q)
        have e : y = n / 12 := by omega
        exact hN _ _ ⟨by rw [e], sm2⟩
  rintro σ H1 ⟨rfl, sm⟩
  refine cutS (fun σ H' => σ = [some (.int day), some (.int (n / 12)), some (.int (day - ys (n / 12))), some (.int 1)] ∧ Same H0 H') (fun N hN => ?_) ?_
  · refine ⟨_, rfl, _, rfl, (by show 3 ≤ sizeLine; decide), fun p hp => ?_⟩
    refine ⟨rfl, _, ⟨p, 12 * (n / 12), 1, rfl, SqT.of (by rw [upd_same, dt_jan]), by omega, by omega, rfl⟩, fun H2 sm2 => ?_⟩
    refine ⟨_, _, rfl, rfl, _, _, rfl, hN _ _ ⟨?_, (sm.trans (same_upd hp)).trans sm2⟩⟩
    rw [← ys_eq, show ys (n / 12) + 1 - 1 = ys (n / 12) by omega]
    rfl
  rintro σ H2 ⟨rfl, sm2⟩
  have dy : day = ys (n / 12) + cum (n / 12) (n % 12 + 1) + d - 1 := by
    rw [← hD]
    unfold ms
    rfl
  refine cutS (fun σ H' => σ = [some (.int day), some (.int (n / 12)), some (.int (d - 1)), some (.int (n % 12 + 1))] ∧ Same H0 H') (fun N hN => ?_) ?_
  · refine ⟨fun m σ H' => ∃ z : Int, σ = [some (.int day), some (.int (n / 12)), some (.int (day - ys (n / 12) - cum (n / 12) z)), some (.int z)] ∧ 1 ≤ z ∧ z ≤ n % 12 + 1 ∧ m = (n % 12 + 1 - z).toNat ∧ Same H0 H',
      ⟨_, 1, by rw [cum_one, Int.sub_zero], by omega, by omega, rfl, sm2⟩, ?_⟩
    rintro m σ H3 ⟨z, rfl, h1, h2, rfl, sm3⟩
    have at_ : ((lens (n / 12)).map V.int)[(z - 1).toNat]? = some (.int (mlen (n / 12) z)) := by
      rw [List.getElem?_map, mlen_lens _ h1 (by omega)]
      rfl
    refine ⟨_, rfl, _, rfl, n / 12, rfl, fun H4 l sm4 nl hl => ?_⟩
    refine ⟨_, rfl, _, _, rfl, rfl, l, _, z - 1, _, rfl, rfl, SqL.of hl, at_of (j := (z - 1).toNat) (by omega) at_, ?_⟩
    refine ⟨_, _, rfl, rfl, _, rfl, ite2 (fun c => ?_) (fun c => ?_)⟩
    · have c := of_decide_eq_true c
      have lt : z < n % 12 + 1 := by
        by_cases e : z < n % 12 + 1
        · exact e
        · have e : z = n % 12 + 1 := by omega
          subst e
          unfold ln at d2
          omega
      refine ⟨fun σ' H' => ∃ m', m' < (n % 12 + 1 - z).toNat ∧ ∃ z : Int, σ' = [some (.int day), some (.int (n / 12)), some (.int (day - ys (n / 12) - cum (n / 12) z)), some (.int z)] ∧ 1 ≤ z ∧ z ≤ n % 12 + 1 ∧ m' = (n % 12 + 1 - z).toNat ∧ Same H0 H', fun _ _ h => h, ?_⟩
      refine ⟨_, rfl, _, rfl, n / 12, rfl, fun H5 l2 sm5 nl2 hl2 => ?_⟩
      refine ⟨_, rfl, _, _, rfl, rfl, l2, _, z - 1, _, rfl, rfl, SqL.of hl2, at_of (j := (z - 1).toNat) (by omega) at_, _, _, rfl, rfl, ?_⟩
      refine ⟨_, rfl, _, _, rfl, rfl, _, _, rfl, (n % 12 + 1 - (z + 1)).toNat, by omega, z + 1, ?_, by omega, by omega, rfl, (sm3.trans sm4).trans sm5⟩
      rw [cum_succ _ h1 (by omega), show day - ys (n / 12) - (cum (n / 12) z + mlen (n / 12) z) = day - ys (n / 12) - cum (n / 12) z - mlen (n / 12) z by omega]
      rfl
    · have c : ¬ mlen (n / 12) z ≤ day - ys (n / 12) - cum (n / 12) z := fun q => c (decide_eq_true q)
      have e : z = n % 12 + 1 := by
        by_cases e : z = n % 12 + 1
        · exact e
        · have a := cum_succ (n / 12) h1 (by omega)
          have b := ms_mono (n := 12 * (n / 12) + (z + 1) - 1) (n' := n) (by omega) (by omega)
          rw [ms_at _ (by omega) (by omega)] at b
          unfold ms at b
          omega
      subst e
      exact hN _ _ ⟨by rw [show day - ys (n / 12) - cum (n / 12) (n % 12 + 1) = d - 1 by omega], sm3.trans sm4⟩
  rintro σ H3 ⟨rfl, sm3⟩
  refine ⟨_, rfl, _, rfl, _, rfl, _, _, rfl, rfl, (by show 3 ≤ sizeLine; decide), fun p hp => ?_⟩
  refine k _ p (sm3.trans (same_upd hp)) (sm3.free hp) ?_
  rw [upd_same]
  show some (HO.tup [V.int (n / 12), V.int (n % 12 + 1), V.int (d - 1 + 1)]) = _
  rw [show d - 1 + 1 = d by omega]
  rfl
/-! ### _law_gcd, _law_fraction -/
theorem scLGcd : FnScope ["_law_a", "_law_b"] ["_law_a", "_law_b"] (defScope lGcd) := ⟨rfl, rfl, rfl, by decide +kernel, rfl, by decide +kernel, by decide +kernel⟩
theorem ok_lgcd {f : Addr} {fd : FuncData} (D : Df K mg "_law_gcd" lGcd ["_law_a", "_law_b"] f fd) (B : Bl mg) : FnOk P w K mg base CX0 1 f fd ["_law_a", "_law_b"] spGcd := by
  refine D.F.ok scLGcd (fun vs H Q E h => h.1) (fun cdv A outer s H vs Q E hr h => ?_)
  obtain ⟨_, r, ⟨x, y, rfl, hx, hy, rfl⟩, k⟩ := h
  refine ⟨_, pss_cons (ps_while PassesOwn.never (pt_cmpR op_ne (pv 1) pe_int (nomark _))
      (pss_one (ps_par (i := 0) (j := 1) (by rfl) scLGcd.nd rfl rfl (by decide) rfl rfl (pa_cons (pv 1) (pa_cons (pe_op op_mod (pv 0) (pv 1)) pa_nil)) (by rfl))))
    (pss_one (ps_ret (pe_callB call_abs (by rfl) B.abs (by decide +kernel) (pa_cons (pv 0) pa_nil)))), ?_⟩
  refine ⟨fun m σ H' => ∃ u v : Int, σ = [some (.int u), some (.int v)] ∧ 0 ≤ u ∧ 0 ≤ v ∧ Int.gcd u v = Int.gcd x y ∧ m = v.toNat ∧ H' = H, ⟨_, x, y, rfl, hx, hy, rfl, rfl, rfl⟩, ?_⟩
  rintro m σ H' ⟨u, v, rfl, hu, hv, e, rfl, rfl⟩
  refine ⟨_, rfl, rfl, _, rfl, ite2 (fun c => ?_) (fun c => ?_)⟩
  · have c : v ≠ 0 := fun z => by
      rw [z, decide_eq_true rfl] at c
      cases c
    have vp : 0 < v := by omega
    refine ⟨fun σ' H1 => ∃ m', m' < v.toNat ∧ ∃ u v : Int, σ' = [some (.int u), some (.int v)] ∧ 0 ≤ u ∧ 0 ≤ v ∧ Int.gcd u v = Int.gcd x y ∧ m' = v.toNat ∧ H1 = H', fun _ _ h => h, ?_⟩
    have m1 := Int.emod_nonneg u c
    have m2 := Int.emod_lt_of_pos u vp
    exact ⟨_, rfl, _, rfl, _, rfl, _, _, rfl, rfl, vp, _, _, rfl, (u % v).toNat, by omega, v, u % v, rfl, hv, m1, (gcd_step vp).trans e, rfl, rfl⟩
  · have c : v = 0 := by
      by_cases z : v = 0
      · exact z
      · refine absurd ?_ c
        rw [decide_eq_false (fun q => z (V.int.inj q))]
        rfl
    subst c
    have q := k H' (Same.refl H')
    rw [← e, gcd_end hu] at q
    refine ⟨_, rfl, u, rfl, ?_⟩
    rw [if_neg (by omega)]
    exact q
theorem scLFrac : FnScope ["_law_top", "_law_bottom", "_law_shared"] ["_law_top", "_law_bottom"] (defScope lFrac) := ⟨rfl, rfl, rfl, by decide +kernel, rfl, by decide +kernel, by decide +kernel⟩
theorem ok_lfrac {f fG : Addr} {fd fdG : FuncData} (D : Df K mg "_law_fraction" lFrac ["_law_top", "_law_bottom"] f fd) (G : Ok P w K mg base "_law_gcd" 1 ["_law_a", "_law_b"] spGcd fG fdG) : FnOk P w K mg base CX0 2 f fd ["_law_top", "_law_bottom"] spFrac := by
  refine D.F.ok scLFrac (fun vs H Q E h => ?_) (fun cdv A outer s H vs Q E hr h => ?_)
  · obtain ⟨x, y, rfl, _⟩ := h
    rfl
  obtain ⟨x, y, rfl, hx, hy, hy2, k⟩ := h
  have gl := gcd_le (a := x) hy
  refine ⟨_, pss_cons (ps_set (i := 2) scLFrac.nd rfl (.inl rfl) (pe_call G.O hr (by rfl) G.G G.kp G.B .nil pass0 (pa_cons (pv 0) (pa_cons (pv 1) pa_nil))))
    (pss_one (ps_ret (pe_tup (pa_cons (pe_op op_fdiv (pv 0) (pv 2)) (pa_cons (pe_op op_fdiv (pv 1) (pv 2)) pa_nil))))), ?_⟩
  refine ⟨_, rfl, _, rfl, rfl, _, ⟨x, y, rfl, hx, by omega, rfl⟩, fun H1 sm => ?_⟩
  refine ⟨_, rfl, _, rfl, _, _, rfl, rfl, ⟨gl.1, by omega⟩, _, rfl, _, rfl, _, _, rfl, rfl, ⟨gl.1, by omega⟩, (by show 2 ≤ sizeLine; decide), fun p hp => ?_⟩
  refine k _ p (sm.trans (same_upd hp)) (sm.free hp) ?_
  rw [upd_same]
  rfl
end
end BR

set_option Elab.async false
set_option linter.all false
set_option maxRecDepth 100000
set_option maxHeartbeats 4000000
/-! The law's pen: cells, a place, a number. -/
namespace BR
open PySem PySem.Spec PyProof.Rows L2
/-- all but p is as it was -/
def But (p : Addr) (H H' : Hp) : Prop := ∀ b o, b ≠ p → H b = some o → H' b = some o
theorem But.of {p : Addr} {H H' : Hp} (h : Same H H') : But p H H' := fun b o _ e => h b o e
theorem But.trans {p : Addr} {H H1 H2 : Hp} (a : But p H H1) (b : But p H1 H2) : But p H H2 := fun c o n e => b c o n (a c o n e)
theorem But.upd {p : Addr} {H : Hp} {o : HO} : But p H (L2.upd H p o) := fun b x n e => by
  rw [upd_ne n]
  exact e
/-- the pen at p: its cells at c, the place a, the number v -/
structure Pen (H : Hp) (p c : Addr) (a v : Int) : Prop where
  ne : c ≠ p
  at_ : H p = some (.lst [.ref c, .int a, .int v])
  cells : ∃ cs : List Int, cs.length ≤ 12 ∧ H c = some (.lst (cs.map V.int))
theorem Pen.but {H H' : Hp} {p c : Addr} {a v : Int} (P : Pen H p c a v) {a' v' : Int} (b : But p H H') (e : H' p = some (.lst [.ref c, .int a', .int v'])) : Pen H' p c a' v' := by
  obtain ⟨cs, hc, hl⟩ := P.cells
  exact ⟨P.ne, e, cs, hc, b _ _ P.ne hl⟩
theorem Pen.same {H H' : Hp} {p c : Addr} {a v : Int} (P : Pen H p c a v) (b : Same H H') : Pen H' p c a v := P.but (But.of b) (b _ _ P.at_)
/-! ### a slice of ints is one of ints -/
theorem cut_ints (ns : List Int) (lo hi : Option Int) : ∃ zs : List Int, cutV (ns.map V.int) lo hi = zs.map V.int := by
  unfold cutV
  exact ⟨_, by rw [← List.map_drop, ← List.map_take]⟩
theorem cut_12 (xs : List V) : (cutV xs none (some 12)).length = min 12 xs.length := by
  unfold cutV
  rw [HT.sIx_none, show (12 : Int) = ((12 : Nat) : Int) from rfl, HT.sIx_nat, List.length_take, List.length_drop]
  omega
theorem cut_63 (xs : List V) (h : xs.length ≤ 12) : (cutV xs (some 12) (some 63)).length = 0 := by
  unfold cutV
  rw [show (12 : Int) = ((12 : Nat) : Int) from rfl, show (63 : Int) = ((63 : Nat) : Int) from rfl, HT.sIx_nat, HT.sIx_nat, List.length_take, List.length_drop]
  omega
section
variable {P : Program} {w : World} {K : PySem.W.Frag} {mg : Str → Option Value} {base : Heap}
/-! ### _law_open -/
theorem scOpen : FnScope ["_law_script", "_law_cells", "_law_k", "_law_cell"] ["_law_script"] (defScope lOpen) := ⟨rfl, rfl, rfl, by decide +kernel, rfl, by decide +kernel, by decide +kernel⟩
def spOpen (K : PySem.W.Frag) : Sp := fun vs H Q _ => ∃ (a : Addr) (ns : List Int), vs = [.ref a] ∧ SqL K H a (ns.map V.int) ∧ ns.length ≤ 63 ∧
  ∀ (H' : Hp) (p c : Addr), Same H H' → H p = none → Pen H' p c 0 0 → Q (.ref p) H'
theorem ok_open {f : Addr} {fd : FuncData} (D : Df K mg "_law_open" lOpen ["_law_script"] f fd) (B : Bl mg) : FnOk P w K mg base CX0 1 f fd ["_law_script"] (spOpen K) := by
  refine D.F.ok scOpen (fun vs H Q E h => ?_) (fun cdv A outer s H vs Q E hr h => ?_)
  · obtain ⟨a, ns, rfl, _⟩ := h
    rfl
  obtain ⟨a, ns, rfl, hS, hn, k⟩ := h
  refine ⟨_, pss_cons (ps_set (i := 1) scOpen.nd rfl (.inl rfl) (pe_callTy call_list_of (by rfl) B.list (by decide +kernel) (pa_cons (pe_slice sl_list (pv 0) po_none (po_some pe_int)) pa_nil)))
    (pss_cons (ps_for PassesOwn.never rfl (pi_enum (by rfl) B.enum (pa_cons (pe_slice sl_list (pv 0) (po_some pe_int) (po_some pe_int)) pa_nil))
        (pg_tup rfl (pgs_cons (pg_name (i := 2) scOpen.nd rfl (.inl rfl)) (pgs_cons (pg_name (i := 3) scOpen.nd rfl (.inl rfl)) pgs_nil)))
      (pss_one (ps_asg (pe_op op_add (pe_ix ix_list (pv 1) (pe_op op_mod (pv 2) pe_int) (fun _ _ => rfl)) (pv 3)) (pg_sub (pv 1) (pe_op op_mod (pv 2) pe_int) set_list))))
    (pss_one (ps_ret (pe_lst (pa_cons (pv 1) (pa_cons pe_int (pa_cons pe_int pa_nil))))))), ?_⟩
  -- cells = list(script[:12])
  refine cutS (fun σ H' => ∃ c, σ = [some (.ref a), some (.ref c), none, none] ∧ Same H H' ∧ H c = none ∧ ∃ cs : List Int, cs.length = min 12 ns.length ∧ H' c = some (.lst (cs.map V.int))) (fun N hN => ?_) ?_
  · refine ⟨_, rfl, _, rfl, a, _, rfl, hS, fun q nq => ?_⟩
    refine ⟨q, _, rfl, .inl (SqL.of upd_same), fun c nc => ?_⟩
    obtain ⟨cs, hcs⟩ := cut_ints ns none (some 12)
    have s1 := same_upd nq (o := .lst (cutV (ns.map V.int) none (some 12)))
    refine hN _ _ ⟨c, rfl, s1.trans (same_upd nc), s1.free nc, cs, ?_, ?_⟩
    · have e := cut_12 (ns.map V.int)
      rw [hcs, List.length_map, List.length_map] at e
      exact e
    · rw [upd_same, hcs]
  rintro σ H1 ⟨c, rfl, sm1, nc, cs, hcl, hc⟩
  -- the loop
  refine cutS (fun σ H' => ∃ y2 y3, σ = [some (.ref a), some (.ref c), y2, y3] ∧ Same H H' ∧ ∃ cs : List Int, cs.length = min 12 ns.length ∧ H' c = some (.lst (cs.map V.int))) (fun N hN => ?_) ?_
  · refine ⟨_, rfl, _, rfl, _, rfl, a, _, rfl, sm1.seq hS, fun q nq => ?_⟩
    have ncq : c ≠ q := ne_of_none hc nq
    refine ⟨q, _, rfl, SqL.of upd_same, ?_⟩
    obtain ⟨zs, hzs⟩ := cut_ints ns (some 12) (some 63)
    refine for_it (walk_enum (xs := cutV (ns.map V.int) (some 12) (some 63))) (fun i σ H' => ∃ y2 y3, σ = [some (.ref a), some (.ref c), y2, y3] ∧ Same H H' ∧ H' q = some (.lst (cutV (ns.map V.int) (some 12) (some 63))) ∧ ∃ cs : List Int, cs.length = min 12 ns.length ∧ H' c = some (.lst (cs.map V.int)))
      ⟨none, none, rfl, sm1.trans (same_upd nq), upd_same, cs, hcl, by rw [upd_ne ncq]; exact hc⟩ (fun i σ H' _ ⟨_, _, _, _, e, _⟩ => SqL.of e) ?_ ?_
    · rintro i x σ H2 H3 hi ⟨y2, y3, rfl, sm2, hq, cs, hcl, hc⟩ ⟨T, u, v, rfl, nT, rfl, hu, hv⟩
      obtain rfl : V.int (i : Nat) = u := Option.some.inj hu
      rw [hzs] at hv
      obtain ⟨z, hz, rfl⟩ := at_map hv
      have n13 : 12 < ns.length := by
        by_cases e : 12 < ns.length
        · exact e
        · have := cut_63 (ns.map V.int) (by rw [List.length_map]; omega)
          omega
      have ncT : c ≠ T := ne_of_none hc nT
      have nqT : q ≠ T := ne_of_none hq nT
      have hc3 : (L2.upd H2 T (.tup [.int (i : Nat), .int z])) c = some (.lst (cs.map V.int)) := by
        rw [upd_ne ncT]
        exact hc
      have hcl12 : cs.length = 12 := by omega
      have hj : i % 12 < cs.length := by omega
      have e1 : ((i : Int) % 12) = ((i % 12 : Nat) : Int) := by omega
      have g1 : (cs.map V.int)[i % 12]? = some (.int cs[i % 12]) := by
        rw [List.getElem?_map, List.getElem?_eq_getElem hj]
        rfl
      refine ⟨T, _, rfl, SqT.of upd_same, rfl, _, _, rfl, _, _, rfl, rfl, ?_⟩
      refine ⟨_, rfl, _, rfl, _, _, rfl, rfl, (by show (0 : Int) < 12; decide), c, _, _, _, rfl, rfl, SqL.of hc3, at_of e1 g1, _, rfl, _, _, rfl, rfl, ?_⟩
      refine ⟨_, rfl, _, rfl, _, _, rfl, rfl, (by show (0 : Int) < 12; decide), c, _, _, i % 12, rfl, rfl, hc3, ?_, ?_⟩
      · unfold ixN
        rw [e1, List.length_map, if_pos (by omega), if_pos (by omega)]
        rfl
      · refine ⟨_, _, rfl, fun b o e => ?_, ?_, cs.set (i % 12) (cs[i % 12] + z), ?_, ?_⟩
        · rw [upd_ne (ne_of_none e nc)]
          exact same_upd nT _ _ (sm2 _ _ e)
        · rw [upd_ne ncq.symm, upd_ne nqT]
          exact hq
        · rw [List.length_set]
          exact hcl
        · rw [upd_same, List.map_set]
    · rintro σ H2 ⟨y2, y3, rfl, sm2, hq, cs, hcl, hc⟩
      exact hN _ _ ⟨y2, y3, rfl, sm2, cs, hcl, hc⟩
  rintro σ H2 ⟨y2, y3, rfl, sm2, cs, hcl, hc⟩
  refine ⟨_, rfl, (by show 3 ≤ sizeLine; decide), fun p hp => ?_⟩
  have ncp : c ≠ p := ne_of_none hc hp
  refine k _ p c (sm2.trans (same_upd hp)) (sm2.free hp) ⟨ncp, upd_same, cs, by omega, ?_⟩
  rw [upd_ne ncp]
  exact hc
/-! ### _law_spread -/
theorem mul_bd {x y A B : Int} (x0 : 0 ≤ x) (xA : x ≤ A) (y0 : 0 ≤ y) (yB : y ≤ B) : 0 ≤ x * y ∧ x * y ≤ A * B :=
  ⟨Int.mul_nonneg x0 y0, Int.mul_le_mul xA yB y0 (by omega)⟩
def primes : List Int := [2147483629, 2147483587, 2147483579, 2147483563, 2147483549, 2147483543, 2147483497, 2147483489] ++ [2147483477, 2147483423, 2147483399, 2147483353, 2147483323]
theorem primes_ok : ∀ i : Nat, i < 13 → 0 < primes.getD i 0 ∧ primes.getD i 0 < 2147483648 := by decide
theorem prime_at {i : Int} : ∃ q : Int, atI (primes.map V.int) (i % 13) = some (.int q) ∧ 0 < q ∧ q < 2147483648 := by
  have h : (i % 13).toNat < 13 := by omega
  have hl : (i % 13).toNat < primes.length := h
  refine ⟨primes.getD (i % 13).toNat 0, at_of (j := (i % 13).toNat) (by omega) ?_, primes_ok _ h⟩
  rw [List.getElem?_map, List.getD_eq_getElem?_getD, List.getElem?_eq_getElem hl]
  rfl
theorem rem_bd (x : Int) {q : Int} (h : 0 < q) (h' : q < 2147483648) : 0 ≤ x % q ∧ x % q < 2147483648 := by
  have a := Int.emod_nonneg x (show q ≠ 0 by omega)
  have b := Int.emod_lt_of_pos x h
  omega
theorem scSpread : FnScope ["_law_cell", "_law_at", "_law_primes", "_law_one", "_law_two", "_law_three"] ["_law_cell", "_law_at"] (defScope lSpread) := ⟨rfl, rfl, rfl, by decide +kernel, rfl, by decide +kernel, by decide +kernel⟩
def spSpread : Sp := fun vs H Q _ => ∃ x a : Int, vs = [.int x, .int a] ∧ 0 ≤ a ∧ a ≤ 1000 ∧ ∀ (H' : Hp) (z : Int), Same H H' → Q (.int z) H'
theorem ok_spread {f : Addr} {fd : FuncData} (D : Df K mg "_law_spread" lSpread ["_law_cell", "_law_at"] f fd) : FnOk P w K mg base CX0 1 f fd ["_law_cell", "_law_at"] spSpread := by
  refine D.F.ok scSpread (fun vs H Q E h => ?_) (fun cdv A outer s H vs Q E hr h => ?_)
  · obtain ⟨x, a, rfl, _⟩ := h
    rfl
  obtain ⟨x, a, rfl, a0, a1, k⟩ := h
  refine ⟨_, pss_cons (ps_if (pt_cmpR op_ge (pv 0) (pe_op op_pow pe_int pe_int) (nomark _)) (pss_one (ps_ret (pv 0))) pss_nil)
    (pss_cons (ps_set (i := 2) scSpread.nd rfl (.inl rfl) (pe_lst (pa_cons pe_int (pa_cons pe_int (pa_cons pe_int (pa_cons pe_int (pa_cons pe_int (pa_cons pe_int (pa_cons pe_int (pa_cons pe_int pa_nil))))))))))
    (pss_cons (ps_set (i := 2) scSpread.nd rfl (.inl rfl) (pe_op op_cat (pv 2) (pe_lst (pa_cons pe_int (pa_cons pe_int (pa_cons pe_int (pa_cons pe_int (pa_cons pe_int pa_nil))))))))
    (pss_cons (ps_set (i := 3) scSpread.nd rfl (.inl rfl) (pe_op op_mod (pe_op op_pow (pe_op op_add (pe_op op_add (pe_op op_mul (pe_op op_mod (pv 0) pe_int) (pe_op op_add (pe_op op_mul pe_int (pv 1)) pe_int)) (pe_op op_mul (pv 1) pe_int)) pe_int) pe_int)
      (pe_ix ix_list (pv 2) (pe_op op_mod (pv 1) pe_int) (fun _ _ => rfl))))
    (pss_cons (ps_set (i := 4) scSpread.nd rfl (.inl rfl) (pe_op op_mod (pe_op op_pow (pe_op op_add (pe_op op_add (pe_op op_mul (pv 3) (pe_op op_add (pv 1) pe_int)) (pe_op op_mod (pv 0) pe_int)) pe_int) pe_int)
      (pe_ix ix_list (pv 2) (pe_op op_mod (pe_op op_add (pv 1) pe_int) pe_int) (fun _ _ => rfl))))
    (pss_cons (ps_set (i := 5) scSpread.nd rfl (.inl rfl) (pe_op op_mod (pe_op op_pow (pe_op op_add (pe_op op_add (pv 4) (pe_op op_mod (pv 3) pe_int)) (pv 1)) pe_int)
      (pe_ix ix_list (pv 2) (pe_op op_mod (pe_op op_add (pv 1) pe_int) pe_int) (fun _ _ => rfl))))
    (pss_one (ps_ret (pe_op op_add (pe_op op_mul (pe_op op_add (pe_op op_mul (pv 3) pe_int) (pv 4)) pe_int) (pv 5))))))))), ?_⟩
  refine cutS (fun σ H' => σ = [some (.int x), some (.int a), none, none, none, none] ∧ H' = H) (fun N hN => ?_) ?_
  · refine ⟨_, rfl, _, _, rfl, rfl, ⟨by decide, by decide, by decide⟩, _, _, rfl, rfl, _, rfl, ite2 (fun c => ?_) (fun c => hN _ _ ⟨rfl, rfl⟩)⟩
    exact ⟨_, rfl, k _ _ (Same.refl H)⟩
  rintro σ H0 ⟨rfl, rfl⟩
  refine cutS (fun σ H' => ∃ l, σ = [some (.int x), some (.int a), some (.ref l), none, none, none] ∧ Same H0 H' ∧ H' l = some (.lst (([2147483629, 2147483587, 2147483579, 2147483563, 2147483549, 2147483543, 2147483497, 2147483489] : List Int).map V.int)))
    (fun N hN => ⟨(by show 8 ≤ sizeLine; decide), fun l nl => hN _ _ ⟨l, rfl, same_upd nl, upd_same⟩⟩) ?_
  rintro σ H1 ⟨l, rfl, sm1, hl⟩
  refine cutS (fun σ H' => ∃ l, σ = [some (.int x), some (.int a), some (.ref l), none, none, none] ∧ Same H0 H' ∧ H' l = some (.lst (primes.map V.int))) (fun N hN => ?_) ?_
  · refine ⟨_, rfl, (by show 5 ≤ sizeLine; decide), fun l2 nl2 => ?_⟩
    refine ⟨l, l2, _, _, rfl, rfl, (by rw [upd_ne (ne_of_none hl nl2)]; exact hl), upd_same, (by show 8 + 5 ≤ sizeLine; decide), fun l3 nl3 => hN _ _ ⟨l3, rfl, (sm1.trans (same_upd nl2)).trans (same_upd nl3), ?_⟩⟩
    rw [upd_same]
    rfl
  rintro σ H2 ⟨l2, rfl, sm2, hl2⟩
  refine cutS (fun σ H' => ∃ o, σ = [some (.int x), some (.int a), some (.ref l2), some (.int o), none, none] ∧ 0 ≤ o ∧ o < 2147483648 ∧ H' = H2) (fun N hN => ?_) ?_
  · obtain ⟨q, hq, q0, q1⟩ := prime_at (i := a)
    have b1 := Int.emod_nonneg x (show (1000000007 : Int) ≠ 0 by decide)
    have b2 := Int.emod_lt_of_pos x (show (0 : Int) < 1000000007 by decide)
    have b3 := mul_bd (x := x % 1000000007) (y := 2 * a + 69069) (A := 1000000007) (B := 71069) b1 (by omega) (by omega) (by omega)
    refine ⟨_, rfl, _, _, rfl, rfl, (by show (0 : Int) < 1000000007; decide), _, rfl, _, _, rfl, rfl, .inl ⟨by decide, by decide⟩, _, _, rfl, rfl, _, _, rfl, rfl, .inl ⟨by omega, by omega⟩, ?_⟩
    refine ⟨_, rfl, _, _, rfl, rfl, .inl ⟨by omega, by omega⟩, _, _, rfl, rfl, _, _, rfl, rfl, _, _, rfl, rfl, ⟨by decide, by decide, by omega⟩, ?_⟩
    refine ⟨_, rfl, _, rfl, _, _, rfl, rfl, (by show (0 : Int) < 13; decide), l2, _, _, _, rfl, rfl, SqL.of hl2, hq, _, _, rfl, rfl, q0, ?_⟩
    have r := rem_bd ((x % 1000000007 * (2 * a + 69069) + a * 40503 + 977) ^ (3 : Int).toNat) q0 q1
    exact hN _ _ ⟨_, rfl, r.1, r.2, rfl⟩
  rintro σ H3 ⟨o, rfl, o0, o1, rfl⟩
  refine cutS (fun σ H' => ∃ t, σ = [some (.int x), some (.int a), some (.ref l2), some (.int o), some (.int t), none] ∧ 0 ≤ t ∧ t < 2147483648 ∧ H' = H3) (fun N hN => ?_) ?_
  · obtain ⟨q, hq, q0, q1⟩ := prime_at (i := a + 5)
    have b1 := Int.emod_nonneg x (show (65537 : Int) ≠ 0 by decide)
    have b2 := Int.emod_lt_of_pos x (show (0 : Int) < 65537 by decide)
    have b3 := mul_bd (x := o) (y := a + 3) (A := 2147483648) (B := 1003) o0 (by omega) (by omega) (by omega)
    refine ⟨_, rfl, _, rfl, _, _, rfl, rfl, _, _, rfl, rfl, .inl ⟨by omega, by omega⟩, _, rfl, _, _, rfl, rfl, (by show (0 : Int) < 65537; decide), _, _, rfl, rfl, _, _, rfl, rfl, _, _, rfl, rfl, ⟨by decide, by decide, by omega⟩, ?_⟩
    refine ⟨_, rfl, _, rfl, _, _, rfl, rfl, _, _, rfl, rfl, (by show (0 : Int) < 13; decide), l2, _, _, _, rfl, rfl, SqL.of hl2, hq, _, _, rfl, rfl, q0, ?_⟩
    have r := rem_bd ((o * (a + 3) + x % 65537 + 5) ^ (5 : Int).toNat) q0 q1
    exact hN _ _ ⟨_, rfl, r.1, r.2, rfl⟩
  rintro σ H4 ⟨t, rfl, t0, t1, rfl⟩
  refine cutS (fun σ H' => ∃ u, σ = [some (.int x), some (.int a), some (.ref l2), some (.int o), some (.int t), some (.int u)] ∧ H' = H4) (fun N hN => ?_) ?_
  · obtain ⟨q, hq, q0, q1⟩ := prime_at (i := a + 7)
    have b1 := Int.emod_nonneg o (show (1009 : Int) ≠ 0 by decide)
    have b2 := Int.emod_lt_of_pos o (show (0 : Int) < 1009 by decide)
    refine ⟨_, rfl, _, rfl, _, _, rfl, rfl, (by show (0 : Int) < 1009; decide), _, _, rfl, rfl, _, rfl, _, _, rfl, rfl, _, _, rfl, rfl, ⟨by decide, by decide, by omega⟩, ?_⟩
    refine ⟨_, rfl, _, rfl, _, _, rfl, rfl, _, _, rfl, rfl, (by show (0 : Int) < 13; decide), l2, _, _, _, rfl, rfl, SqL.of hl2, hq, _, _, rfl, rfl, q0, hN _ _ ⟨_, rfl, rfl⟩⟩
  rintro σ H5 ⟨u, rfl, rfl⟩
  exact ⟨_, rfl, _, _, rfl, rfl, .inl ⟨by omega, by omega⟩, _, rfl, _, _, rfl, rfl, _, _, rfl, rfl, .inr ⟨by decide, by decide⟩, _, rfl, _, _, rfl, rfl, k _ _ sm2⟩
end
end BR

set_option Elab.async false
set_option linter.all false
set_option maxRecDepth 100000
set_option maxHeartbeats 4000000
/-! _law_take, _law_one_of. -/
namespace BR
open PySem PySem.Spec PyProof.Rows L2
section
variable {P : Program} {w : World} {K : PySem.W.Frag} {mg : Str → Option Value} {base : Heap}
theorem scTake : FnScope ["_law_pen", "_law_amount", "_law_at", "_law_cell", "_law_found"] ["_law_pen", "_law_amount"] (defScope lTake) := ⟨rfl, rfl, rfl, by decide +kernel, rfl, by decide +kernel, by decide +kernel⟩
def spTake : Sp := fun vs H Q _ => ∃ (p c : Addr) (a v m : Int), vs = [.ref p, .int m] ∧ Pen H p c a v ∧ 0 ≤ a ∧ a ≤ 900 ∧ 0 < m ∧ m < 1000000000 ∧
  ∀ (H' : Hp) (a' v' r : Int), But p H H' → Pen H' p c a' v' → a ≤ a' → a' ≤ a + 1 → 0 ≤ r → r < m → Q (.int r) H'
theorem ok_take {f fS : Addr} {fd fdS : FuncData} (D : Df K mg "_law_take" lTake ["_law_pen", "_law_amount"] f fd) (B : Bl mg) (S : Ok P w K mg base "_law_spread" 1 ["_law_cell", "_law_at"] spSpread fS fdS) : FnOk P w K mg base CX0 2 f fd ["_law_pen", "_law_amount"] spTake := by
  refine D.F.ok scTake (fun vs H Q E h => ?_) (fun cdv A outer s H vs Q E hr h => ?_)
  · obtain ⟨p, c, a, v, m, rfl, _⟩ := h
    rfl
  obtain ⟨p, c, a, v, m, rfl, hP, a0, a1, m0, m1, k⟩ := h
  refine ⟨_, pss_cons (ps_if (pt_cmpR op_lt (pe_ix ix_list (pv 0) pe_int (fun _ _ => rfl)) (pv 1) (nomark _))
      (pss_cons (ps_set (i := 2) scTake.nd rfl (.inl rfl) (pe_ix ix_list (pv 0) pe_int (fun _ _ => rfl)))
      (pss_cons (ps_set (i := 3) scTake.nd rfl (.inl rfl) pe_int)
      (pss_cons (ps_if (pt_cmpR op_lt (pv 2) (pe_callB call_len_seq (by rfl) B.len PySem.boot_len (pa_cons (pe_ix ix_list (pv 0) pe_int (fun _ _ => rfl)) pa_nil)) (nomark _))
          (pss_one (ps_set (i := 3) scTake.nd rfl (.inl rfl) (pe_ix ix_list (pe_ix ix_list (pv 0) pe_int (fun _ _ => rfl)) (pv 2) (fun _ _ => rfl))))
          (pss_one (ps_if (pt_cmpR op_gt (pe_callB call_len_seq (by rfl) B.len PySem.boot_len (pa_cons (pe_ix ix_list (pv 0) pe_int (fun _ _ => rfl)) pa_nil)) pe_int (nomark _))
            (pss_one (ps_set (i := 3) scTake.nd rfl (.inl rfl) (pe_op op_mod (pe_ix ix_list (pe_ix ix_list (pv 0) pe_int (fun _ _ => rfl))
              (pe_op op_mod (pe_op op_add (pe_op op_mul (pv 2) pe_int) pe_int) (pe_callB call_len_seq (by rfl) B.len PySem.boot_len (pa_cons (pe_ix ix_list (pv 0) pe_int (fun _ _ => rfl)) pa_nil))) (fun _ _ => rfl))
              (pe_op op_add (pe_op op_pow pe_int pe_int) (pv 2))))) pss_nil)))
      (pss_cons (ps_asg (pe_op op_add (pv 2) pe_int) (pg_sub (pv 0) pe_int set_list))
      (pss_one (ps_asg (pe_call S.O hr (by rfl) S.G S.kp S.B .nil pass0 (pa_cons (pv 3) (pa_cons (pv 2) pa_nil))) (pg_sub (pv 0) pe_int set_list))))))) pss_nil)
    (pss_cons (ps_set (i := 4) scTake.nd rfl (.inl rfl) (pe_op op_mod (pe_ix ix_list (pv 0) pe_int (fun _ _ => rfl)) (pv 1)))
    (pss_cons (ps_asg (pe_op op_fdiv (pe_ix ix_list (pv 0) pe_int (fun _ _ => rfl)) (pv 1)) (pg_sub (pv 0) pe_int set_list))
    (pss_one (ps_ret (pv 4))))), ?_⟩
  refine cutS (fun σ H' => ∃ y2 y3 a' v', σ = [some (.ref p), some (.int m), y2, y3, none] ∧ But p H H' ∧ Pen H' p c a' v' ∧ a ≤ a' ∧ a' ≤ a + 1) (fun N hN => ?_) ?_
  · refine ⟨_, rfl, p, _, 2, _, rfl, rfl, SqL.of hP.at_, atI_nat (j := 2) rfl, _, rfl, _, _, rfl, rfl, _, rfl, ite2 (fun _ => ?_) (fun _ => hN _ _ ⟨none, none, a, v, rfl, But.of (Same.refl H), hP, by omega, by omega⟩)⟩
    -- at = pen[1]; cell = 0
    refine cutS (fun σ H' => σ = [some (.ref p), some (.int m), some (.int a), none, none] ∧ H' = H) (fun N2 hN2 => ⟨_, rfl, p, _, 1, _, rfl, rfl, SqL.of hP.at_, atI_nat (j := 1) rfl, hN2 _ _ ⟨rfl, rfl⟩⟩) ?_
    rintro σ H0 ⟨rfl, rfl⟩
    refine cutS (fun σ H' => σ = [some (.ref p), some (.int m), some (.int a), some (.int 0), none] ∧ H' = H0) (fun N2 hN2 => hN2 _ _ ⟨rfl, rfl⟩) ?_
    rintro σ H ⟨rfl, rfl⟩
    obtain ⟨cs, hcl, hc⟩ := hP.cells
    refine cutS (fun σ H' => ∃ z, σ = [some (.ref p), some (.int m), some (.int a), some (.int z), none] ∧ H' = H) (fun N2 hN2 => ?_) ?_
    · refine ⟨_, rfl, _, rfl, p, _, 0, _, rfl, rfl, SqL.of hP.at_, atI_nat (j := 0) rfl, c, _, rfl, .inl (SqL.of hc), _, _, rfl, rfl, _, rfl, ite2 (fun q => ?_) (fun q => ?_)⟩
      · have q := of_decide_eq_true q
        rw [List.length_map] at q
        have hlt : a.toNat < cs.length := by omega
        refine ⟨_, rfl, p, _, 0, _, rfl, rfl, SqL.of hP.at_, atI_nat (j := 0) rfl, _, rfl, c, _, a, .int cs[a.toNat], rfl, rfl, SqL.of hc, at_of (j := a.toNat) (by omega) ?_, hN2 _ _ ⟨_, rfl, rfl⟩⟩
        rw [List.getElem?_map, List.getElem?_eq_getElem hlt]
        rfl
      · refine ⟨_, rfl, p, _, 0, _, rfl, rfl, SqL.of hP.at_, atI_nat (j := 0) rfl, c, _, rfl, .inl (SqL.of hc), _, _, rfl, rfl, _, rfl, ite2 (fun z => ?_) (fun z => hN2 _ _ ⟨_, rfl, rfl⟩)⟩
        have z := of_decide_eq_true z
        have m2 := Int.emod_nonneg (a * 5 + 3) (show (((cs.map V.int).length : Nat) : Int) ≠ 0 by omega)
        have m3 := Int.emod_lt_of_pos (a * 5 + 3) z
        have hlt : ((a * 5 + 3) % (((cs.map V.int).length : Nat) : Int)).toNat < cs.length := by
          rw [List.length_map] at m2 m3 ⊢
          omega
        refine ⟨_, rfl, p, _, 0, _, rfl, rfl, SqL.of hP.at_, atI_nat (j := 0) rfl, _, rfl, _, _, rfl, rfl, .inr ⟨by decide, by decide⟩, _, _, rfl, rfl, ?_⟩
        refine ⟨_, rfl, p, _, 0, _, rfl, rfl, SqL.of hP.at_, atI_nat (j := 0) rfl, c, _, rfl, .inl (SqL.of hc), _, _, rfl, rfl, z, ?_⟩
        refine ⟨c, _, _, .int cs[((a * 5 + 3) % (((cs.map V.int).length : Nat) : Int)).toNat], rfl, rfl, SqL.of hc, at_of (j := ((a * 5 + 3) % (((cs.map V.int).length : Nat) : Int)).toNat) (by omega) ?_, ?_⟩
        · rw [List.getElem?_map, List.getElem?_eq_getElem hlt]
          rfl
        · refine ⟨_, _, rfl, rfl, ⟨by decide, by decide, by decide⟩, _, rfl, _, _, rfl, rfl, _, _, rfl, rfl, ?_, hN2 _ _ ⟨_, rfl, rfl⟩⟩
          show (0 : Int) < 10 ^ 17 + a
          omega
    rintro σ H1 ⟨z, rfl, rfl⟩
    -- pen[1] = at + 1
    refine cutS (fun σ H' => σ = [some (.ref p), some (.int m), some (.int a), some (.int z), none] ∧ But p H1 H' ∧ Pen H' p c (a + 1) v) (fun N2 hN2 => ?_) ?_
    · exact ⟨_, rfl, _, _, rfl, rfl, _, rfl, p, _, 1, 1, rfl, rfl, hP.at_, rfl, hN2 _ _ ⟨rfl, But.upd, hP.but But.upd upd_same⟩⟩
    rintro σ H2 ⟨rfl, b2, P2⟩
    -- pen[2] = _law_spread(cell, at)
    refine ⟨_, rfl, _, rfl, z, a, rfl, by omega, by omega, fun H3 u sm3 => ?_⟩
    have P3 := P2.same sm3
    exact ⟨_, rfl, p, _, 2, 2, rfl, rfl, P3.at_, rfl, hN _ _ ⟨_, _, a + 1, u, rfl, (b2.trans (But.of sm3)).trans But.upd, P3.but But.upd upd_same, by omega, by omega⟩⟩
  rintro σ H1 ⟨y2, y3, a', v', rfl, b1, P1, a2, a3⟩
  -- found = pen[2] % amount
  refine cutS (fun σ H' => σ = [some (.ref p), some (.int m), y2, y3, some (.int (v' % m))] ∧ H' = H1) (fun N hN => ⟨_, rfl, p, _, 2, _, rfl, rfl, SqL.of P1.at_, atI_nat (j := 2) rfl, _, rfl, _, _, rfl, rfl, m0, hN _ _ ⟨rfl, rfl⟩⟩) ?_
  rintro σ H2 ⟨rfl, rfl⟩
  -- pen[2] = pen[2] // amount
  refine cutS (fun σ H' => σ = [some (.ref p), some (.int m), y2, y3, some (.int (v' % m))] ∧ But p H H' ∧ Pen H' p c a' (v' / m)) (fun N hN => ?_) ?_
  · exact ⟨_, rfl, p, _, 2, _, rfl, rfl, SqL.of P1.at_, atI_nat (j := 2) rfl, _, rfl, _, _, rfl, rfl, ⟨m0, by omega⟩, _, rfl, p, _, 2, 2, rfl, rfl, P1.at_, rfl, hN _ _ ⟨rfl, b1.trans But.upd, P1.but But.upd upd_same⟩⟩
  rintro σ H3 ⟨rfl, b3, P3⟩
  exact ⟨_, rfl, k _ a' (v' / m) _ b3 P3 a2 a3 (Int.emod_nonneg _ (by omega)) (Int.emod_lt_of_pos _ m0)⟩
/-! ### _law_one_of -/
theorem scOne : FnScope ["_law_pen", "_law_some"] ["_law_pen", "_law_some"] (defScope lOne) := ⟨rfl, rfl, rfl, by decide +kernel, rfl, by decide +kernel, by decide +kernel⟩
def spOne : Sp := fun vs H Q _ => ∃ (p c l : Addr) (a v : Int) (xs : List V), vs = [.ref p, .ref l] ∧ Pen H p c a v ∧ l ≠ p ∧ H l = some (.lst xs) ∧ 0 < xs.length ∧ xs.length < 100 ∧ 0 ≤ a ∧ a ≤ 900 ∧
  ∀ (H' : Hp) (a' v' : Int) (x : V), But p H H' → Pen H' p c a' v' → a ≤ a' → a' ≤ a + 1 → x ∈ xs → Q x H'
theorem ok_one {f fT : Addr} {fd fdT : FuncData} (D : Df K mg "_law_one_of" lOne ["_law_pen", "_law_some"] f fd) (B : Bl mg) (T : Ok P w K mg base "_law_take" 2 ["_law_pen", "_law_amount"] spTake fT fdT) : FnOk P w K mg base CX0 3 f fd ["_law_pen", "_law_some"] spOne := by
  refine D.F.ok scOne (fun vs H Q E h => ?_) (fun cdv A outer s H vs Q E hr h => ?_)
  · obtain ⟨p, c, l, a, v, xs, rfl, _⟩ := h
    rfl
  obtain ⟨p, c, l, a, v, xs, rfl, hP, nl, hl, x0, x1, a0, a1, k⟩ := h
  refine ⟨_, pss_one (ps_ret (pe_ix ix_list (pv 1) (pe_call T.O hr (by rfl) T.G T.kp T.B .nil pass0 (pa_cons (pv 0) (pa_cons (pe_callB call_len_seq (by rfl) B.len PySem.boot_len (pa_cons (pv 1) pa_nil)) pa_nil))) (fun _ _ => rfl))), ?_⟩
  refine ⟨_, rfl, _, rfl, _, rfl, l, _, rfl, .inl (SqL.of hl), p, c, a, v, _, rfl, hP, a0, a1, by omega, by omega, fun H1 a' v' r b1 P1 a2 a3 r0 r1 => ?_⟩
  have hlt : r.toNat < xs.length := by omega
  refine ⟨l, _, r, xs[r.toNat], rfl, rfl, SqL.of (b1 _ _ nl hl), at_of (j := r.toNat) (by omega) (List.getElem?_eq_getElem hlt), k H1 a' v' _ b1 P1 a2 a3 (List.getElem_mem hlt)⟩
end
end BR

set_option Elab.async false
set_option linter.all false
set_option maxRecDepth 100000
set_option maxHeartbeats 4000000
/-! _law_both_right. -/
namespace BR
open PySem PySem.Spec PyProof.Rows L2
/-! ### lists and tuples of ints as data -/
theorem dpI {K : PySem.W.Frag} {H : Hp} : ∀ xs : List Int, DpAll K H (xs.map V.int) (xs.map PyData.int)
  | [] => .nil
  | x :: r => .cons (.int x) (dpI r)
theorem layI : ∀ xs : List Int, PyData.canLayAll0 (xs.map PyData.int) = true
  | [] => by simp [PyData.canLayAll0]
  | x :: r => by simp [PyData.canLayAll0, PyData.canLay0, layI r]
theorem depI : ∀ xs : List Int, PyData.depthAll (xs.map PyData.int) ≤ 1
  | [] => by simp [PyData.depthAll]
  | x :: r => by
    have ih := depI r
    simp only [List.map_cons, PyData.depthAll, PyData.depth]
    omega
theorem shapedT (xs : List Int) : SeqAt.shaped (.tuple (xs.map PyData.int)) = true := by
  have h := depI xs
  have hl : PyData.canLay0 (.tuple (xs.map PyData.int)) = true := by
    simp only [PyData.canLay0]
    exact layI xs
  have hd : PyData.depth (.tuple (xs.map PyData.int)) ≤ 64 := by
    simp only [PyData.depth]
    omega
  unfold SeqAt.shaped
  rw [hl, decide_eq_true hd]
  rfl
theorem shapedL (xs : List Int) : SeqAt.shaped (.list (xs.map PyData.int)) = true := by
  have h := depI xs
  have hl : PyData.canLay0 (.list (xs.map PyData.int)) = true := by
    simp only [PyData.canLay0]
    exact layI xs
  have hd : PyData.depth (.list (xs.map PyData.int)) ≤ 64 := by
    simp only [PyData.depth]
    omega
  unfold SeqAt.shaped
  rw [hl, decide_eq_true hd]
  rfl
theorem eqvI : ∀ xs ys : List Int, PyData.eqvAll (xs.map PyData.int) (ys.map PyData.int) = decide (xs = ys)
  | [], [] => rfl
  | [], y :: s => rfl
  | x :: r, [] => rfl
  | x :: r, y :: s => by
    show (PyData.eqv (.int x) (.int y) && PyData.eqvAll (r.map PyData.int) (s.map PyData.int)) = _
    rw [eqvI r s]
    show ((x == y) && decide (r = s)) = _
    by_cases h : x = y
    · by_cases h2 : r = s
      · simp [h, h2]
      · simp [h, h2]
    · simp [h]
theorem eqvT (xs ys : List Int) : PyData.eqv (.tuple (xs.map PyData.int)) (.tuple (ys.map PyData.int)) = decide (xs = ys) := by
  show PyData.eqvAll _ _ = _
  exact eqvI xs ys
theorem eqvL (xs ys : List Int) : PyData.eqv (.list (xs.map PyData.int)) (.list (ys.map PyData.int)) = decide (xs = ys) := by
  show PyData.eqvAll _ _ = _
  exact eqvI xs ys
/-- == and != of tuples of ints -/
theorem eqT {K : PySem.W.Frag} {H : Hp} {a b : Addr} {xs ys : List Int} {Q : VK} (ha : SqT K H a (xs.map V.int)) (hb : SqT K H b (ys.map V.int)) (q : Q (.bl (decide (xs = ys))) H) : rEqD K (.ref a) (.ref b) H Q :=
  ⟨_, _, .tup ha (dpI xs), .tup hb (dpI ys), shapedT xs, shapedT ys, by rw [eqvT]; exact q⟩
theorem neT {K : PySem.W.Frag} {H : Hp} {a b : Addr} {xs ys : List Int} {Q : VK} (ha : SqT K H a (xs.map V.int)) (hb : SqT K H b (ys.map V.int)) (q : Q (.bl (!decide (xs = ys))) H) : rNeD K (.ref a) (.ref b) H Q :=
  ⟨_, _, .tup ha (dpI xs), .tup hb (dpI ys), shapedT xs, shapedT ys, by rw [eqvT]; exact q⟩
theorem neL {K : PySem.W.Frag} {H : Hp} {a b : Addr} {xs ys : List Int} {Q : VK} (ha : SqL K H a (xs.map V.int)) (hb : SqL K H b (ys.map V.int)) (q : Q (.bl (!decide (xs = ys))) H) : rNeD K (.ref a) (.ref b) H Q :=
  ⟨_, _, .lst ha (dpI xs), .lst hb (dpI ys), shapedL xs, shapedL ys, by rw [eqvL]; exact q⟩
/-! ### the fitness of both ways -/
structure BothOk (n d m : Int) (p : Nat) : Prop where
  d1 : 1 ≤ d
  d2 : d ≤ 27
  m1 : 1 ≤ m
  m2 : m ≤ 12
  p1 : 1 ≤ p
  p2 : p ≤ 11
  n1 : 22900 ≤ n
  n2 : n + m * p ≤ 26300
section
variable {n d m : Int} {p : Nat}
theorem BothOk.mp (h : BothOk n d m p) : m ≤ m * (p : Int) ∧ m * (p : Int) ≤ m * 11 := by
  have m1 := h.m1
  have a := le_mul_nat (step := m) (a := 1) (b := p) (by omega) h.p1
  have b := le_mul_nat (step := m) (a := p) (b := 11) (by omega) h.p2
  rw [show m * ((1 : Nat) : Int) = m by simp] at a
  exact ⟨a, b⟩
theorem BothOk.gap (h : BothOk n d m p) : ms n < ms (n + m * p) ∧ ms (n + m * p) - ms n ≤ 31 * (m * p) := by
  have mp := h.mp
  have m1 := h.m1
  have n1 := h.n1
  have a := ms_mono (n := n) (n' := n + m * p) (by omega) (by omega)
  have b := ms_below (m * p).toNat (n := n) (by omega)
  rw [show ((m * (p : Int)).toNat : Int) = m * p by omega] at b
  omega
theorem BothOk.ends (h : BothOk n d m p) : ms 22900 ≤ ms n ∧ ms (n + m * p) ≤ ms 26300 := by
  have mp := h.mp
  have m1 := h.m1
  have n1 := h.n1
  have n2 := h.n2
  have a := ms_mono (n := 22900) (n' := n) (by omega) (by omega)
  have b := ms_mono (n := n + m * p) (n' := 26300) (by omega) (by omega)
  omega
theorem BothOk.fwd (h : BothOk n d m p) : Fit n d m false (pt (n + m * p) d false) := by
  have mp := h.mp
  have gap := h.gap
  have ends := h.ends
  obtain ⟨d1, d2, m1, m2, p1, p2, n1, n2⟩ := h
  have b := ln_bounds n
  rw [pt_small (by omega)]
  exact ⟨by omega, by omega, d1, by omega, (fun e => nomatch e), n1, by omega, by omega, by omega, fun _ => by omega, fun q => by omega⟩
theorem BothOk.bwd (h : BothOk n d m p) : Fit (n + m * p) d (-m) false (pt n d false) := by
  have mp := h.mp
  have gap := h.gap
  have ends := h.ends
  obtain ⟨d1, d2, m1, m2, p1, p2, n1, n2⟩ := h
  have b := ln_bounds (n + m * p)
  rw [pt_small (by omega)]
  exact ⟨by omega, by omega, d1, by omega, (fun e => nomatch e), by omega, n2, by omega, by omega, fun q => by omega, fun _ => by omega⟩
end
section
variable {P : Program} {w : World} {K : PySem.W.Frag} {mg : Str → Option Value} {base : Heap}
theorem scBoth : FnScope ["_law_start", "_law_months", "_law_paces", "_law_date", "_law_end", "_law_due", "_law_side", "_law_k"] ["_law_start", "_law_months", "_law_paces"] (defScope lBoth) := ⟨rfl, rfl, rfl, by decide +kernel, rfl, by decide +kernel, by decide +kernel⟩
def spBoth : Sp := spP 3 fun vs _ r => ∃ (n d m : Int) (p : Nat), vs = [.int (ms n + d - 1), .int m, .int p] ∧ BothOk n d m p ∧ r = .bl true
theorem ok_both {f fD fY fA fS fC fF : Addr} {fd fdD fdY fdA fdS fdC fdF : FuncData} (D : Df K mg "_law_both_right" lBoth ["_law_start", "_law_months", "_law_paces"] f fd) (B : Bl mg) (DO : Ok P w K mg base "date_of" 3 ["day"] spDate fD fdD)
    (DY : Ok P w K mg base "day_of" 3 ["date"] (spDay K) fY fdY) (AM : Ok P w K mg base "add_months" 3 ["date", "months", "last"] (spAdd K) fA fdA)
    (S : Ok P w K mg base "schedule" 5 ["start", "end", "months", "side", "stub", "keep"] spSched fS fdS) (C : Ok P w K mg base "count" 5 ["word", "first", "last"] spCount fC fdC)
    (FR : Ok P w K mg base "_law_fraction" 2 ["_law_top", "_law_bottom"] spFrac fF fdF) : FnOk P w K mg base CX0 6 f fd ["_law_start", "_law_months", "_law_paces"] spBoth := by
  refine D.F.ok scBoth (fun vs H Q E h => h.1) (fun cdv A outer s H vs Q E hr h => ?_)
  obtain ⟨_, r, ⟨n, d, m, p, rfl, O, rfl⟩, k⟩ := h
  have hr3 : Room 3 _ := hr.mono (by decide)
  have hr2 : Room 2 _ := hr.mono (by decide)
  refine ⟨_, pss_cons (ps_set (i := 3) scBoth.nd rfl (.inr rfl) (pe_call DO.O hr3 (by rfl) DO.G DO.kp DO.B .nil pass0 (pa_cons (pv 0) pa_nil)))
    (pss_cons (ps_set (i := 4) scBoth.nd rfl (.inl rfl) (pe_call DY.O hr3 (by rfl) DY.G DY.kp DY.B .nil pass0 (pa_cons (pe_call AM.O hr3 (by rfl) AM.G AM.kp AM.B .nil pass0
      (pa_cons (pv 3) (pa_cons (pe_op op_mul (pv 1) (pv 2)) (pa_cons pe_bl pa_nil)))) pa_nil)))
    (pss_cons (ps_set (i := 5) scBoth.nd rfl (.inl rfl) (pe_callTy call_tuple_of (by rfl) B.tuple (by decide +kernel) (pa_cons
      (pe_lc (own := [("_law_k", 7)]) (g := gName 7) (tt := tYes) rfl scBoth.nd (pi_range1 (by rfl) B.range (pa_cons (pe_op op_add (pv 2) pe_int) pa_nil))
        (blkOk_by (own := [("_law_k", 7)]) (N := ["_law_start", "_law_months", "_law_paces", "_law_date", "_law_end", "_law_due", "_law_side", "_law_k"]) (sc := defScope lBoth) (by decide +kernel))
        (fun _ _ _ _ _ => pg_name (i := 7) scBoth.nd rfl (.inl rfl)) (fun _ _ _ _ _ => pts_nil) (fun _ _ _ _ _ => pe_call DY.O hr3 (by rfl) DY.G DY.kp DY.B .nil pass0 (pa_cons (pe_call AM.O hr3 (by rfl) AM.G AM.kp AM.B .nil pass0
          (pa_cons (pv 3) (pa_cons (pe_op op_mul (pv 1) (pv 7)) (pa_cons pe_bl pa_nil)))) pa_nil))) pa_nil)))
    (pss_cons (ps_for PassesOwn.never rfl (pi_list (pe_lst (pa_cons pe_str (pa_cons pe_str pa_nil)))) (pg_name (i := 6) scBoth.nd rfl (.inl rfl))
      (pss_cons (ps_if (pt_cmpR (op_neD hr.units) (pe_call S.O hr (by rfl) S.G S.kp S.B .nil pass0 (pa_cons (pv 0) (pa_cons (pv 4) (pa_cons (pv 1) (pa_cons (pv 6) (pa_cons pe_str (pa_cons pe_bl pa_nil))))))) (pv 5) (nomark _)) (pss_one (ps_ret pe_bl)) pss_nil)
      (pss_one (ps_if (pt_cmpR (op_neD hr.units) (pe_call S.O hr (by rfl) S.G S.kp S.B .nil pass0 (pa_cons (pv 0) (pa_cons (pv 4) (pa_cons (pv 1) (pa_cons (pv 6) (pa_cons pe_str (pa_cons pe_bl pa_nil))))))) (pv 5) (nomark _)) (pss_one (ps_ret pe_bl)) pss_nil))))
    (pss_one (ps_ret (pe_cmpR (op_eqD hr.units) (pe_call C.O hr (by rfl) C.G C.kp C.B .nil pass0 (pa_cons pe_str (pa_cons (pv 0) (pa_cons (pv 4) pa_nil))))
      (pe_call FR.O hr2 (by rfl) FR.G FR.kp FR.B .nil pass0 (pa_cons (pe_op op_mul (pv 1) (pv 2)) (pa_cons pe_int pa_nil))) (nomark _))))))), ?_⟩
  have mp := O.mp
  have gap := O.gap
  have fwd := O.fwd
  have bwd := O.bwd
  have hb := ln_bounds n
  have hb2 := ln_bounds (n + m * p)
  obtain ⟨d1, d2, m1, m2, p1, p2, n1, n2⟩ := id O
  have due_up : (due n d m p).Pairwise (· < ·) := fnd_mono_fwd fwd (by omega) p
  -- date = date_of(start)
  refine cutS (fun σ H' => ∃ t, σ = [some (.int (ms n + d - 1)), some (.int m), some (.int (p : Int)), some (.ref t), none, none, none, none] ∧ Same H H' ∧ H' t = some (.tup (dt n d))) (fun N hN => ?_) ?_
  · exact ⟨_, rfl, n, d, rfl, by omega, by omega, d1, by omega, fun H2 t sm nt ht => hN _ _ ⟨t, rfl, sm, ht⟩⟩
  rintro σ H1 ⟨t, rfl, sm1, ht⟩
  -- end = day_of(add_months(date, months * paces, False))
  refine cutS (fun σ H' => σ = [some (.int (ms n + d - 1)), some (.int m), some (.int (p : Int)), some (.ref t), some (.int (pt (n + m * p) d false)), none, none, none] ∧ Same H1 H') (fun N hN => ?_) ?_
  · refine ⟨_, rfl, _, rfl, _, rfl, _, _, rfl, rfl, .inl ⟨by omega, by omega⟩, t, n, d, m * p, false, rfl, SqT.of ht, fun H2 u sm2 nu hu => ?_⟩
    exact ⟨rfl, _, ⟨u, n + m * p, _, rfl, SqT.of hu, by omega, by omega, rfl⟩, fun H3 sm3 => hN _ _ ⟨rfl, sm2.trans sm3⟩⟩
  rintro σ H2 ⟨rfl, sm2⟩
  have ht2 := sm2 _ _ ht
  -- due
  refine cutS (fun σ H' => ∃ u, σ = [some (.int (ms n + d - 1)), some (.int m), some (.int (p : Int)), some (.ref t), some (.int (pt (n + m * p) d false)), some (.ref u), none, none] ∧ Same H H' ∧ H' u = some (.tup ((due n d m p).map V.int))) (fun N hN => ?_) ?_
  · refine ⟨_, rfl, _, _, rfl, rfl, _, rfl, by omega, by omega, fun L hL => ?_⟩
    refine lcY (walk_range (lo := 0) (n := ((p : Int) + 1).toNat)) (fun i H' => Same H2 H' ∧ H' L = some (.lst (((List.range i).map fun (z : Nat) => pt (n + m * (z : Int)) d false).map V.int))) ⟨same_upd hL, upd_same⟩ (fun _ _ _ _ => trivial) (fun _ => rfl) ?_ ?_
    · rintro i x H3 H3' hi ⟨sm3, ea⟩ ⟨rfl, rfl⟩
      have im := le_mul_nat (step := m) (a := i) (b := p) (by omega) (by omega)
      have i0 := le_mul_nat (step := m) (a := 0) (b := i) (by omega) (by omega)
      simp at i0
      refine ⟨_, rfl, _, rfl, _, rfl, _, _, rfl, rfl, .inl ⟨by omega, by omega⟩, t, n, d, m * (i : Int), false, by rw [Int.zero_add]; rfl, SqT.of (sm3 _ _ ht2), fun H4 u sm4 nu hu => ?_⟩
      refine ⟨rfl, _, ⟨u, n + m * (i : Int), _, rfl, SqT.of hu, by omega, by omega, rfl⟩, fun H5 sm5 => ⟨_, sm5 _ _ (sm4 _ _ ea), ?_, fun b o e => ?_, ?_⟩⟩
      · rw [List.length_map, List.length_map, List.length_range]
        exact small1000 (by omega)
      · rw [upd_ne (ne_of_none e hL)]
        exact sm5 _ _ (sm4 _ _ (sm3 _ _ e))
      · rw [upd_same, List.range_succ, List.map_append, List.map_append]
        rfl
    · rintro H3 ⟨sm3, ea⟩
      refine ⟨L, _, rfl, .inl ⟨SqL.of ea, fun u nu => hN _ _ ⟨u, rfl, ((sm1.trans sm2).trans sm3).trans (same_upd nu), ?_⟩⟩⟩
      rw [upd_same, show ((p : Int) + 1).toNat = p + 1 by omega]
      rfl
  rintro σ H3 ⟨u, rfl, sm3, hu⟩
  -- for side in ['start', 'end']
  have call : ∀ (H4 : Hp) (side stub : Str) (keep : Bool) (Q' : VK), (side = Str.ofString "start" ∨ side = Str.ofString "end") → (stub = Str.ofString "long" ∨ stub = Str.ofString "short") →
      (∀ H5 x, Same H4 H5 → H5 x = some (.tup ((due n d m p).map V.int)) → Q' (.ref x) H5) → spSched [.int (ms n + d - 1), .int (pt (n + m * p) d false), .int m, .str side, .str stub, .bl keep] H4 Q' E0 := by
    intro H4 side stub keep Q' hside hstub kq
    have ept : ∀ z, pt z d false = ms z + d - 1 := fun z => pt_small (by omega)
    have stubs : ∃ long, Stubs stub long := by
      rcases hstub with e | e
      · exact ⟨true, .inl ⟨e, rfl⟩⟩
      · exact ⟨false, .inr ⟨e, rfl⟩⟩
    obtain ⟨long, stubs⟩ := stubs
    rcases hside with e | e
    · refine ⟨n, d, m, pt (n + m * p) d false, _, _, _, side, stub, keep, long, false, rfl, .inl ⟨e, rfl, rfl, rfl⟩, stubs, ?_, fwd, fun H5 x xs sm5 nx sc hx => kq H5 x sm5 ?_⟩
      · rw [decide_eq_false (by omega), Bool.and_false]
      · rw [← met_fwd (by omega) d2 fwd sc]
        exact hx
    · refine ⟨n + m * p, d, -m, pt n d false, _, _, _, side, stub, keep, long, false, rfl, .inr ⟨e, ept _, (ept n).symm, rfl⟩, stubs, ?_, bwd, fun H5 x xs sm5 nx sc hx => kq H5 x sm5 ?_⟩
      · rw [decide_eq_false (by omega), Bool.and_false]
      · rw [← met_bwd (by omega) d2 n1 bwd sc due_up]
        exact hx
  refine cutS (fun σ H' => ∃ y6, σ = [some (.int (ms n + d - 1)), some (.int m), some (.int (p : Int)), some (.ref t), some (.int (pt (n + m * p) d false)), some (.ref u), y6, none] ∧ Same H H') (fun N hN => ?_) ?_
  · refine ⟨(by show 2 ≤ sizeLine; decide), fun L hL => ?_⟩
    refine ⟨L, rfl, ⟨_, SqL.of upd_same⟩, for_list (K := K) (a := L) (xs := [.str (Str.ofString "start"), .str (Str.ofString "end")])
      (fun i σ H' => ∃ y6, σ = [some (.int (ms n + d - 1)), some (.int m), some (.int (p : Int)), some (.ref t), some (.int (pt (n + m * p) d false)), some (.ref u), y6, none] ∧ Same H H' ∧ H' u = some (.tup ((due n d m p).map V.int)) ∧ H' L = some (.lst [.str (Str.ofString "start"), .str (Str.ofString "end")]))
      ⟨none, rfl, sm3.trans (same_upd hL), same_upd hL _ _ hu, upd_same⟩ (fun i σ H' _ ⟨_, _, _, _, e⟩ => SqL.of e) ?_ ?_⟩
    · rintro i x σ H4 hx ⟨y6, rfl, sm4, hu4, hL4⟩
      obtain ⟨side, rfl, hside⟩ : ∃ side : Str, x = .str side ∧ (side = Str.ofString "start" ∨ side = Str.ofString "end") := by
        match i, hx with
        | 0, hx => exact ⟨_, (Option.some.inj hx).symm, .inl rfl⟩
        | 1, hx => exact ⟨_, (Option.some.inj hx).symm, .inr rfl⟩
        | i + 2, hx => cases hx
      refine cutS (fun σ H' => σ = [some (.int (ms n + d - 1)), some (.int m), some (.int (p : Int)), some (.ref t), some (.int (pt (n + m * p) d false)), some (.ref u), some (.str side), none] ∧ Same H4 H') (fun N2 hN2 => ?_) ?_
      · refine cutT (fun b H' => b = false ∧ Same H4 H') (fun Q' kq => ?_) (fun b H' ⟨hb, sm⟩ => by subst hb; exact iteF (hN2 _ _ ⟨rfl, sm⟩))
        show tCall _ _ _ _ _ _ _
        refine cutE (fun v H' => ∃ x, v = .ref x ∧ Same H4 H' ∧ H' x = some (.tup ((due n d m p).map V.int))) (fun Q2 kq2 => ⟨_, rfl, _, rfl, _, rfl, _, rfl, call H4 side _ false _ hside (.inr rfl) fun H5 x sm5 hx => kq2 _ _ ⟨x, rfl, sm5, hx⟩⟩) ?_
        rintro v H5 ⟨x, rfl, sm5, hx⟩
        refine ⟨_, rfl, neT (SqT.of hx) (SqT.of (sm5 _ _ hu4)) ⟨_, rfl, kq _ _ ⟨?_, sm5⟩⟩⟩
        rw [decide_eq_true rfl]
        rfl
      rintro σ H5 ⟨rfl, sm5⟩
      refine cutT (fun b H' => b = false ∧ Same H5 H') (fun Q' kq => ?_) (fun b H' ⟨hb, sm⟩ => by subst hb; exact iteF ⟨_, rfl, (sm4.trans sm5).trans sm, sm _ _ (sm5 _ _ hu4), sm _ _ (sm5 _ _ hL4)⟩)
      show tCall _ _ _ _ _ _ _
      refine cutE (fun v H' => ∃ x, v = .ref x ∧ Same H5 H' ∧ H' x = some (.tup ((due n d m p).map V.int))) (fun Q2 kq2 => ⟨_, rfl, _, rfl, _, rfl, _, rfl, call H5 side _ true _ hside (.inl rfl) fun H6 x sm6 hx => kq2 _ _ ⟨x, rfl, sm6, hx⟩⟩) ?_
      rintro v H6 ⟨x, rfl, sm6, hx⟩
      refine ⟨_, rfl, neT (SqT.of hx) (SqT.of (sm6 _ _ (sm5 _ _ hu4))) ⟨_, rfl, kq _ _ ⟨?_, sm6⟩⟩⟩
      rw [decide_eq_true rfl]
      rfl
    · rintro σ H4 ⟨y6, rfl, sm4, _⟩
      exact hN _ _ ⟨y6, rfl, sm4⟩
  rintro σ H4 ⟨y6, rfl, sm4⟩
  -- return count(..) == fraction(..)
  refine ⟨_, rfl, _, rfl, n, n + m * p, d, by rw [pt_small (by omega)]; rfl, by omega, by omega, by omega, d1, by omega, fun H5 x sm5 nx hx => ?_⟩
  refine ⟨_, rfl, _, rfl, _, _, rfl, rfl, .inl ⟨by omega, by omega⟩, m * p, 12, rfl, by omega, by decide, by decide, fun H6 y sm6 ny hy => ?_⟩
  have fr30 := frac_30 (m * p)
  have ex : fr (30 * (n + m * p - n)) 360 = fr (m * p) 12 := by
    unfold fr
    rw [show n + m * (p : Int) - n = m * p by omega, fr30.1, fr30.2]
  rw [ex] at hx
  refine eqT (xs := [m * p / (Int.gcd (m * p) 12 : Int), 12 / (Int.gcd (m * p) 12 : Int)]) (ys := [m * p / (Int.gcd (m * p) 12 : Int), 12 / (Int.gcd (m * p) 12 : Int)]) (SqT.of (sm6 _ _ hx)) (SqT.of hy) ?_
  rw [decide_eq_true rfl]
  exact k _ ((sm4.trans sm5).trans sm6)
end
end BR

set_option Elab.async false
set_option linter.all false
set_option maxRecDepth 100000
set_option maxHeartbeats 4000000
/-! _law_stub_right. -/
namespace BR
open PySem PySem.Spec PyProof.Rows L2
theorem inV_int {x : Int} {xs : List Int} : inV (.int x) (xs.map V.int) = decide (x ∈ xs) := by
  unfold inV
  rw [List.any_map, Bool.eq_iff_iff, List.any_eq_true, decide_eq_true_iff]
  constructor
  · rintro ⟨y, hy, e⟩
    have e : (y == x) = true := e
    rw [beq_iff_eq] at e
    rw [← e]
    exact hy
  · intro h
    exact ⟨x, h, beq_self_eq_true x⟩
theorem flat_ints (xs : List Int) : (xs.map V.int).all flatV = true := by
  rw [List.all_map, List.all_eq_true]
  intro x _
  rfl
theorem up_same {xs zs : List Int} (hx : xs.Pairwise (· < ·)) (hz : zs.Pairwise (· < ·)) (h : ∀ z, z ∈ zs ↔ z ∈ xs) : zs = xs := by
  refine sorted_up hx ?_ (hz.imp fun q => Int.le_of_lt q)
  rw [List.perm_ext_iff_of_nodup (hz.imp fun q => by omega) (hx.imp fun q => by omega)]
  exact h
/-- two days and a number of months that a schedule may be asked for -/
structure StubOk (n d n2 d2 m : Int) : Prop where
  d1 : 1 ≤ d
  d3 : d ≤ ln n
  e1 : 1 ≤ d2
  e2 : d2 ≤ ln n2
  n1 : 22900 ≤ n
  n3 : n ≤ 26300
  n4 : 22900 ≤ n2
  n5 : n2 ≤ 26300
  m1 : 1 ≤ m
  m2 : m ≤ 12
  lt : ms n + d - 1 < ms n2 + d2 - 1
  near : (ms n2 + d2 - 1) - (ms n + d - 1) ≤ 1680 * m
section
variable {n d n2 d2 m : Int}
theorem day_in {n d : Int} (n1 : 22900 ≤ n) (n2 : n ≤ 26300) (d1 : 1 ≤ d) (d2 : d ≤ ln n) : ms 22900 ≤ ms n + d - 1 ∧ ms n + d - 1 ≤ ms 26300 + 30 := by
  have a := ms_mono (n := 22900) (n' := n) (by omega) (by omega)
  have b := ms_mono (n := n) (n' := 26300) (by omega) (by omega)
  have c := ln_bounds n
  omega
theorem StubOk.fwd (h : StubOk n d n2 d2 m) : Fit n d m false (ms n2 + d2 - 1) := by
  obtain ⟨d1, d3, e1, e2, n1, n3, n4, n5, m1, m2, lt, near⟩ := h
  have b := day_in n4 n5 e1 e2
  exact ⟨by omega, by omega, d1, d3, (fun e => nomatch e), n1, n3, b.1, b.2, fun _ => ⟨lt, near⟩, fun q => by omega⟩
theorem StubOk.bwd (h : StubOk n d n2 d2 m) : Fit n2 d2 (-m) false (ms n + d - 1) := by
  obtain ⟨d1, d3, e1, e2, n1, n3, n4, n5, m1, m2, lt, near⟩ := h
  have b := day_in n1 n3 d1 d3
  exact ⟨by omega, by omega, e1, e2, (fun e => nomatch e), n4, n5, b.1, b.2, fun q => by omega, fun _ => ⟨lt, by omega⟩⟩
end
/-- the schedule of a side: by one letter -/
def SchBy (side : Str) (n d n2 d2 m : Int) (long : Bool) (xs : List Int) : Prop :=
  (side = Str.ofString "start" ∧ Sch n d m false (ms n2 + d2 - 1) long xs) ∨ (side = Str.ofString "end" ∧ Sch n2 d2 (-m) false (ms n + d - 1) long xs)
theorem stub_by {side : Str} {n d n2 d2 m : Int} (O : StubOk n d n2 d2 m) {xs ys : List Int} (S : SchBy side n d n2 d2 m false xs) (L : SchBy side n d n2 d2 m true ys) : Stub (ms n + d - 1) (ms n2 + d2 - 1) xs ys := by
  have m1 := O.m1
  rcases S with ⟨e, S⟩ | ⟨e, S⟩
  · rcases L with ⟨_, L⟩ | ⟨e2, L⟩
    · exact stub_fwd O.fwd (by omega) S L
    · exact absurd (e2.symm.trans e) start_end
  · rcases L with ⟨e2, L⟩ | ⟨_, L⟩
    · exact absurd (e.symm.trans e2) start_end
    · exact stub_bwd O.bwd (by omega) S L
theorem SchBy.most {side : Str} {n d n2 d2 m : Int} (O : StubOk n d n2 d2 m) {xs : List Int} (S : SchBy side n d n2 d2 m false xs) : xs.Pairwise (· < ·) ∧ xs.length ≤ 62 ∧ xs.head? = some (ms n + d - 1) := by
  have m1 := O.m1
  rcases S with ⟨e, ⟨j, a, p⟩, u⟩ | ⟨e, ⟨j, a, p⟩, u⟩
  · have z := sorted_up (fin_fwd O.fwd (by omega) a false) p u
    have c := core_of O.fwd a
    rw [z]
    exact ⟨fin_fwd O.fwd (by omega) a false, c.most, c.z0⟩
  · have z := sorted_down (fin_bwd O.bwd (by omega) a false) p u
    have c := (core_of O.bwd a).rev
    rw [z]
    exact ⟨List.pairwise_reverse.mpr ((fin_bwd O.bwd (by omega) a false).imp fun h => h), c.most, c.z0⟩
/-- schedule without keep, by its days -/
theorem sched_call {n d n2 d2 m : Int} (O : StubOk n d n2 d2 m) {H : Hp} {side stub : Str} {long : Bool} {Q : VK} (hside : side = Str.ofString "start" ∨ side = Str.ofString "end") (hs : Stubs stub long)
    (k : ∀ H' x xs, Same H H' → H x = none → SchBy side n d n2 d2 m long xs → H' x = some (.tup (xs.map V.int)) → Q (.ref x) H') :
    spSched [.int (ms n + d - 1), .int (ms n2 + d2 - 1), .int m, .str side, .str stub, .bl false] H Q E0 := by
  rcases hside with e | e
  · exact ⟨n, d, m, ms n2 + d2 - 1, _, _, _, side, stub, false, long, false, rfl, .inl ⟨e, rfl, rfl, rfl⟩, hs, rfl, O.fwd, fun H' x xs sm nx sc hx => k H' x xs sm nx (.inl ⟨e, sc⟩) hx⟩
  · exact ⟨n2, d2, -m, ms n + d - 1, _, _, _, side, stub, false, long, false, rfl, .inr ⟨e, rfl, rfl, rfl⟩, hs, rfl, O.bwd, fun H' x xs sm nx sc hx => k H' x xs sm nx (.inr ⟨e, sc⟩) hx⟩
theorem head_at {xs : List Int} {x : Int} (h : xs.head? = some x) : atI (xs.map V.int) 0 = some (.int x) := by
  cases xs with
  | nil => cases h
  | cons y r =>
    have e : y = x := Option.some.inj h
    subst e
    exact atI_nat (j := 0) rfl
theorem len_in {a b : Nat} (h : a = b ∨ a = b + 1) : inV (.int ((a : Int) - (b : Int))) [.int 0, .int 1] = true := by
  rcases h with h | h
  · subst h
    rw [Int.sub_self]
    decide
  · subst h
    rw [show ((b + 1 : Nat) : Int) - (b : Int) = 1 by omega]
    decide
section
variable {P : Program} {w : World} {K : PySem.W.Frag} {mg : Str → Option Value} {base : Heap}
theorem scStub : FnScope ["_law_start", "_law_end", "_law_months", "_law_side", "_law_short", "_law_long", "_law_day"] ["_law_start", "_law_end", "_law_months", "_law_side"] (defScope lStub) := ⟨rfl, rfl, rfl, by decide +kernel, rfl, by decide +kernel, by decide +kernel⟩
def spStub : Sp := spP 4 fun vs _ r => ∃ (n d n2 d2 m : Int) (side : Str), vs = [.int (ms n + d - 1), .int (ms n2 + d2 - 1), .int m, .str side] ∧ StubOk n d n2 d2 m ∧ (side = Str.ofString "start" ∨ side = Str.ofString "end") ∧ r = .bl true
theorem ok_stub {f fS : Addr} {fd fdS : FuncData} (D : Df K mg "_law_stub_right" lStub ["_law_start", "_law_end", "_law_months", "_law_side"] f fd) (B : Bl mg)
    (S : Ok P w K mg base "schedule" 5 ["start", "end", "months", "side", "stub", "keep"] spSched fS fdS) : FnOk P w K mg base CX0 6 f fd ["_law_start", "_law_end", "_law_months", "_law_side"] spStub := by
  refine D.F.ok scStub (fun vs H Q E h => h.1) (fun cdv A outer s H vs Q E hr h => ?_)
  obtain ⟨_, r, ⟨n, d, n2, d2, m, side, rfl, O, hside, rfl⟩, k⟩ := h
  refine ⟨_, pss_cons (ps_set (i := 4) scStub.nd rfl (.inr rfl) (pe_call S.O hr (by rfl) S.G S.kp S.B .nil pass0 (pa_cons (pv 0) (pa_cons (pv 1) (pa_cons (pv 2) (pa_cons (pv 3) (pa_cons pe_str (pa_cons pe_bl pa_nil))))))))
    (pss_cons (ps_set (i := 5) scStub.nd rfl (.inl rfl) (pe_call S.O hr (by rfl) S.G S.kp S.B .nil pass0 (pa_cons (pv 0) (pa_cons (pv 1) (pa_cons (pv 2) (pa_cons (pv 3) (pa_cons pe_str (pa_cons pe_bl pa_nil))))))))
    (pss_cons (ps_if (pt_cmpR (op_neD hr.units) (pe_lst (pa_cons (pe_ix ix_tup (pv 4) pe_int (fun _ _ => rfl)) (pa_cons (pe_ix ix_tup (pv 4) (pe_un un_neg pe_int) (fun _ _ => rfl)) (pa_cons (pe_ix ix_tup (pv 5) pe_int (fun _ _ => rfl)) (pa_cons (pe_ix ix_tup (pv 5) (pe_un un_neg pe_int) (fun _ _ => rfl)) pa_nil)))))
        (pe_lst (pa_cons (pv 0) (pa_cons (pv 1) (pa_cons (pv 0) (pa_cons (pv 1) pa_nil))))) (nomark _)) (pss_one (ps_ret pe_bl)) pss_nil)
    (pss_cons (ps_if (pt_cmpR (op_neD hr.units) (pe_callTy call_list_of (by rfl) B.list (by decide +kernel) (pa_cons (pv 4) pa_nil)) (pe_callB (cr_sortedSet rfl) (by rfl) B.sorted (by decide +kernel) (pa_cons (pe_callTy (cr_setT rfl) (by rfl) B.set (by decide +kernel) (pa_cons (pv 4) pa_nil)) pa_nil)) (nomark _)) (pss_one (ps_ret pe_bl)) pss_nil)
    (pss_cons (ps_if (pt_cmpR (op_neD hr.units) (pe_lc (own := [("_law_day", 6)]) (g := gName 6) rfl scStub.nd (pi_tup (pv 5))
        (blkOk_by (own := [("_law_day", 6)]) (N := ["_law_start", "_law_end", "_law_months", "_law_side", "_law_short", "_law_long", "_law_day"]) (sc := defScope lStub) (by decide +kernel))
        (fun _ _ _ _ _ => pg_name (i := 6) scStub.nd rfl (.inl rfl)) (fun _ _ _ _ _ => pts_one (pt_cmpR (r := rIn K true) op_notIn_seq (pv 6) (pv 4) (by rfl))) (fun _ _ _ _ _ => pv 6)) (pe_lst pa_nil) (nomark _)) (pss_one (ps_ret pe_bl)) pss_nil)
    (pss_one (ps_ret (pe_and (pe_cmpR op_in_seq (pe_op op_sub (pe_callB call_len_seq (by rfl) B.len PySem.boot_len (pa_cons (pv 4) pa_nil)) (pe_callB call_len_seq (by rfl) B.len PySem.boot_len (pa_cons (pv 5) pa_nil))) (pe_lst (pa_cons pe_int (pa_cons pe_int pa_nil))) (by rfl))
      (pe_one (pe_cmpR op_le_bl (pe_cmpR op_eq (pe_callB call_len_seq (by rfl) B.len PySem.boot_len (pa_cons (pv 4) pa_nil)) pe_int (nomark _)) (pe_cmpR (op_eqD hr.units) (pv 5) (pv 4) (nomark _)) (nomark _)))))))))), ?_⟩
  -- short, long
  refine cutS (fun σ H' => ∃ a xs, σ = [some (.int (ms n + d - 1)), some (.int (ms n2 + d2 - 1)), some (.int m), some (.str side), some (.ref a), none, none] ∧ Same H H' ∧ SchBy side n d n2 d2 m false xs ∧ H' a = some (.tup (xs.map V.int))) (fun N hN => ?_) ?_
  · show tCall _ _ _ _ _ _ _
    refine cutE (fun v H' => ∃ a xs, v = .ref a ∧ Same H H' ∧ SchBy side n d n2 d2 m false xs ∧ H' a = some (.tup (xs.map V.int))) (fun Q2 kq => ⟨_, rfl, _, rfl, _, rfl, _, rfl, sched_call O hside (.inr ⟨rfl, rfl⟩) fun H1 a xs sm na sc ha => kq _ _ ⟨a, xs, rfl, sm, sc, ha⟩⟩) ?_
    rintro v H1 ⟨a, xs, rfl, sm, sc, ha⟩
    exact hN _ _ ⟨a, xs, rfl, sm, sc, ha⟩
  rintro σ H1 ⟨a, xs, rfl, sm1, sx, ha⟩
  refine cutS (fun σ H' => ∃ b ys, σ = [some (.int (ms n + d - 1)), some (.int (ms n2 + d2 - 1)), some (.int m), some (.str side), some (.ref a), some (.ref b), none] ∧ Same H1 H' ∧ SchBy side n d n2 d2 m true ys ∧ H' b = some (.tup (ys.map V.int))) (fun N hN => ?_) ?_
  · show tCall _ _ _ _ _ _ _
    refine cutE (fun v H' => ∃ a xs, v = .ref a ∧ Same H1 H' ∧ SchBy side n d n2 d2 m true xs ∧ H' a = some (.tup (xs.map V.int))) (fun Q2 kq => ⟨_, rfl, _, rfl, _, rfl, _, rfl, sched_call O hside (.inl ⟨rfl, rfl⟩) fun H1 a xs sm na sc ha => kq _ _ ⟨a, xs, rfl, sm, sc, ha⟩⟩) ?_
    rintro v H2 ⟨b, ys, rfl, sm, sc, hb⟩
    exact hN _ _ ⟨b, ys, rfl, sm, sc, hb⟩
  rintro σ H2 ⟨b, ys, rfl, sm2, sy, hb⟩
  have ha2 := sm2 _ _ ha
  have st := stub_by O sx sy
  obtain ⟨z0, z1, y0, y1, sub, hlen, two, most⟩ := st.core
  have smH := sm1.trans sm2
  -- the ends
  refine cutS (fun σ H' => σ = [some (.int (ms n + d - 1)), some (.int (ms n2 + d2 - 1)), some (.int m), some (.str side), some (.ref a), some (.ref b), none] ∧ Same H2 H') (fun N hN => ?_) ?_
  · refine cutT (fun b H' => b = false ∧ Same H2 H') (fun Q' kq => ?_) (fun b H' ⟨hb, sm⟩ => by subst hb; exact iteF (hN _ _ ⟨rfl, sm⟩))
    refine ⟨_, rfl, a, _, 0, _, rfl, rfl, SqT.of ha2, head_at z0, _, rfl, _, rfl, a, _, _, _, rfl, rfl, SqT.of ha2, atI_end (last_map z1), _, rfl, b, _, 0, _, rfl, rfl, SqT.of hb, head_at y0, _, rfl, _, rfl, b, _, _, _, rfl, rfl, SqT.of hb, atI_end (last_map y1),
      (by show 4 ≤ sizeLine; decide), fun p hp => ?_⟩
    refine ⟨_, rfl, _, rfl, _, rfl, _, rfl, (by show 4 ≤ sizeLine; decide), fun q hq => ?_⟩
    refine neL (xs := [ms n + d - 1, ms n2 + d2 - 1, ms n + d - 1, ms n2 + d2 - 1]) (ys := [ms n + d - 1, ms n2 + d2 - 1, ms n + d - 1, ms n2 + d2 - 1]) (SqL.of (same_upd hq _ _ upd_same)) (SqL.of upd_same) ⟨_, rfl, kq _ _ ⟨?_, (same_upd hp).trans (same_upd hq)⟩⟩
    rw [decide_eq_true rfl]
    rfl
  rintro σ H3 ⟨rfl, sm3⟩
  have ha3 := sm3 _ _ ha2
  have hb3 := sm3 _ _ hb
  -- list(short) != sorted(set(short))
  refine cutS (fun σ H' => σ = [some (.int (ms n + d - 1)), some (.int (ms n2 + d2 - 1)), some (.int m), some (.str side), some (.ref a), some (.ref b), none] ∧ Same H3 H') (fun N hN => ?_) ?_
  · refine cutT (fun b H' => b = false ∧ Same H3 H') (fun Q' kq => ?_) (fun b H' ⟨hb, sm⟩ => by subst hb; exact iteF (hN _ _ ⟨rfl, sm⟩))
    refine ⟨_, rfl, a, _, rfl, .inr (SqT.of ha3), fun l hl => ?_⟩
    refine ⟨_, rfl, a, xs, rfl, SqT.of (same_upd hl _ _ ha3), by unfold scanBound; omega, fun sA c nsA hc => ?_⟩
    refine ⟨sA, _, c, rfl, upd_same, by omega, fun zs q inc mem len nq => ?_⟩
    have e : zs = xs := up_same st.inc inc fun z => (mem z).trans decide_eq_true_iff
    subst e
    refine neL (xs := zs) (ys := zs) (SqL.of (same_upd nq _ _ (same_upd nsA _ _ upd_same))) (SqL.of upd_same) ⟨_, rfl, kq _ _ ⟨?_, ((same_upd hl).trans (same_upd nsA)).trans (same_upd nq)⟩⟩
    rw [decide_eq_true rfl]
    rfl
  rintro σ H4 ⟨rfl, sm4⟩
  have ha4 := sm4 _ _ ha3
  have hb4 := sm4 _ _ hb3
  -- [day for day in long if day not in short] != []
  refine cutS (fun σ H' => σ = [some (.int (ms n + d - 1)), some (.int (ms n2 + d2 - 1)), some (.int m), some (.str side), some (.ref a), some (.ref b), none] ∧ Same H4 H') (fun N hN => ?_) ?_
  · refine cutT (fun b H' => b = false ∧ Same H4 H') (fun Q' kq => ?_) (fun b H' ⟨hb, sm⟩ => by subst hb; exact iteF (hN _ _ ⟨rfl, sm⟩))
    refine ⟨_, rfl, b, rfl, ⟨_, SqT.of hb4⟩, fun L hL => ?_⟩
    refine lc_it (walk_tup (xs := ys.map V.int)) (fun i H' => Same H4 H' ∧ H' L = some (.lst [])) ⟨same_upd hL, upd_same⟩ (fun i H' _ q => SqT.of (q.1 _ _ hb4)) ?_ ?_
    · rintro i x H5 H6 hi ⟨sm5, ea⟩ ⟨rfl, hx⟩
      obtain ⟨z, hz, rfl⟩ := at_map hx
      have zx : z ∈ xs := sub z (List.mem_of_getElem? hz)
      refine ⟨rfl, _, rfl, _, rfl, a, _, rfl, .inr (SqT.of (sm5 _ _ ha4)), rfl, flat_ints xs, ?_⟩
      rw [inV_int, decide_eq_true zx]
      exact ⟨_, rfl, iteF ⟨sm5, ea⟩⟩
    · rintro H5 ⟨sm5, ea⟩
      refine ⟨Nat.zero_le _, fun q hq => ?_⟩
      refine neL (xs := []) (ys := []) (SqL.of (same_upd hq _ _ ea)) (SqL.of upd_same) ⟨_, rfl, kq _ _ ⟨rfl, sm5.trans (same_upd hq)⟩⟩
  rintro σ H5 ⟨rfl, sm5⟩
  have ha5 := sm5 _ _ ha4
  have hb5 := sm5 _ _ hb4
  -- the end
  refine ⟨_, rfl, a, _, rfl, .inr (SqT.of ha5), _, rfl, b, _, rfl, .inr (SqT.of hb5), _, _, rfl, rfl, (by show 2 ≤ sizeLine; decide), fun q hq => ?_⟩
  have ha6 := same_upd hq (o := .lst [.int 0, .int 1]) _ _ ha5
  have hb6 := same_upd hq (o := .lst [.int 0, .int 1]) _ _ hb5
  refine ⟨q, _, rfl, .inl (SqL.of upd_same), rfl, rfl, _, rfl, ?_⟩
  refine ite2 (fun _ => ?_) (fun c => absurd ?_ c)
  · refine ⟨_, rfl, a, _, rfl, .inr (SqT.of ha6), rfl, _, rfl, _, rfl, eqT (SqT.of hb6) (SqT.of ha6) ⟨_, _, rfl, rfl, ?_⟩⟩
    have z := k _ ((((smH.trans sm3).trans sm4).trans sm5).trans (same_upd hq (o := .lst [.int 0, .int 1])))
    rw [decide_eq_true (p := b2i _ ≤ b2i _)]
    · exact z
    · rw [dec_int, List.length_map]
      by_cases e : xs.length = 2
      · rw [two e, decide_eq_true rfl, e]
        decide
      · rw [show (((xs.length : Nat) : Int) == 2) = false from beq_eq_false_iff_ne.mpr (by omega)]
        generalize decide (ys = xs) = z
        cases z <;> decide
  · show inV (V.int ((((xs.map V.int).length : Nat) : Int) - (((ys.map V.int).length : Nat) : Int))) [V.int 0, V.int 1] = true
    rw [List.length_map, List.length_map]
    exact len_in hlen
end
end BR

set_option Elab.async false
set_option linter.all false
set_option maxRecDepth 100000
set_option maxHeartbeats 8000000
/-! The law itself. -/
namespace BR
open PySem PySem.Spec PyProof.Rows L2
/-- the law's slots -/
abbrev sl (s p : Addr) (t m q e b f c y g z : Option V) : L2.St := [some (.ref s), some (.ref p), t, m, q, e, b, f, c, y, g, z, none]
/-! ### plain -/
theorem ms_22900 : ms 22900 = 3042 := by decide
theorem ms_26000 : ms 26000 = 97398 := by decide
theorem drawn_month {n d D : Int} (n0 : 22800 ≤ n) (d1 : 1 ≤ d) (d2 : d ≤ ln n) (e : D = ms n + d - 1) (h0 : 5000 ≤ D) (h1 : D < 95000) : 22900 ≤ n ∧ n ≤ 26000 := by
  have a := ms_22900
  have b := ms_26000
  have l := ln_bounds n
  constructor
  · by_cases q : 22900 ≤ n
    · exact q
    · have := ms_mono (n := n) (n' := 22900) n0 (by omega)
      omega
  · by_cases q : n ≤ 26000
    · exact q
    · have := ms_mono (n := 26000) (n' := n) (by omega) (by omega)
      omega
theorem end_month {n d n2 d2 D : Int} (n0 : 22900 ≤ n) (n3 : n ≤ 26000) (d1 : 1 ≤ d) (d3 : d ≤ 27) (m0 : 22800 ≤ n2) (e1 : 1 ≤ d2) (e2 : d2 ≤ ln n2) (e : D = ms n2 + d2 - 1) (h0 : ms n + d - 1 < D) (h1 : D ≤ ms n + d - 1 + 3360) : 22900 ≤ n2 ∧ n2 ≤ 26300 := by
  have l := ln_bounds n2
  constructor
  · have q := mo_of_lt (n := n) (n' := n2) (d := d) (d' := d2) m0 e2 d1 (by omega)
    omega
  · by_cases q : n2 ≤ 26300
    · exact q
    · have := ms_mono (n := n) (n' := n2) (by omega) (by omega)
      omega
/-- the least of the moved days -/
theorem moved_head {xs zs : List Int} {a : Int} (hx : xs.Pairwise (· < ·)) (h0 : xs.head? = some a) (hz : zs.Pairwise (· < ·)) (mem : ∀ z, z ∈ zs ↔ z ∈ xs.map nb) : zs.head? = some (nb a) := by
  cases xs with
  | nil => cases h0
  | cons x r =>
    have ea : x = a := Option.some.inj h0
    subst ea
    have m1 : nb x ∈ zs := (mem _).mpr (List.mem_map.mpr ⟨x, List.mem_cons_self, rfl⟩)
    cases zs with
    | nil => cases m1
    | cons y s =>
      have m2 := (mem y).mp List.mem_cons_self
      obtain ⟨u, hu, eu⟩ := List.mem_map.mp m2
      have le1 : nb x ≤ y := by
        rw [← eu]
        rcases List.mem_cons.mp hu with q | q
        · rw [q]
          exact Int.le_refl _
        · exact nb_mono (Int.le_of_lt ((List.pairwise_cons.mp hx).1 u q))
      have le2 : y ≤ nb x := by
        rcases List.mem_cons.mp m1 with q | q
        · rw [q]
          exact Int.le_refl _
        · exact Int.le_of_lt ((List.pairwise_cons.mp hz).1 _ q)
      exact congrArg some (Int.le_antisymm le2 le1)
def dist (z x : Int) : Int := if z - x < 0 then -(z - x) else z - x
theorem dist_near (x : Int) : dist (nb x) x ≤ 2 := by
  have := nb_near x
  unfold dist
  split <;> omega
theorem no_false (k : Nat) : inV (.bl false) (List.replicate k (.bl true)) = false := by
  unfold inV
  rw [List.any_eq_false]
  intro y hy
  rw [(List.mem_replicate.mp hy).2]
  decide
theorem flat_true (k : Nat) : (List.replicate k (V.bl true)).all flatV = true := by
  rw [List.all_eq_true]
  intro y hy
  rw [(List.mem_replicate.mp hy).2]
  rfl
section
variable {P : Program} {w : World} {K : PySem.W.Frag} {mg : Str → Option Value} {base : Heap}
theorem scLaw : FnScope ["_law_script", "_law_pen", "_law_turn", "_law_months", "_law_paces", "_law_date", "_law_start", "_law_end", "_law_calendar", "_law_days", "_law_found", "_law_day", "_law_one"] ["_law_script"] (defScope lLaw) := ⟨rfl, rfl, rfl, by decide +kernel, rfl, by decide +kernel, by decide +kernel⟩
def spLaw (K : PySem.W.Frag) : Sp := fun vs H Q _ => ∃ (a : Addr) (ns : List Int), vs = [.ref a] ∧ SqL K H a (ns.map V.int) ∧ ns.length ≤ 63 ∧ ∀ H', Q (.bl true) H'
theorem ok_law {f fO fN fT fY fZ fB fS fC fM fI fV : Addr} {fd fdO fdN fdT fdY fdZ fdB fdS fdC fdM fdI fdV : FuncData} (D : Df K mg "law" lLaw ["_law_script"] f fd) (B : Bl mg)
    (OP : Ok P w K mg base "_law_open" 1 ["_law_script"] (spOpen K) fO fdO) (ON : Ok P w K mg base "_law_one_of" 3 ["_law_pen", "_law_some"] spOne fN fdN) (T : Ok P w K mg base "_law_take" 2 ["_law_pen", "_law_amount"] spTake fT fdT)
    (DY : Ok P w K mg base "_law_date_of" 3 ["_law_day"] spDate fY fdY) (DZ : Ok P w K mg base "_law_day_of" 2 ["_law_date"] (spDay K) fZ fdZ) (BO : Ok P w K mg base "_law_both_right" 6 ["_law_start", "_law_months", "_law_paces"] spBoth fB fdB)
    (ST : Ok P w K mg base "_law_stub_right" 6 ["_law_start", "_law_end", "_law_months", "_law_side"] spStub fS fdS) (SC : Ok P w K mg base "schedule" 5 ["start", "end", "months", "side", "stub", "keep"] spSched fC fdC)
    (MS : Ok P w K mg base "moved_schedule" 5 ["calendar", "days", "rule"] (spMsch K) fM fdM) (IB : Ok P w K mg base "is_business" 2 ["calendar", "day"] (spBiz K) fI fdI) (MV : Ok P w K mg base "moved" 4 ["calendar", "day", "rule"] (spMov K) fV fdV) :
    FnOk P w K mg base CX0 7 f fd ["_law_script"] (spLaw K) := by
  refine D.F.ok scLaw (fun vs H Q E h => ?_) (fun cdv A outer s H vs Q E hr h => ?_)
  · obtain ⟨a, ns, rfl, _⟩ := h
    rfl
  obtain ⟨a, ns, rfl, hS, hn, k⟩ := h
  have hr1 : Room 1 _ := hr.mono (by decide)
  have hr2 : Room 2 _ := hr.mono (by decide)
  have hr3 : Room 3 _ := hr.mono (by decide)
  have hr4 : Room 4 _ := hr.mono (by decide)
  have hr5 : Room 5 _ := hr.mono (by decide)
  refine ⟨_, pss_cons (ps_set (i := 1) scLaw.nd rfl (.inl rfl) (pe_call OP.O hr1 (by rfl) OP.G OP.kp OP.B .nil pass0 (pa_cons (pv 0) pa_nil)))
    (pss_cons (ps_for PassesOwn.never rfl (pi_range1 (by rfl) B.range (pa_cons pe_int pa_nil)) (pg_name (i := 2) scLaw.nd rfl (.inl rfl))
      (pss_cons (ps_par (i := 3) (j := 4) (by rfl) scLaw.nd rfl rfl (by decide) rfl rfl (pa_cons (pe_call ON.O hr3 (by rfl) ON.G ON.kp ON.B .nil pass0 (pa_cons (pv 1) (pa_cons (pe_lst (pa_cons pe_int (pa_cons pe_int (pa_cons pe_int (pa_cons pe_int (pa_cons pe_int (pa_cons pe_int pa_nil))))))) pa_nil)))
          (pa_cons (pe_op op_add pe_int (pe_call T.O hr2 (by rfl) T.G T.kp T.B .nil pass0 (pa_cons (pv 1) (pa_cons pe_int pa_nil)))) pa_nil)) (by rfl))
      (pss_cons (ps_set (i := 5) scLaw.nd rfl (.inl rfl) (pe_call DY.O hr3 (by rfl) DY.G DY.kp DY.B .nil pass0 (pa_cons (pe_op op_add pe_int (pe_call T.O hr2 (by rfl) T.G T.kp T.B .nil pass0 (pa_cons (pv 1) (pa_cons pe_int pa_nil)))) pa_nil)))
      (pss_cons (ps_set (i := 6) scLaw.nd rfl (.inl rfl) (pe_call DZ.O hr2 (by rfl) DZ.G DZ.kp DZ.B .nil pass0 (pa_cons (pe_tup (pa_cons (pe_ix ix_tup (pv 5) pe_int (fun _ _ => rfl)) (pa_cons (pe_ix ix_tup (pv 5) pe_int (fun _ _ => rfl))
          (pa_cons (pe_op op_add pe_int (pe_call T.O hr2 (by rfl) T.G T.kp T.B .nil pass0 (pa_cons (pv 1) (pa_cons pe_int pa_nil)))) pa_nil)))) pa_nil)))
      (pss_cons (ps_if (pt_not (pt_val (pe_call BO.O hr (by rfl) BO.G BO.kp BO.B .nil pass0 (pa_cons (pv 6) (pa_cons (pv 3) (pa_cons (pv 4) pa_nil)))))) (pss_one (ps_ret pe_bl)) pss_nil)
      (pss_cons (ps_set (i := 7) scLaw.nd rfl (.inl rfl) (pe_op op_add (pe_op op_add (pv 6) pe_int) (pe_call T.O hr2 (by rfl) T.G T.kp T.B .nil pass0 (pa_cons (pv 1) (pa_cons (pe_op op_mul (pe_op op_mul pe_int (pv 3)) pe_int) pa_nil)))))
      (pss_cons (ps_if (pt_not (pt_val (pe_call ST.O hr (by rfl) ST.G ST.kp ST.B .nil pass0 (pa_cons (pv 6) (pa_cons (pv 7) (pa_cons (pv 3) (pa_cons (pe_call ON.O hr3 (by rfl) ON.G ON.kp ON.B .nil pass0 (pa_cons (pv 1) (pa_cons (pe_lst (pa_cons pe_str (pa_cons pe_str pa_nil))) pa_nil))) pa_nil))))))) (pss_one (ps_ret pe_bl)) pss_nil)
      (pss_cons (ps_asg (pe_tup (pa_cons (pe_tup (pa_cons (pe_tup (pa_cons pe_int (pa_cons pe_int pa_nil))) (pa_cons (pe_tup pa_nil) pa_nil)))
          (pa_cons (pe_call SC.O hr5 (by rfl) SC.G SC.kp SC.B .nil pass0 (pa_cons (pv 6) (pa_cons (pv 7) (pa_cons (pv 3) (pa_cons pe_str (pa_cons pe_str (pa_cons pe_bl pa_nil))))))) pa_nil)))
        (pg_tup rfl (pgs_cons (pg_name (i := 8) scLaw.nd rfl (.inr rfl)) (pgs_cons (pg_name (i := 9) scLaw.nd rfl (.inl rfl)) pgs_nil))))
      (pss_cons (ps_set (i := 10) scLaw.nd rfl (.inl rfl) (pe_call MS.O hr5 (by rfl) MS.G MS.kp MS.B .nil pass0 (pa_cons (pv 8) (pa_cons (pv 9) (pa_cons pe_str pa_nil)))))
      (pss_cons (ps_if (pt_cmpR op_in_seq pe_bl (pe_lc (own := [("_law_day", 11)]) (g := gName 11) (tt := tYes) rfl scLaw.nd (pi_tup (pv 10))
          (blkOk_by (own := [("_law_day", 11)]) (N := ["_law_script", "_law_pen", "_law_turn", "_law_months", "_law_paces", "_law_date", "_law_start", "_law_end", "_law_calendar", "_law_days", "_law_found", "_law_day", "_law_one"]) (sc := defScope lLaw) (by decide +kernel))
          (fun _ _ _ _ _ => pg_name (i := 11) scLaw.nd rfl (.inl rfl)) (fun _ _ _ _ _ => pts_nil) (fun _ _ _ _ _ => pe_call IB.O hr2 (by rfl) IB.G IB.kp IB.B .nil pass0 (pa_cons (pv 8) (pa_cons (pv 11) pa_nil)))) (by rfl)) (pss_one (ps_ret pe_bl)) pss_nil)
      (pss_cons (ps_if (PW.pt (pw_or (pt_cmpR op_gt (pe_callB call_len_seq (by rfl) B.len PySem.boot_len (pa_cons (pv 10) pa_nil)) (pe_callB call_len_seq (by rfl) B.len PySem.boot_len (pa_cons (pv 9) pa_nil)) (nomark _))
          (pw_or1 (pt_cmpR op_ne (pe_ix ix_tup (pv 10) pe_int (fun _ _ => rfl)) (pe_call MV.O hr4 (by rfl) MV.G MV.kp MV.B .nil pass0 (pa_cons (pv 8) (pa_cons (pv 6) (pa_cons pe_str pa_nil)))) (nomark _))))) (pss_one (ps_ret pe_bl)) pss_nil)
      (pss_one (ps_for PassesOwn.never rfl (pi_tup (pv 10)) (pg_name (i := 11) scLaw.nd rfl (.inr rfl))
        (pss_one (ps_if (pt_cmpR op_gt (pe_callB (cr_min rfl) (by rfl) B.min (by decide +kernel) (pa_cons (pe_lc (own := [("_law_one", 12)]) (g := gName 12) (tt := tYes) rfl scLaw.nd (pi_tup (pv 9))
          (blkOk_by (own := [("_law_one", 12)]) (N := ["_law_script", "_law_pen", "_law_turn", "_law_months", "_law_paces", "_law_date", "_law_start", "_law_end", "_law_calendar", "_law_days", "_law_found", "_law_day", "_law_one"]) (sc := defScope lLaw) (by decide +kernel))
          (fun _ _ _ _ _ => pg_name (i := 12) scLaw.nd rfl (.inl rfl)) (fun _ _ _ _ _ => pts_nil) (fun _ _ _ _ _ => pe_callB call_abs (by rfl) B.abs (by decide +kernel) (pa_cons (pe_op op_sub (pv 11) (pv 12)) pa_nil))) pa_nil)) pe_int (nomark _))
          (pss_one (ps_ret pe_bl)) pss_nil)))))))))))))))
    (pss_one (ps_ret pe_bl))), ?_⟩
  -- pen = _law_open(script)
  refine cutS (fun σ H' => ∃ p c, σ = sl a p none none none none none none none none none none ∧ Pen H' p c 0 0) (fun N hN => ⟨_, rfl, a, ns, rfl, hS, hn, fun H1 p c sm np hp => hN _ _ ⟨p, c, rfl, hp⟩⟩) ?_
  rintro σ H1 ⟨p, c, rfl, hP⟩
  -- for turn in range(5)
  refine cutS (fun σ H' => True) (fun N hN => ?_) (fun σ H' _ => k _)
  refine ⟨5, rfl, by decide, by decide, for_range (n := 5) (fun i σ H' => ∃ t m q e b f cl y g z pa pv', σ = sl a p t m q e b f cl y g z ∧ Pen H' p c pa pv' ∧ 0 ≤ pa ∧ pa ≤ 10 * (i : Int)) ⟨_, _, _, _, _, _, _, _, _, _, 0, 0, rfl, hP, by decide, by decide⟩ ?_ (fun σ H' _ => hN _ _ trivial)⟩
  rintro i σ H2 hi ⟨t, m0, q0, e0, b0, f0, cl, y0, g0, z0, pa, pn, rfl, P2, pa0, pa1⟩
  -- months, paces
  refine cutS (fun σ H' => ∃ (m : Int) (r : Nat) (pa' pn' : Int), σ = sl a p (some (.int (0 + (i : Int)))) (some (.int m)) (some (.int (r : Int))) e0 b0 f0 cl y0 g0 z0 ∧ 1 ≤ m ∧ m ≤ 12 ∧ 1 ≤ r ∧ r ≤ 11 ∧ Pen H' p c pa' pn' ∧ 0 ≤ pa' ∧ pa' ≤ 10 * (i : Int) + 2) (fun N hN => ?_) ?_
  · refine ⟨_, rfl, (by show 6 ≤ sizeLine; decide), fun l nl => ?_⟩
    refine ⟨p, c, l, pa, pn, _, rfl, P2.same (same_upd nl), (ne_of_none P2.at_ nl).symm, upd_same, (by show 0 < 6; decide), (by show 6 < 100; decide), pa0, by omega, fun H3 a3 n3 x b3 P3 h1 h2 hx => ?_⟩
    obtain ⟨m, rfl, m1, m2⟩ : ∃ m : Int, x = .int m ∧ 1 ≤ m ∧ m ≤ 12 := by
      simp only [List.mem_cons, List.not_mem_nil, or_false] at hx
      rcases hx with e | e | e | e | e | e <;> exact ⟨_, e, by decide, by decide⟩
    refine ⟨_, rfl, p, c, a3, n3, 11, rfl, P3, by omega, by omega, by decide, by decide, fun H4 a4 n4 r b4 P4 h3 h4 r0 r1 => ?_⟩
    refine ⟨_, _, rfl, rfl, _, _, rfl, hN _ _ ⟨m, (1 + r).toNat, a4, n4, ?_, m1, m2, by omega, by omega, P4, by omega, by omega⟩⟩
    rw [show (((1 + r).toNat : Nat) : Int) = 1 + r by omega]
    rfl
  rintro σ H3 ⟨m, r, pa3, pn3, rfl, m1, m2, r1, r2, P3, q1, q2⟩
  -- date
  refine cutS (fun σ H' => ∃ (u : Addr) (n d pa' pn' : Int), σ = sl a p (some (.int (0 + (i : Int)))) (some (.int m)) (some (.int (r : Int))) (some (.ref u)) b0 f0 cl y0 g0 z0 ∧ 22900 ≤ n ∧ n ≤ 26000 ∧ H' u = some (.tup (dt n d)) ∧ Pen H' p c pa' pn' ∧ 0 ≤ pa' ∧ pa' ≤ 10 * (i : Int) + 3) (fun N hN => ?_) ?_
  · refine ⟨_, rfl, p, c, pa3, pn3, 90000, rfl, P3, q1, by omega, by decide, by decide, fun H4 a4 n4 x b4 P4 h1 h2 x0 x1 => ?_⟩
    obtain ⟨n, d, n1, n2, d1, d2, e⟩ := date_any (D := 5000 + x) (by omega) (by omega)
    have nm := drawn_month n1 d1 d2 e (by omega) (by omega)
    refine ⟨_, _, rfl, rfl, n, d, by rw [← e]; rfl, n1, n2, d1, d2, fun H5 u sm nu hu => hN _ _ ⟨u, n, d, a4, n4, rfl, nm.1, nm.2, hu, P4.same sm, by omega, by omega⟩⟩
  rintro σ H4 ⟨u, n, d0, pa4, pn4, rfl, n1, n2, hu, P4, q3, q4⟩
  -- start
  refine cutS (fun σ H' => ∃ (d pa' pn' : Int), σ = sl a p (some (.int (0 + (i : Int)))) (some (.int m)) (some (.int (r : Int))) (some (.ref u)) (some (.int (ms n + d - 1))) f0 cl y0 g0 z0 ∧ 1 ≤ d ∧ d ≤ 27 ∧ Pen H' p c pa' pn' ∧ 0 ≤ pa' ∧ pa' ≤ 10 * (i : Int) + 4) (fun N hN => ?_) ?_
  · refine ⟨_, rfl, u, _, 0, _, rfl, rfl, SqT.of hu, atI_nat (j := 0) rfl, _, rfl, u, _, 1, _, rfl, rfl, SqT.of hu, atI_nat (j := 1) rfl, ?_⟩
    refine ⟨_, rfl, p, c, pa4, pn4, 27, rfl, P4, q3, by omega, by decide, by decide, fun H5 a5 n5 x b5 P5 h1 h2 x0 x1 => ?_⟩
    refine ⟨_, _, rfl, rfl, (by show 3 ≤ sizeLine; decide), fun v nv => ?_⟩
    refine ⟨rfl, _, ⟨v, n, 1 + x, rfl, SqT.of upd_same, by omega, by omega, rfl⟩, fun H6 sm => hN _ _ ⟨1 + x, a5, n5, rfl, by omega, by omega, (P5.same (same_upd nv)).same sm, by omega, by omega⟩⟩
  rintro σ H5 ⟨d, pa5, pn5, rfl, d1, d2, P5, q5, q6⟩
  -- if not _law_both_right(..)
  refine cutS (fun σ H' => σ = sl a p (some (.int (0 + (i : Int)))) (some (.int m)) (some (.int (r : Int))) (some (.ref u)) (some (.int (ms n + d - 1))) f0 cl y0 g0 z0 ∧ Same H5 H') (fun N hN => ?_) ?_
  · have mr := le_mul_nat (step := m) (a := r) (b := 11) (by omega) r2
    refine ⟨_, rfl, _, rfl, _, rfl, rfl, _, ⟨n, d, m, r, rfl, ⟨d1, d2, m1, m2, r1, r2, n1, by omega⟩, rfl⟩, fun H6 sm => ⟨_, rfl, ?_⟩⟩
    exact iteF (hN _ _ ⟨rfl, sm⟩)
  rintro σ H6 ⟨rfl, sm6⟩
  have P6 := P5.same sm6
  -- end
  refine cutS (fun σ H' => ∃ (n2 d2 pa' pn' : Int), σ = sl a p (some (.int (0 + (i : Int)))) (some (.int m)) (some (.int (r : Int))) (some (.ref u)) (some (.int (ms n + d - 1))) (some (.int (ms n2 + d2 - 1))) cl y0 g0 z0 ∧ StubOk n d n2 d2 m ∧ Pen H' p c pa' pn' ∧ 0 ≤ pa' ∧ pa' ≤ 10 * (i : Int) + 5) (fun N hN => ?_) ?_
  · refine ⟨_, rfl, _, _, rfl, rfl, _, rfl, _, rfl, _, _, rfl, rfl, .inl ⟨by decide, by decide⟩, _, _, rfl, rfl, .inr ⟨by decide, by decide⟩, ?_⟩
    refine ⟨p, c, pa5, pn5, 28 * m * 10, rfl, P6, q5, by omega, by omega, by omega, fun H7 a7 n7 x b7 P7 h1 h2 x0 x1 => ?_⟩
    have lo := ms_mono (n := 22800) (n' := n) (by decide) (by omega)
    have hiB := ms_mono (n := n) (n' := 26000) (by omega) (by omega)
    have c1 := ms_first
    have c2 := ms_26000
    obtain ⟨n2', d2', k1, k2, k3, k4, e⟩ := date_any (D := ms n + d - 1 + 1 + x) (by omega) (by omega)
    have nm := end_month n1 n2 d1 d2 k1 k3 k4 e (by omega) (by omega)
    have lb := ln_bounds n
    refine ⟨_, _, rfl, rfl, hN _ _ ⟨n2', d2', a7, n7, ?_, ⟨d1, by omega, k3, k4, n1, by omega, nm.1, nm.2, m1, m2, by omega, by omega⟩, P7, by omega, by omega⟩⟩
    rw [← e]
    rfl
  rintro σ H7 ⟨n2', d2', pa7, pn7, rfl, O, P7, q7, q8⟩
  -- if not _law_stub_right(..)
  refine cutS (fun σ H' => ∃ pa' pn', σ = sl a p (some (.int (0 + (i : Int)))) (some (.int m)) (some (.int (r : Int))) (some (.ref u)) (some (.int (ms n + d - 1))) (some (.int (ms n2' + d2' - 1))) cl y0 g0 z0 ∧ Pen H' p c pa' pn' ∧ 0 ≤ pa' ∧ pa' ≤ 10 * (i : Int) + 6) (fun N hN => ?_) ?_
  · refine ⟨_, rfl, _, rfl, _, rfl, _, rfl, (by show 2 ≤ sizeLine; decide), fun l nl => ?_⟩
    refine ⟨p, c, l, pa7, pn7, _, rfl, P7.same (same_upd nl), (ne_of_none P7.at_ nl).symm, upd_same, (by show 0 < 2; decide), (by show 2 < 100; decide), q7, by omega, fun H8 a8 n8 x b8 P8 h1 h2 hx => ?_⟩
    obtain ⟨side, rfl, hside⟩ : ∃ side : Str, x = .str side ∧ (side = Str.ofString "start" ∨ side = Str.ofString "end") := by
      simp only [List.mem_cons, List.not_mem_nil, or_false] at hx
      rcases hx with e | e
      · exact ⟨_, e, .inl rfl⟩
      · exact ⟨_, e, .inr rfl⟩
    refine ⟨rfl, _, ⟨n, d, n2', d2', m, side, rfl, O, hside, rfl⟩, fun H9 sm => ⟨_, rfl, ?_⟩⟩
    exact iteF (hN _ _ ⟨a8, n8, rfl, P8.same sm, by omega, by omega⟩)
  rintro σ H8 ⟨pa8, pn8, rfl, P8, q9, q10⟩
  -- calendar, days
  refine cutS (fun σ H' => ∃ (cal ds : Addr) (xs : List Int), σ = sl a p (some (.int (0 + (i : Int)))) (some (.int m)) (some (.int (r : Int))) (some (.ref u)) (some (.int (ms n + d - 1))) (some (.int (ms n2' + d2' - 1))) (some (.ref cal)) (some (.ref ds)) g0 z0 ∧ Same H8 H' ∧ Cal K H' cal ∧ SchBy (Str.ofString "start") n d n2' d2' m false xs ∧ H' ds = some (.tup (xs.map V.int))) (fun N hN => ?_) ?_
  · refine ⟨(by show 2 ≤ sizeLine; decide), fun we nwe => ⟨(by show 0 ≤ sizeLine; decide), fun ho nho => ⟨(by show 2 ≤ sizeLine; decide), fun cal ncal => ?_⟩⟩⟩
    have s1 := same_upd nwe (o := .tup [.int 5, .int 6])
    have s2 := same_upd nho (o := .tup [])
    have s3 := same_upd ncal (o := .tup [.ref we, .ref ho])
    show tCall _ _ _ _ _ _ _
    refine cutE (fun v H' => ∃ ds xs, v = .ref ds ∧ Same _ H' ∧ SchBy (Str.ofString "start") n d n2' d2' m false xs ∧ H' ds = some (.tup (xs.map V.int))) (fun Q2 kq => ⟨_, rfl, _, rfl, _, rfl, sched_call O (.inl rfl) (.inr ⟨rfl, rfl⟩) fun H1 x xs sm nx sc hx => kq _ _ ⟨x, xs, rfl, sm, sc, hx⟩⟩) ?_
    rintro v H9 ⟨ds, xs, rfl, sm9, sc, hds⟩
    refine ⟨(by show 2 ≤ sizeLine; decide), fun tt ntt => ?_⟩
    refine ⟨tt, _, rfl, SqT.of upd_same, rfl, _, _, rfl, _, _, rfl, rfl, hN _ _ ⟨cal, ds, xs, rfl, (((s1.trans s2).trans s3).trans sm9).trans (same_upd ntt), ⟨we, ho, ?_, ?_, ?_⟩, sc, ?_⟩⟩
    · exact SqT.of (same_upd ntt _ _ (sm9 _ _ upd_same))
    · exact SqT.of (same_upd ntt _ _ (sm9 _ _ (s3 _ _ (s2 _ _ upd_same))))
    · exact SqT.of (same_upd ntt _ _ (sm9 _ _ (s3 _ _ upd_same)))
    · exact same_upd ntt _ _ hds
  rintro σ H9 ⟨cal, ds, xs, rfl, sm9, hcal, sc, hds⟩
  have P9 := P8.same sm9
  obtain ⟨xinc, xlen, xhead⟩ := sc.most O
  -- found
  refine cutS (fun σ H' => ∃ (fo : Addr) (zs : List Int), σ = sl a p (some (.int (0 + (i : Int)))) (some (.int m)) (some (.int (r : Int))) (some (.ref u)) (some (.int (ms n + d - 1))) (some (.int (ms n2' + d2' - 1))) (some (.ref cal)) (some (.ref ds)) (some (.ref fo)) z0 ∧ Same H9 H' ∧ zs.Pairwise (· < ·) ∧ (∀ z, z ∈ zs ↔ z ∈ xs.map nb) ∧ zs.length ≤ xs.length ∧ H' fo = some (.tup (zs.map V.int))) (fun N hN => ?_) ?_
  · exact ⟨_, rfl, _, rfl, cal, ds, xs, rfl, hcal, SqT.of hds, xlen, fun H10 fo zs sm nf zi zm zl hf => hN _ _ ⟨fo, zs, rfl, sm, zi, zm, zl, hf⟩⟩
  rintro σ H10 ⟨fo, zs, rfl, sm10, zinc, zmem, zlen, hfo⟩
  have P10 := P9.same sm10
  have hcal10 := hcal.same sm10
  have hds10 := sm10 _ _ hds
  -- if False in [..]
  refine cutS (fun σ H' => σ = sl a p (some (.int (0 + (i : Int)))) (some (.int m)) (some (.int (r : Int))) (some (.ref u)) (some (.int (ms n + d - 1))) (some (.int (ms n2' + d2' - 1))) (some (.ref cal)) (some (.ref ds)) (some (.ref fo)) z0 ∧ Same H10 H') (fun N hN => ?_) ?_
  · refine ⟨_, rfl, fo, rfl, ⟨_, SqT.of hfo⟩, fun L hL => ?_⟩
    refine lcY (walk_tup (xs := zs.map V.int)) (fun j H' => Same H10 H' ∧ H' L = some (.lst (List.replicate j (.bl true)))) ⟨same_upd hL, upd_same⟩ (fun j H' _ q => SqT.of (q.1 _ _ hfo)) (fun _ => rfl) ?_ ?_
    · rintro j x H11 H12 hj ⟨sm, ea⟩ ⟨rfl, hx⟩
      obtain ⟨z, hz, rfl⟩ := at_map hx
      rw [List.length_map] at hj
      have zb : biz z = true := by
        obtain ⟨x, _, e⟩ := List.mem_map.mp ((zmem z).mp (List.mem_of_getElem? hz))
        rw [← e]
        exact biz_nb x
      refine ⟨_, rfl, _, rfl, rfl, _, ⟨cal, z, rfl, hcal10.same sm, rfl⟩, fun H13 sm13 => ⟨_, sm13 _ _ ea, ?_, fun b o e => ?_, ?_⟩⟩
      · rw [List.length_replicate]
        exact small1000 (by omega)
      · rw [upd_ne (ne_of_none e hL)]
        exact sm13 _ _ (sm _ _ e)
      · rw [upd_same, zb, List.replicate_succ']
    · rintro H11 ⟨sm, ea⟩
      refine ⟨L, _, rfl, .inl (SqL.of ea), rfl, flat_true _, _, rfl, ?_⟩
      rw [no_false]
      exact iteF (hN _ _ ⟨rfl, sm⟩)
  rintro σ H11 ⟨rfl, sm11⟩
  have P11 := P10.same sm11
  have hcal11 := hcal10.same sm11
  have hds11 := sm11 _ _ hds10
  have hfo11 := sm11 _ _ hfo
  -- if len(found) > len(days) or found[0] != moved(..)
  refine cutS (fun σ H' => σ = sl a p (some (.int (0 + (i : Int)))) (some (.int m)) (some (.int (r : Int))) (some (.ref u)) (some (.int (ms n + d - 1))) (some (.int (ms n2' + d2' - 1))) (some (.ref cal)) (some (.ref ds)) (some (.ref fo)) z0 ∧ Same H11 H') (fun N hN => ?_) ?_
  · have zhead := moved_head xinc xhead zinc zmem
    refine ⟨_, rfl, fo, _, rfl, .inr (SqT.of hfo11), _, rfl, ds, _, rfl, .inr (SqT.of hds11), _, _, rfl, rfl, _, rfl, ite2 (fun q => ?_) (fun _ => ?_)⟩
    · have q := of_decide_eq_true q
      rw [List.length_map, List.length_map] at q
      omega
    · refine ⟨_, rfl, fo, _, 0, _, rfl, rfl, SqT.of hfo11, head_at zhead, _, rfl, _, rfl, rfl, _, ⟨cal, ms n + d - 1, rfl, hcal11, rfl⟩, fun H12 sm => ⟨rfl, _, rfl, ?_⟩⟩
      rw [decide_eq_true rfl]
      exact iteF (hN _ _ ⟨rfl, sm⟩)
  rintro σ H12 ⟨rfl, sm12⟩
  have P12 := P11.same sm12
  have hds12 := sm12 _ _ hds11
  have hfo12 := sm12 _ _ hfo11
  -- for day in found
  refine ⟨_, rfl, fo, rfl, ⟨_, SqT.of hfo12⟩, for_tup (K := K) (a := fo) (xs := zs.map V.int) (fun j σ H' => ∃ z, σ = sl a p (some (.int (0 + (i : Int)))) (some (.int m)) (some (.int (r : Int))) (some (.ref u)) (some (.int (ms n + d - 1))) (some (.int (ms n2' + d2' - 1))) (some (.ref cal)) (some (.ref ds)) (some (.ref fo)) z ∧ Same H12 H')
    ⟨z0, rfl, Same.refl H12⟩ (fun j σ H' _ ⟨_, _, q⟩ => SqT.of (q _ _ hfo12)) ?_ ?_⟩
  · rintro j x σ H13 hx ⟨z1, rfl, sm13⟩
    obtain ⟨z, hz, rfl⟩ := at_map hx
    obtain ⟨x0, hx0, ez⟩ := List.mem_map.mp ((zmem z).mp (List.mem_of_getElem? hz))
    have hds13 := sm13 _ _ hds12
    refine ⟨_, rfl, ds, rfl, ⟨_, SqT.of hds13⟩, fun L hL => ?_⟩
    refine lcY (walk_tup (xs := xs.map V.int)) (fun k H' => Same H13 H' ∧ H' L = some (.lst (((xs.take k).map (dist z)).map V.int))) ⟨same_upd hL, upd_same⟩ (fun k H' _ q => SqT.of (q.1 _ _ hds13)) (fun _ => rfl) ?_ ?_
    · rintro k x H14 H15 hk ⟨sm, ea⟩ ⟨rfl, hx⟩
      obtain ⟨y, hy, rfl⟩ := at_map hx
      rw [List.length_map] at hk
      refine ⟨_, rfl, _, rfl, _, _, rfl, rfl, _, rfl, _, ea, ?_, fun b o e => ?_, ?_⟩
      · rw [List.length_map, List.length_map, List.length_take]
        exact small1000 (by omega)
      · rw [upd_ne (ne_of_none e hL)]
        exact sm _ _ e
      · rw [upd_same, List.take_add_one, hy, List.map_append, List.map_append]
        rfl
    · rintro H14 ⟨sm, ea⟩
      rw [List.length_map, List.take_length] at ea
      have x0m : dist z x0 ∈ xs.map (dist z) := List.mem_map.mpr ⟨x0, hx0, rfl⟩
      refine ⟨L, xs.map (dist z), rfl, SqL.of ea, List.length_pos_of_mem x0m, fun mn hm hle => ?_⟩
      have two := hle _ x0m
      have near := dist_near x0
      rw [ez] at near
      exact ⟨_, _, rfl, rfl, _, rfl, ite2 (fun q => absurd (of_decide_eq_true q) (by omega)) (fun _ => ⟨_, rfl, sm13.trans sm⟩)⟩
  · rintro σ H13 ⟨z1, rfl, sm13⟩
    exact ⟨_, _, _, _, _, _, _, _, _, _, pa8, pn8, rfl, P12.same sm13, q9, by omega⟩
end
end BR

set_option Elab.async false
set_option linter.all false
set_option maxRecDepth 100000
set_option maxHeartbeats 8000000
/-! The head. -/
namespace BR
open PySem PySem.Spec PyProof.Rows L2
/-! ### values off the written part -/
theorem rel_abs {x : V} {u : Value} (h : absV u = some x) : RelV x u := by
  cases u <;> first
    | (cases h; exact ⟨_, rfl⟩)
    | (cases h; rfl)
    | exact nomatch h
theorem vals_abs : ∀ {us : List Value} {xs : List V}, us.map absV = xs.map some → Vals xs us
  | [], [], _ => .nil
  | [], _ :: _, h => nomatch h
  | _ :: _, [], h => nomatch h
  | u :: us, x :: xs, h => by
    rw [List.map_cons, List.map_cons] at h
    injection h with h1 h2
    exact .cons (rel_abs h1) (vals_abs h2)
theorem tup_written {K : PySem.W.Frag} {t : Addr} {od : Option Addr} {its : Array Value} {n : Nat} {sl : Array (Option Value)} {xs : List V} (h : K.lookup t = some ⟨.type "tuple", od, .seq its n, sl⟩) (e : its.toList.map absV = xs.map some) (hz : xs.length ≤ sizeLine) (H : Hp) : SqT K H t xs := by
  have v := vals_abs e
  refine .inr ⟨_, its, n, h, rfl, rfl, ?_, v⟩
  have l1 : xs.length = its.toList.length := v.length
  have l2 : its.toList.length = its.size := Array.length_toList
  omega
/-! ### what the top has written; the law's own head -/
theorem all_mk {l : PySem.W.OpenLaw} {w : World} {K : PySem.W.Frag} {h : Heap} {mg : Str → Option Value} {fa tM : Addr} (X : K.In h) (G : h.Ns mainGlobals mg) (hfa : mg "law" = some (.ref fa))
    {f1 : Addr} {od1 an1 : Option Addr} {sl1 : Array (Option Value)} {oc1 kV1 dc1 pm1 cd1 ct1 : Value}
    {f2 : Addr} {od2 an2 : Option Addr} {sl2 : Array (Option Value)} {oc2 kV2 dc2 pm2 cd2 ct2 : Value}
    {f3 : Addr} {od3 an3 : Option Addr} {sl3 : Array (Option Value)} {oc3 kV3 dc3 pm3 cd3 ct3 : Value}
    {f4 : Addr} {od4 an4 : Option Addr} {sl4 : Array (Option Value)} {oc4 kV4 dc4 pm4 cd4 ct4 : Value}
    {f5 : Addr} {od5 an5 : Option Addr} {sl5 : Array (Option Value)} {oc5 kV5 dc5 pm5 cd5 ct5 : Value}
    {f6 : Addr} {od6 an6 : Option Addr} {sl6 : Array (Option Value)} {oc6 kV6 dc6 pm6 cd6 ct6 : Value}
    {f7 : Addr} {od7 an7 : Option Addr} {sl7 : Array (Option Value)} {oc7 kV7 dc7 pm7 cd7 ct7 : Value}
    {f8 : Addr} {od8 an8 : Option Addr} {sl8 : Array (Option Value)} {oc8 kV8 dc8 pm8 cd8 ct8 : Value}
    {f9 : Addr} {od9 an9 : Option Addr} {sl9 : Array (Option Value)} {oc9 kV9 dc9 pm9 cd9 ct9 : Value}
    {f10 : Addr} {od10 an10 : Option Addr} {sl10 : Array (Option Value)} {oc10 kV10 dc10 pm10 cd10 ct10 : Value}
    {f11 : Addr} {od11 an11 : Option Addr} {sl11 : Array (Option Value)} {oc11 kV11 dc11 pm11 cd11 ct11 : Value}
    {f12 : Addr} {od12 an12 : Option Addr} {sl12 : Array (Option Value)} {oc12 kV12 dc12 pm12 cd12 ct12 : Value}
    {f13 : Addr} {od13 an13 : Option Addr} {sl13 : Array (Option Value)} {oc13 kV13 dc13 pm13 cd13 ct13 : Value}
    {f14 : Addr} {od14 an14 : Option Addr} {sl14 : Array (Option Value)} {oc14 kV14 dc14 pm14 cd14 ct14 : Value}
    {f15 : Addr} {od15 an15 : Option Addr} {sl15 : Array (Option Value)} {oc15 kV15 dc15 pm15 cd15 ct15 : Value}
    {f16 : Addr} {od16 an16 : Option Addr} {sl16 : Array (Option Value)} {oc16 kV16 dc16 pm16 cd16 ct16 : Value}
    {f17 : Addr} {od17 an17 : Option Addr} {sl17 : Array (Option Value)} {oc17 kV17 dc17 pm17 cd17 ct17 : Value}
    {f18 : Addr} {od18 an18 : Option Addr} {sl18 : Array (Option Value)} {oc18 kV18 dc18 pm18 cd18 ct18 : Value}
    {f19 : Addr} {od19 an19 : Option Addr} {sl19 : Array (Option Value)} {oc19 kV19 dc19 pm19 cd19 ct19 : Value}
    {f20 : Addr} {od20 an20 : Option Addr} {sl20 : Array (Option Value)} {oc20 kV20 dc20 pm20 cd20 ct20 : Value}
    {f21 : Addr} {od21 an21 : Option Addr} {sl21 : Array (Option Value)} {oc21 kV21 dc21 pm21 cd21 ct21 : Value}
    {f22 : Addr} {od22 an22 : Option Addr} {sl22 : Array (Option Value)} {oc22 kV22 dc22 pm22 cd22 ct22 : Value}
    {f23 : Addr} {od23 an23 : Option Addr} {sl23 : Array (Option Value)} {oc23 kV23 dc23 pm23 cd23 ct23 : Value}
    {f24 : Addr} {od24 an24 : Option Addr} {sl24 : Array (Option Value)} {oc24 kV24 dc24 pm24 cd24 ct24 : Value}
    {f25 : Addr} {od25 an25 : Option Addr} {sl25 : Array (Option Value)} {oc25 kV25 dc25 pm25 cd25 ct25 : Value}
    {f26 : Addr} {od26 an26 : Option Addr} {sl26 : Array (Option Value)} {oc26 kV26 dc26 pm26 cd26 ct26 : Value}
    {f27 : Addr} {od27 an27 : Option Addr} {sl27 : Array (Option Value)} {oc27 kV27 dc27 pm27 cd27 ct27 : Value}
    {f28 : Addr} {od28 an28 : Option Addr} {sl28 : Array (Option Value)} {oc28 kV28 dc28 pm28 cd28 ct28 : Value}
    {f29 : Addr} {od29 an29 : Option Addr} {sl29 : Array (Option Value)} {oc29 kV29 dc29 pm29 cd29 ct29 : Value}
    (a1 : PySem.W.nsIn K mainGlobals "is_leap" = some (some (.ref f1))) (l1 : K.lookup f1 = some ⟨oc1, od1, .func (PySem.W.fnOf "is_leap" "is_leap" (defArgs sLeap) (defBody sLeap) (defScope sLeap) .none kV1 dc1 pm1 an1 cd1 ct1), sl1⟩) (c1 : PySem.W.codeIn K cd1 "is_leap" = true) (k1 : PySem.W.keepIn K (.ref f1) = true)
    (a2 : PySem.W.nsIn K mainGlobals "month_length" = some (some (.ref f2))) (l2 : K.lookup f2 = some ⟨oc2, od2, .func (PySem.W.fnOf "month_length" "month_length" (defArgs sLen) (defBody sLen) (defScope sLen) .none kV2 dc2 pm2 an2 cd2 ct2), sl2⟩) (c2 : PySem.W.codeIn K cd2 "month_length" = true) (k2 : PySem.W.keepIn K (.ref f2) = true)
    (a3 : PySem.W.nsIn K mainGlobals "year_start" = some (some (.ref f3))) (l3 : K.lookup f3 = some ⟨oc3, od3, .func (PySem.W.fnOf "year_start" "year_start" (defArgs sYst) (defBody sYst) (defScope sYst) .none kV3 dc3 pm3 an3 cd3 ct3), sl3⟩) (c3 : PySem.W.codeIn K cd3 "year_start" = true) (k3 : PySem.W.keepIn K (.ref f3) = true)
    (a4 : PySem.W.nsIn K mainGlobals "day_of" = some (some (.ref f4))) (l4 : K.lookup f4 = some ⟨oc4, od4, .func (PySem.W.fnOf "day_of" "day_of" (defArgs sDay) (defBody sDay) (defScope sDay) .none kV4 dc4 pm4 an4 cd4 ct4), sl4⟩) (c4 : PySem.W.codeIn K cd4 "day_of" = true) (k4 : PySem.W.keepIn K (.ref f4) = true)
    (a5 : PySem.W.nsIn K mainGlobals "date_of" = some (some (.ref f5))) (l5 : K.lookup f5 = some ⟨oc5, od5, .func (PySem.W.fnOf "date_of" "date_of" (defArgs sDate) (defBody sDate) (defScope sDate) .none kV5 dc5 pm5 an5 cd5 ct5), sl5⟩) (c5 : PySem.W.codeIn K cd5 "date_of" = true) (k5 : PySem.W.keepIn K (.ref f5) = true)
    (a6 : PySem.W.nsIn K mainGlobals "weekday" = some (some (.ref f6))) (l6 : K.lookup f6 = some ⟨oc6, od6, .func (PySem.W.fnOf "weekday" "weekday" (defArgs sWeek) (defBody sWeek) (defScope sWeek) .none kV6 dc6 pm6 an6 cd6 ct6), sl6⟩) (c6 : PySem.W.codeIn K cd6 "weekday" = true) (k6 : PySem.W.keepIn K (.ref f6) = true)
    (a7 : PySem.W.nsIn K mainGlobals "add_months" = some (some (.ref f7))) (l7 : K.lookup f7 = some ⟨oc7, od7, .func (PySem.W.fnOf "add_months" "add_months" (defArgs sAdd) (defBody sAdd) (defScope sAdd) .none kV7 dc7 pm7 an7 cd7 ct7), sl7⟩) (c7 : PySem.W.codeIn K cd7 "add_months" = true) (k7 : PySem.W.keepIn K (.ref f7) = true)
    (a8 : PySem.W.nsIn K mainGlobals "is_business" = some (some (.ref f8))) (l8 : K.lookup f8 = some ⟨oc8, od8, .func (PySem.W.fnOf "is_business" "is_business" (defArgs sBiz) (defBody sBiz) (defScope sBiz) .none kV8 dc8 pm8 an8 cd8 ct8), sl8⟩) (c8 : PySem.W.codeIn K cd8 "is_business" = true) (k8 : PySem.W.keepIn K (.ref f8) = true)
    (a9 : PySem.W.nsIn K mainGlobals "next_business" = some (some (.ref f9))) (l9 : K.lookup f9 = some ⟨oc9, od9, .func (PySem.W.fnOf "next_business" "next_business" (defArgs sNext) (defBody sNext) (defScope sNext) .none kV9 dc9 pm9 an9 cd9 ct9), sl9⟩) (c9 : PySem.W.codeIn K cd9 "next_business" = true) (k9 : PySem.W.keepIn K (.ref f9) = true)
    (a10 : PySem.W.nsIn K mainGlobals "moved" = some (some (.ref f10))) (l10 : K.lookup f10 = some ⟨oc10, od10, .func (PySem.W.fnOf "moved" "moved" (defArgs sMov) (defBody sMov) (defScope sMov) .none kV10 dc10 pm10 an10 cd10 ct10), sl10⟩) (c10 : PySem.W.codeIn K cd10 "moved" = true) (k10 : PySem.W.keepIn K (.ref f10) = true)
    (a11 : PySem.W.nsIn K mainGlobals "steps" = some (some (.ref f11))) (l11 : K.lookup f11 = some ⟨oc11, od11, .func (PySem.W.fnOf "steps" "steps" (defArgs sSteps) (defBody sSteps) (defScope sSteps) .none kV11 dc11 pm11 an11 cd11 ct11), sl11⟩) (c11 : PySem.W.codeIn K cd11 "steps" = true) (k11 : PySem.W.keepIn K (.ref f11) = true)
    (a12 : PySem.W.nsIn K mainGlobals "schedule" = some (some (.ref f12))) (l12 : K.lookup f12 = some ⟨oc12, od12, .func (PySem.W.fnOf "schedule" "schedule" (defArgs sSched) (defBody sSched) (defScope sSched) .none kV12 dc12 pm12 an12 cd12 ct12), sl12⟩) (c12 : PySem.W.codeIn K cd12 "schedule" = true) (k12 : PySem.W.keepIn K (.ref f12) = true)
    (a13 : PySem.W.nsIn K mainGlobals "moved_schedule" = some (some (.ref f13))) (l13 : K.lookup f13 = some ⟨oc13, od13, .func (PySem.W.fnOf "moved_schedule" "moved_schedule" (defArgs sMsch) (defBody sMsch) (defScope sMsch) .none kV13 dc13 pm13 an13 cd13 ct13), sl13⟩) (c13 : PySem.W.codeIn K cd13 "moved_schedule" = true) (k13 : PySem.W.keepIn K (.ref f13) = true)
    (a14 : PySem.W.nsIn K mainGlobals "divisor" = some (some (.ref f14))) (l14 : K.lookup f14 = some ⟨oc14, od14, .func (PySem.W.fnOf "divisor" "divisor" (defArgs sDiv) (defBody sDiv) (defScope sDiv) .none kV14 dc14 pm14 an14 cd14 ct14), sl14⟩) (c14 : PySem.W.codeIn K cd14 "divisor" = true) (k14 : PySem.W.keepIn K (.ref f14) = true)
    (a15 : PySem.W.nsIn K mainGlobals "fraction" = some (some (.ref f15))) (l15 : K.lookup f15 = some ⟨oc15, od15, .func (PySem.W.fnOf "fraction" "fraction" (defArgs sFrac) (defBody sFrac) (defScope sFrac) .none kV15 dc15 pm15 an15 cd15 ct15), sl15⟩) (c15 : PySem.W.codeIn K cd15 "fraction" = true) (k15 : PySem.W.keepIn K (.ref f15) = true)
    (a16 : PySem.W.nsIn K mainGlobals "by_months" = some (some (.ref f16))) (l16 : K.lookup f16 = some ⟨oc16, od16, .func (PySem.W.fnOf "by_months" "by_months" (defArgs sBym) (defBody sBym) (defScope sBym) .none kV16 dc16 pm16 an16 cd16 ct16), sl16⟩) (c16 : PySem.W.codeIn K cd16 "by_months" = true) (k16 : PySem.W.keepIn K (.ref f16) = true)
    (a17 : PySem.W.nsIn K mainGlobals "count" = some (some (.ref f17))) (l17 : K.lookup f17 = some ⟨oc17, od17, .func (PySem.W.fnOf "count" "count" (defArgs sCount) (defBody sCount) (defScope sCount) .none kV17 dc17 pm17 an17 cd17 ct17), sl17⟩) (c17 : PySem.W.codeIn K cd17 "count" = true) (k17 : PySem.W.keepIn K (.ref f17) = true)
    (a18 : PySem.W.nsIn K mainGlobals "_law_open" = some (some (.ref f18))) (l18 : K.lookup f18 = some ⟨oc18, od18, .func (PySem.W.fnOf "_law_open" "_law_open" (defArgs lOpen) (defBody lOpen) (defScope lOpen) .none kV18 dc18 pm18 an18 cd18 ct18), sl18⟩) (c18 : PySem.W.codeIn K cd18 "_law_open" = true) (k18 : PySem.W.keepIn K (.ref f18) = true)
    (a19 : PySem.W.nsIn K mainGlobals "_law_spread" = some (some (.ref f19))) (l19 : K.lookup f19 = some ⟨oc19, od19, .func (PySem.W.fnOf "_law_spread" "_law_spread" (defArgs lSpread) (defBody lSpread) (defScope lSpread) .none kV19 dc19 pm19 an19 cd19 ct19), sl19⟩) (c19 : PySem.W.codeIn K cd19 "_law_spread" = true) (k19 : PySem.W.keepIn K (.ref f19) = true)
    (a20 : PySem.W.nsIn K mainGlobals "_law_take" = some (some (.ref f20))) (l20 : K.lookup f20 = some ⟨oc20, od20, .func (PySem.W.fnOf "_law_take" "_law_take" (defArgs lTake) (defBody lTake) (defScope lTake) .none kV20 dc20 pm20 an20 cd20 ct20), sl20⟩) (c20 : PySem.W.codeIn K cd20 "_law_take" = true) (k20 : PySem.W.keepIn K (.ref f20) = true)
    (a21 : PySem.W.nsIn K mainGlobals "_law_one_of" = some (some (.ref f21))) (l21 : K.lookup f21 = some ⟨oc21, od21, .func (PySem.W.fnOf "_law_one_of" "_law_one_of" (defArgs lOne) (defBody lOne) (defScope lOne) .none kV21 dc21 pm21 an21 cd21 ct21), sl21⟩) (c21 : PySem.W.codeIn K cd21 "_law_one_of" = true) (k21 : PySem.W.keepIn K (.ref f21) = true)
    (a22 : PySem.W.nsIn K mainGlobals "_law_lengths" = some (some (.ref f22))) (l22 : K.lookup f22 = some ⟨oc22, od22, .func (PySem.W.fnOf "_law_lengths" "_law_lengths" (defArgs lLens) (defBody lLens) (defScope lLens) .none kV22 dc22 pm22 an22 cd22 ct22), sl22⟩) (c22 : PySem.W.codeIn K cd22 "_law_lengths" = true) (k22 : PySem.W.keepIn K (.ref f22) = true)
    (a23 : PySem.W.nsIn K mainGlobals "_law_day_of" = some (some (.ref f23))) (l23 : K.lookup f23 = some ⟨oc23, od23, .func (PySem.W.fnOf "_law_day_of" "_law_day_of" (defArgs lDay) (defBody lDay) (defScope lDay) .none kV23 dc23 pm23 an23 cd23 ct23), sl23⟩) (c23 : PySem.W.codeIn K cd23 "_law_day_of" = true) (k23 : PySem.W.keepIn K (.ref f23) = true)
    (a24 : PySem.W.nsIn K mainGlobals "_law_date_of" = some (some (.ref f24))) (l24 : K.lookup f24 = some ⟨oc24, od24, .func (PySem.W.fnOf "_law_date_of" "_law_date_of" (defArgs lDate) (defBody lDate) (defScope lDate) .none kV24 dc24 pm24 an24 cd24 ct24), sl24⟩) (c24 : PySem.W.codeIn K cd24 "_law_date_of" = true) (k24 : PySem.W.keepIn K (.ref f24) = true)
    (a25 : PySem.W.nsIn K mainGlobals "_law_gcd" = some (some (.ref f25))) (l25 : K.lookup f25 = some ⟨oc25, od25, .func (PySem.W.fnOf "_law_gcd" "_law_gcd" (defArgs lGcd) (defBody lGcd) (defScope lGcd) .none kV25 dc25 pm25 an25 cd25 ct25), sl25⟩) (c25 : PySem.W.codeIn K cd25 "_law_gcd" = true) (k25 : PySem.W.keepIn K (.ref f25) = true)
    (a26 : PySem.W.nsIn K mainGlobals "_law_fraction" = some (some (.ref f26))) (l26 : K.lookup f26 = some ⟨oc26, od26, .func (PySem.W.fnOf "_law_fraction" "_law_fraction" (defArgs lFrac) (defBody lFrac) (defScope lFrac) .none kV26 dc26 pm26 an26 cd26 ct26), sl26⟩) (c26 : PySem.W.codeIn K cd26 "_law_fraction" = true) (k26 : PySem.W.keepIn K (.ref f26) = true)
    (a27 : PySem.W.nsIn K mainGlobals "_law_both_right" = some (some (.ref f27))) (l27 : K.lookup f27 = some ⟨oc27, od27, .func (PySem.W.fnOf "_law_both_right" "_law_both_right" (defArgs lBoth) (defBody lBoth) (defScope lBoth) .none kV27 dc27 pm27 an27 cd27 ct27), sl27⟩) (c27 : PySem.W.codeIn K cd27 "_law_both_right" = true) (k27 : PySem.W.keepIn K (.ref f27) = true)
    (a28 : PySem.W.nsIn K mainGlobals "_law_stub_right" = some (some (.ref f28))) (l28 : K.lookup f28 = some ⟨oc28, od28, .func (PySem.W.fnOf "_law_stub_right" "_law_stub_right" (defArgs lStub) (defBody lStub) (defScope lStub) .none kV28 dc28 pm28 an28 cd28 ct28), sl28⟩) (c28 : PySem.W.codeIn K cd28 "_law_stub_right" = true) (k28 : PySem.W.keepIn K (.ref f28) = true)
    (a29 : PySem.W.nsIn K mainGlobals "law" = some (some (.ref f29))) (l29 : K.lookup f29 = some ⟨oc29, od29, .func (PySem.W.fnOf "law" "law" (defArgs lLaw) (defBody lLaw) (defScope lLaw) .none kV29 dc29 pm29 an29 cd29 ct29), sl29⟩) (c29 : PySem.W.codeIn K cd29 "law" = true) (k29 : PySem.W.keepIn K (.ref f29) = true)
    {tF tL : Tok} {odM : Option Addr} {itM : Array Value} {nM : Nat} {slM : Array (Option Value)}
    (aF : PySem.W.nsIn K mainGlobals "FIRST_YEAR" = some (some (.int 1900 tF))) (aL : PySem.W.nsIn K mainGlobals "LAST_YEAR" = some (some (.int 2199 tL))) (aM : PySem.W.nsIn K mainGlobals "MONTHS" = some (some (.ref tM)))
    (lM : K.lookup tM = some ⟨.type "tuple", odM, .seq itM nM, slM⟩) (hM : itM.toList.map absV = (months.map V.int).map some)
    (z1 : PySem.W.nsIn K mainGlobals "len" = some none) (z2 : PySem.W.nsIn K mainGlobals "range" = some none) (z3 : PySem.W.nsIn K mainGlobals "sum" = some none) (z4 : PySem.W.nsIn K mainGlobals "min" = some none) (z5 : PySem.W.nsIn K mainGlobals "max" = some none) (z6 : PySem.W.nsIn K mainGlobals "abs" = some none) (z7 : PySem.W.nsIn K mainGlobals "int" = some none) (z8 : PySem.W.nsIn K mainGlobals "list" = some none) (z9 : PySem.W.nsIn K mainGlobals "tuple" = some none) (z10 : PySem.W.nsIn K mainGlobals "sorted" = some none) (z11 : PySem.W.nsIn K mainGlobals "set" = some none) (z12 : PySem.W.nsIn K mainGlobals "enumerate" = some none) :
    ∃ fd : FuncData, (∀ (s : Shared) (v : Value), BindsTo s fd ⟨[v], []⟩ [("_law_script", v)]) ∧ ∀ base : Heap, K.In base → base.Ns mainGlobals mg → FnOk l.prog w K mg base CX0 7 fa fd ["_law_script"] (spLaw K) := by
  have e := hfa.symm.trans (PySem.W.mg_of X G a29)
  cases e
  have C : Cs K mg := ⟨⟨_, PySem.W.mg_of X G aF⟩, ⟨_, PySem.W.mg_of X G aL⟩, ⟨_, PySem.W.mg_of X G aM, tup_written lM hM (by decide)⟩⟩
  have B : Bl mg := ⟨PySem.W.mg_none_of X G z1, PySem.W.mg_none_of X G z2, PySem.W.mg_none_of X G z3, PySem.W.mg_none_of X G z4, PySem.W.mg_none_of X G z5, PySem.W.mg_none_of X G z6, PySem.W.mg_none_of X G z7, PySem.W.mg_none_of X G z8, PySem.W.mg_none_of X G z9, PySem.W.mg_none_of X G z10, PySem.W.mg_none_of X G z11, PySem.W.mg_none_of X G z12⟩
  have F1 := fun_mk (st := sLeap) l1 c1 k1
  have D1 : Df K mg "is_leap" sLeap ["year"] _ _ := ⟨F1, F1.binds (ps := ["year"]) fun _ _ _ _ _ _ us hl => match us, hl with | [_], _ => rfl, PySem.W.mg_of X G a1⟩
  have F2 := fun_mk (st := sLen) l2 c2 k2
  have D2 : Df K mg "month_length" sLen ["year", "month"] _ _ := ⟨F2, F2.binds (ps := ["year", "month"]) fun _ _ _ _ _ _ us hl => match us, hl with | [_, _], _ => rfl, PySem.W.mg_of X G a2⟩
  have F3 := fun_mk (st := sYst) l3 c3 k3
  have D3 : Df K mg "year_start" sYst ["year"] _ _ := ⟨F3, F3.binds (ps := ["year"]) fun _ _ _ _ _ _ us hl => match us, hl with | [_], _ => rfl, PySem.W.mg_of X G a3⟩
  have F4 := fun_mk (st := sDay) l4 c4 k4
  have D4 : Df K mg "day_of" sDay ["date"] _ _ := ⟨F4, F4.binds (ps := ["date"]) fun _ _ _ _ _ _ us hl => match us, hl with | [_], _ => rfl, PySem.W.mg_of X G a4⟩
  have F5 := fun_mk (st := sDate) l5 c5 k5
  have D5 : Df K mg "date_of" sDate ["day"] _ _ := ⟨F5, F5.binds (ps := ["day"]) fun _ _ _ _ _ _ us hl => match us, hl with | [_], _ => rfl, PySem.W.mg_of X G a5⟩
  have F6 := fun_mk (st := sWeek) l6 c6 k6
  have D6 : Df K mg "weekday" sWeek ["day"] _ _ := ⟨F6, F6.binds (ps := ["day"]) fun _ _ _ _ _ _ us hl => match us, hl with | [_], _ => rfl, PySem.W.mg_of X G a6⟩
  have F7 := fun_mk (st := sAdd) l7 c7 k7
  have D7 : Df K mg "add_months" sAdd ["date", "months", "last"] _ _ := ⟨F7, F7.binds (ps := ["date", "months", "last"]) fun _ _ _ _ _ _ us hl => match us, hl with | [_, _, _], _ => rfl, PySem.W.mg_of X G a7⟩
  have F8 := fun_mk (st := sBiz) l8 c8 k8
  have D8 : Df K mg "is_business" sBiz ["calendar", "day"] _ _ := ⟨F8, F8.binds (ps := ["calendar", "day"]) fun _ _ _ _ _ _ us hl => match us, hl with | [_, _], _ => rfl, PySem.W.mg_of X G a8⟩
  have F9 := fun_mk (st := sNext) l9 c9 k9
  have D9 : Df K mg "next_business" sNext ["calendar", "day", "step"] _ _ := ⟨F9, F9.binds (ps := ["calendar", "day", "step"]) fun _ _ _ _ _ _ us hl => match us, hl with | [_, _, _], _ => rfl, PySem.W.mg_of X G a9⟩
  have F10 := fun_mk (st := sMov) l10 c10 k10
  have D10 : Df K mg "moved" sMov ["calendar", "day", "rule"] _ _ := ⟨F10, F10.binds (ps := ["calendar", "day", "rule"]) fun _ _ _ _ _ _ us hl => match us, hl with | [_, _, _], _ => rfl, PySem.W.mg_of X G a10⟩
  have F11 := fun_mk (st := sSteps) l11 c11 k11
  have D11 : Df K mg "steps" sSteps ["first", "other", "months", "is_last"] _ _ := ⟨F11, F11.binds (ps := ["first", "other", "months", "is_last"]) fun _ _ _ _ _ _ us hl => match us, hl with | [_, _, _, _], _ => rfl, PySem.W.mg_of X G a11⟩
  have F12 := fun_mk (st := sSched) l12 c12 k12
  have D12 : Df K mg "schedule" sSched ["start", "end", "months", "side", "stub", "keep"] _ _ := ⟨F12, F12.binds (ps := ["start", "end", "months", "side", "stub", "keep"]) fun _ _ _ _ _ _ us hl => match us, hl with | [_, _, _, _, _, _], _ => rfl, PySem.W.mg_of X G a12⟩
  have F13 := fun_mk (st := sMsch) l13 c13 k13
  have D13 : Df K mg "moved_schedule" sMsch ["calendar", "days", "rule"] _ _ := ⟨F13, F13.binds (ps := ["calendar", "days", "rule"]) fun _ _ _ _ _ _ us hl => match us, hl with | [_, _, _], _ => rfl, PySem.W.mg_of X G a13⟩
  have F14 := fun_mk (st := sDiv) l14 c14 k14
  have D14 : Df K mg "divisor" sDiv ["a", "b"] _ _ := ⟨F14, F14.binds (ps := ["a", "b"]) fun _ _ _ _ _ _ us hl => match us, hl with | [_, _], _ => rfl, PySem.W.mg_of X G a14⟩
  have F15 := fun_mk (st := sFrac) l15 c15 k15
  have D15 : Df K mg "fraction" sFrac ["top", "bottom"] _ _ := ⟨F15, F15.binds (ps := ["top", "bottom"]) fun _ _ _ _ _ _ us hl => match us, hl with | [_, _], _ => rfl, PySem.W.mg_of X G a15⟩
  have F16 := fun_mk (st := sBym) l16 c16 k16
  have D16 : Df K mg "by_months" sBym ["word", "first", "last"] _ _ := ⟨F16, F16.binds (ps := ["word", "first", "last"]) fun _ _ _ _ _ _ us hl => match us, hl with | [_, _, _], _ => rfl, PySem.W.mg_of X G a16⟩
  have F17 := fun_mk (st := sCount) l17 c17 k17
  have D17 : Df K mg "count" sCount ["word", "first", "last"] _ _ := ⟨F17, F17.binds (ps := ["word", "first", "last"]) fun _ _ _ _ _ _ us hl => match us, hl with | [_, _, _], _ => rfl, PySem.W.mg_of X G a17⟩
  have F18 := fun_mk (st := lOpen) l18 c18 k18
  have D18 : Df K mg "_law_open" lOpen ["_law_script"] _ _ := ⟨F18, F18.binds (ps := ["_law_script"]) fun _ _ _ _ _ _ us hl => match us, hl with | [_], _ => rfl, PySem.W.mg_of X G a18⟩
  have F19 := fun_mk (st := lSpread) l19 c19 k19
  have D19 : Df K mg "_law_spread" lSpread ["_law_cell", "_law_at"] _ _ := ⟨F19, F19.binds (ps := ["_law_cell", "_law_at"]) fun _ _ _ _ _ _ us hl => match us, hl with | [_, _], _ => rfl, PySem.W.mg_of X G a19⟩
  have F20 := fun_mk (st := lTake) l20 c20 k20
  have D20 : Df K mg "_law_take" lTake ["_law_pen", "_law_amount"] _ _ := ⟨F20, F20.binds (ps := ["_law_pen", "_law_amount"]) fun _ _ _ _ _ _ us hl => match us, hl with | [_, _], _ => rfl, PySem.W.mg_of X G a20⟩
  have F21 := fun_mk (st := lOne) l21 c21 k21
  have D21 : Df K mg "_law_one_of" lOne ["_law_pen", "_law_some"] _ _ := ⟨F21, F21.binds (ps := ["_law_pen", "_law_some"]) fun _ _ _ _ _ _ us hl => match us, hl with | [_, _], _ => rfl, PySem.W.mg_of X G a21⟩
  have F22 := fun_mk (st := lLens) l22 c22 k22
  have D22 : Df K mg "_law_lengths" lLens ["_law_year"] _ _ := ⟨F22, F22.binds (ps := ["_law_year"]) fun _ _ _ _ _ _ us hl => match us, hl with | [_], _ => rfl, PySem.W.mg_of X G a22⟩
  have F23 := fun_mk (st := lDay) l23 c23 k23
  have D23 : Df K mg "_law_day_of" lDay ["_law_date"] _ _ := ⟨F23, F23.binds (ps := ["_law_date"]) fun _ _ _ _ _ _ us hl => match us, hl with | [_], _ => rfl, PySem.W.mg_of X G a23⟩
  have F24 := fun_mk (st := lDate) l24 c24 k24
  have D24 : Df K mg "_law_date_of" lDate ["_law_day"] _ _ := ⟨F24, F24.binds (ps := ["_law_day"]) fun _ _ _ _ _ _ us hl => match us, hl with | [_], _ => rfl, PySem.W.mg_of X G a24⟩
  have F25 := fun_mk (st := lGcd) l25 c25 k25
  have D25 : Df K mg "_law_gcd" lGcd ["_law_a", "_law_b"] _ _ := ⟨F25, F25.binds (ps := ["_law_a", "_law_b"]) fun _ _ _ _ _ _ us hl => match us, hl with | [_, _], _ => rfl, PySem.W.mg_of X G a25⟩
  have F26 := fun_mk (st := lFrac) l26 c26 k26
  have D26 : Df K mg "_law_fraction" lFrac ["_law_top", "_law_bottom"] _ _ := ⟨F26, F26.binds (ps := ["_law_top", "_law_bottom"]) fun _ _ _ _ _ _ us hl => match us, hl with | [_, _], _ => rfl, PySem.W.mg_of X G a26⟩
  have F27 := fun_mk (st := lBoth) l27 c27 k27
  have D27 : Df K mg "_law_both_right" lBoth ["_law_start", "_law_months", "_law_paces"] _ _ := ⟨F27, F27.binds (ps := ["_law_start", "_law_months", "_law_paces"]) fun _ _ _ _ _ _ us hl => match us, hl with | [_, _, _], _ => rfl, PySem.W.mg_of X G a27⟩
  have F28 := fun_mk (st := lStub) l28 c28 k28
  have D28 : Df K mg "_law_stub_right" lStub ["_law_start", "_law_end", "_law_months", "_law_side"] _ _ := ⟨F28, F28.binds (ps := ["_law_start", "_law_end", "_law_months", "_law_side"]) fun _ _ _ _ _ _ us hl => match us, hl with | [_, _, _, _], _ => rfl, PySem.W.mg_of X G a28⟩
  have F29 := fun_mk (st := lLaw) l29 c29 k29
  have D29 : Df K mg "law" lLaw ["_law_script"] _ _ := ⟨F29, F29.binds (ps := ["_law_script"]) fun _ _ _ _ _ _ us hl => match us, hl with | [_], _ => rfl, PySem.W.mg_of X G a29⟩
  refine ⟨PySem.W.fnOf "law" "law" (defArgs lLaw) (defBody lLaw) (defScope lLaw) .none kV29 dc29 pm29 an29 cd29 ct29, fun s v => .of_eq rfl, fun base _ _ => ?_⟩
  have O1 := D1.ok (P := l.prog) (w := w) (base := base) (ok_leap D1)
  have O2 := D2.ok (P := l.prog) (w := w) (base := base) (ok_len D2 C O1)
  have O3 := D3.ok (P := l.prog) (w := w) (base := base) (ok_yst D3 C B O1)
  have O4 := D4.ok (P := l.prog) (w := w) (base := base) (ok_day D4 B O3 O2)
  have O5 := D5.ok (P := l.prog) (w := w) (base := base) (ok_date D5 C O3 O2)
  have O6 := D6.ok (P := l.prog) (w := w) (base := base) (ok_week D6)
  have O7 := D7.ok (P := l.prog) (w := w) (base := base) (ok_add D7 B O2)
  have O8 := D8.ok (P := l.prog) (w := w) (base := base) (ok_biz D8 O6)
  have O9 := D9.ok (P := l.prog) (w := w) (base := base) (ok_next D9 O8)
  have O10 := D10.ok (P := l.prog) (w := w) (base := base) (ok_mov D10 O9)
  have O11 := D11.ok (P := l.prog) (w := w) (base := base) (ok_steps D11 B O5 O4 O7)
  have O12 := D12.ok (P := l.prog) (w := w) (base := base) (ok_sched D12 B O5 O11 O2)
  have O13 := D13.ok (P := l.prog) (w := w) (base := base) (ok_msch D13 B O10)
  have O14 := D14.ok (P := l.prog) (w := w) (base := base) (ok_div D14 B)
  have O15 := D15.ok (P := l.prog) (w := w) (base := base) (ok_frac D15 O14)
  have O16 := D16.ok (P := l.prog) (w := w) (base := base) (ok_bym D16 B O5)
  have O17 := D17.ok (P := l.prog) (w := w) (base := base) (ok_count D17 O15 O16)
  have O18 := D18.ok (P := l.prog) (w := w) (base := base) (ok_open D18 B)
  have O19 := D19.ok (P := l.prog) (w := w) (base := base) (ok_spread D19)
  have O20 := D20.ok (P := l.prog) (w := w) (base := base) (ok_take D20 B O19)
  have O21 := D21.ok (P := l.prog) (w := w) (base := base) (ok_one D21 B O20)
  have O22 := D22.ok (P := l.prog) (w := w) (base := base) (ok_lens D22 B)
  have O23 := D23.ok (P := l.prog) (w := w) (base := base) (ok_lday D23 B O22)
  have O24 := D24.ok (P := l.prog) (w := w) (base := base) (ok_ldate D24 O23 O22)
  have O25 := D25.ok (P := l.prog) (w := w) (base := base) (ok_lgcd D25 B)
  have O26 := D26.ok (P := l.prog) (w := w) (base := base) (ok_lfrac D26 O25)
  have O27 := D27.ok (P := l.prog) (w := w) (base := base) (ok_both D27 B O5 O4 O7 O12 O17 O26)
  have O28 := D28.ok (P := l.prog) (w := w) (base := base) (ok_stub D28 B O12)
  exact ok_law D29 B O18 O21 O20 O24 O23 O27 O28 O12 O13 O8 O10
end BR
open PySem PySem.W PyProof.Rows
set_option maxRecDepth 100000 in
set_option maxHeartbeats 0 in
theorem PySem.Challenge.cw_bondroots_k14_whole_schedules_holds : PySem.Challenge.rw_bondroots_k14_whole_schedules.Holds := by
  w_on; o_law; k_head; (case hw => w_witness2)
  k_fill
  refine L2.walk_of (l := PySem.Challenge.rw_bondroots_k14_whole_schedules) (n := 63) (k := 7) (x := "_law_script") (CX := fun _ => L2.CX0) (sp := fun w => BR.spLaw _) rfl (by decide) rfl ⟨rfl, by decide, by decide⟩ (fun w h Y => PySem.W.kIn_of Y) ?F (fun _ _ a ns hl _ hS => ⟨a, ns, rfl, hS, hl, fun _ => rfl⟩) (fun _ _ _ _ _ h => h)
  case F =>
    intro w mg fa h KX G hmg
    refine' BR.all_mk KX G hmg ?a1 ?l1 ?c1 ?k1 ?a2 ?l2 ?c2 ?k2 ?a3 ?l3 ?c3 ?k3 ?a4 ?l4 ?c4 ?k4 ?a5 ?l5 ?c5 ?k5 ?a6 ?l6 ?c6 ?k6 ?a7 ?l7 ?c7 ?k7 ?a8 ?l8 ?c8 ?k8 ?a9 ?l9 ?c9 ?k9 ?a10 ?l10 ?c10 ?k10 ?a11 ?l11 ?c11 ?k11 ?a12 ?l12 ?c12 ?k12 ?a13 ?l13 ?c13 ?k13 ?a14 ?l14 ?c14 ?k14 ?a15 ?l15 ?c15 ?k15 ?a16 ?l16 ?c16 ?k16 ?a17 ?l17 ?c17 ?k17 ?a18 ?l18 ?c18 ?k18 ?a19 ?l19 ?c19 ?k19 ?a20 ?l20 ?c20 ?k20 ?a21 ?l21 ?c21 ?k21 ?a22 ?l22 ?c22 ?k22 ?a23 ?l23 ?c23 ?k23 ?a24 ?l24 ?c24 ?k24 ?a25 ?l25 ?c25 ?k25 ?a26 ?l26 ?c26 ?k26 ?a27 ?l27 ?c27 ?k27 ?a28 ?l28 ?c28 ?k28 ?a29 ?l29 ?c29 ?k29 ?aF ?aL ?aM ?lM ?hM ?z1 ?z2 ?z3 ?z4 ?z5 ?z6 ?z7 ?z8 ?z9 ?z10 ?z11 ?z12
    (case a1 => k_is)
    (case l1 => k_is)
    (case c1 => k_is)
    (case k1 => k_is)
    (case a2 => k_is)
    (case l2 => k_is)
    (case c2 => k_is)
    (case k2 => k_is)
    (case a3 => k_is)
    (case l3 => k_is)
    (case c3 => k_is)
    (case k3 => k_is)
    (case a4 => k_is)
    (case l4 => k_is)
    (case c4 => k_is)
    (case k4 => k_is)
    (case a5 => k_is)
    (case l5 => k_is)
    (case c5 => k_is)
    (case k5 => k_is)
    (case a6 => k_is)
    (case l6 => k_is)
    (case c6 => k_is)
    (case k6 => k_is)
    (case a7 => k_is)
    (case l7 => k_is)
    (case c7 => k_is)
    (case k7 => k_is)
    (case a8 => k_is)
    (case l8 => k_is)
    (case c8 => k_is)
    (case k8 => k_is)
    (case a9 => k_is)
    (case l9 => k_is)
    (case c9 => k_is)
    (case k9 => k_is)
    (case a10 => k_is)
    (case l10 => k_is)
    (case c10 => k_is)
    (case k10 => k_is)
    (case a11 => k_is)
    (case l11 => k_is)
    (case c11 => k_is)
    (case k11 => k_is)
    (case a12 => k_is)
    (case l12 => k_is)
    (case c12 => k_is)
    (case k12 => k_is)
    (case a13 => k_is)
    (case l13 => k_is)
    (case c13 => k_is)
    (case k13 => k_is)
    (case a14 => k_is)
    (case l14 => k_is)
    (case c14 => k_is)
    (case k14 => k_is)
    (case a15 => k_is)
    (case l15 => k_is)
    (case c15 => k_is)
    (case k15 => k_is)
    (case a16 => k_is)
    (case l16 => k_is)
    (case c16 => k_is)
    (case k16 => k_is)
    (case a17 => k_is)
    (case l17 => k_is)
    (case c17 => k_is)
    (case k17 => k_is)
    (case a18 => k_is)
    (case l18 => k_is)
    (case c18 => k_is)
    (case k18 => k_is)
    (case a19 => k_is)
    (case l19 => k_is)
    (case c19 => k_is)
    (case k19 => k_is)
    (case a20 => k_is)
    (case l20 => k_is)
    (case c20 => k_is)
    (case k20 => k_is)
    (case a21 => k_is)
    (case l21 => k_is)
    (case c21 => k_is)
    (case k21 => k_is)
    (case a22 => k_is)
    (case l22 => k_is)
    (case c22 => k_is)
    (case k22 => k_is)
    (case a23 => k_is)
    (case l23 => k_is)
    (case c23 => k_is)
    (case k23 => k_is)
    (case a24 => k_is)
    (case l24 => k_is)
    (case c24 => k_is)
    (case k24 => k_is)
    (case a25 => k_is)
    (case l25 => k_is)
    (case c25 => k_is)
    (case k25 => k_is)
    (case a26 => k_is)
    (case l26 => k_is)
    (case c26 => k_is)
    (case k26 => k_is)
    (case a27 => k_is)
    (case l27 => k_is)
    (case c27 => k_is)
    (case k27 => k_is)
    (case a28 => k_is)
    (case l28 => k_is)
    (case c28 => k_is)
    (case k28 => k_is)
    (case a29 => k_is)
    (case l29 => k_is)
    (case c29 => k_is)
    (case k29 => k_is)
    (case aF => k_is)
    (case aL => k_is)
    (case aM => k_is)
    (case lM => k_is)
    (case hM => rfl)
    (case z1 => k_is)
    (case z2 => k_is)
    (case z3 => k_is)
    (case z4 => k_is)
    (case z5 => k_is)
    (case z6 => k_is)
    (case z7 => k_is)
    (case z8 => k_is)
    (case z9 => k_is)
    (case z10 => k_is)
    (case z11 => k_is)
    (case z12 => k_is)
