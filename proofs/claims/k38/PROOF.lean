import PyProof.Rows.All
import Wide.All
import OpenK.AllK
import Wide.FinOn
import KE.KSortKey
import KE.KSortTup
import HandS.ForMost
import HandS.Nested
import HandS.SortOrd
import HandS.SortRule
import HandS.SortKw
import HandS.IsInst
import HandS.Style
import HandS.NoneIn
import PySem.Challenge.RW_dividedseats_k38_whole_telling_votes
import HandS.Evl
import HandS.EndTab
set_option Elab.async false
set_option linter.all false
set_option maxRecDepth 100000
set_option maxHeartbeats 4000000
/-! Plain mathematics of the law: divisors, the simplest ratio, the first differing pair, divisions of a house. -/
namespace Seat

/-! ### divisors -/
/-- the divisor with the index i -/
def dv (fs : List Int) (st : Int) (i : Nat) : Int :=
  if i < fs.length then fs.getD i 0 else fs.getLastD 0 + st * ((i : Int) + 1 - (fs.length : Int))
/-- the first n divisors -/
def dvs (fs : List Int) (st : Int) (n : Nat) : List Int := (List.range n).map (dv fs st)

structure Good (fs : List Int) (st : Int) : Prop where
  ne : 1 ≤ fs.length
  le : fs.length ≤ 6
  rng : ∀ i, i < fs.length → 1 ≤ fs.getD i 0 ∧ fs.getD i 0 ≤ 1000
  asc : ∀ i, i + 1 < fs.length → fs.getD i 0 ≤ fs.getD (i + 1) 0
  st1 : 1 ≤ st
  st2 : st ≤ 1000

theorem lastD_eq {fs : List Int} (h : 1 ≤ fs.length) : fs.getLastD 0 = fs.getD (fs.length - 1) 0 := by
  cases fs with
  | nil => simp at h
  | cons x r =>
    rw [List.getLastD_cons, List.getD_eq_getElem?_getD, List.getLastD_eq_getLast?, List.getLast?_eq_getElem?]
    cases r with
    | nil => rfl
    | cons y r => simp

theorem dv_in {fs : List Int} {st : Int} {i : Nat} (h : i < fs.length) : dv fs st i = fs.getD i 0 := if_pos h
theorem dv_out {fs : List Int} {st : Int} {i : Nat} (h : fs.length ≤ i) : dv fs st i = fs.getLastD 0 + st * ((i : Int) + 1 - (fs.length : Int)) := if_neg (by omega)
theorem dv_from {fs : List Int} {st : Int} {i : Nat} (h1 : 1 ≤ fs.length) (h : fs.length ≤ i + 1) : dv fs st i = fs.getLastD 0 + st * ((i : Int) + 1 - (fs.length : Int)) := by
  by_cases h2 : fs.length ≤ i
  · exact dv_out h2
  · have e : fs.length = i + 1 := by omega
    rw [dv_in (by omega), lastD_eq h1, e]
    have z : ((i : Int) + 1 - ((i + 1 : Nat) : Int)) = 0 := by omega
    rw [z, Int.mul_zero, Int.add_zero]
    rfl
theorem dv_succ {fs : List Int} {st : Int} {i : Nat} (h1 : 1 ≤ fs.length) (h : fs.length ≤ i + 1) : dv fs st (i + 1) = dv fs st i + st := by
  rw [dv_from h1 h, dv_from h1 (by omega)]
  have e : (((i + 1 : Nat) : Int) + 1 - (fs.length : Int)) = ((i : Int) + 1 - (fs.length : Int)) + 1 := by omega
  rw [e, Int.mul_add, Int.mul_one, Int.add_assoc]

namespace Good
variable {fs : List Int} {st : Int}
theorem step (g : Good fs st) (i : Nat) : dv fs st i ≤ dv fs st (i + 1) := by
  by_cases h : i + 1 < fs.length
  · rw [dv_in h, dv_in (by omega)]
    exact g.asc i h
  · rw [dv_succ g.ne (by omega)]
    have := g.st1
    omega
theorem mono (g : Good fs st) {i j : Nat} (h : i ≤ j) : dv fs st i ≤ dv fs st j := by
  induction j with
  | zero =>
    have e : i = 0 := by omega
    rw [e]
    exact Int.le_refl _
  | succ j ih =>
    by_cases e : i = j + 1
    · rw [e]
      exact Int.le_refl _
    · exact Int.le_trans (ih (by omega)) (g.step j)
theorem pos (g : Good fs st) (i : Nat) : 1 ≤ dv fs st i := by
  have h0 : 1 ≤ dv fs st 0 := by
    rw [dv_in (show 0 < fs.length from g.ne)]
    exact (g.rng 0 g.ne).1
  exact Int.le_trans h0 (g.mono (Nat.zero_le _))
theorem last_le (g : Good fs st) : 1 ≤ fs.getLastD 0 ∧ fs.getLastD 0 ≤ 1000 := by
  have h1 := g.ne
  rw [lastD_eq g.ne]
  exact g.rng _ (by omega)
theorem upper (g : Good fs st) (i : Nat) : dv fs st i ≤ 1000 * ((i : Int) + 2) := by
  by_cases h : i < fs.length
  · rw [dv_in h]
    have := (g.rng i h).2
    omega
  · rw [dv_out (by omega)]
    have h1 := g.last_le.2
    have h2 := g.st2
    have h3 := g.st1
    have h4 := g.ne
    have k : st * ((i : Int) + 1 - (fs.length : Int)) ≤ 1000 * ((i : Int) + 1) := by
      have a : st * ((i : Int) + 1 - (fs.length : Int)) ≤ st * ((i : Int) + 1) := Int.mul_le_mul_of_nonneg_left (by omega) (by omega)
      have b : st * ((i : Int) + 1) ≤ 1000 * ((i : Int) + 1) := Int.mul_le_mul_of_nonneg_right h2 (by omega)
      omega
    omega
end Good

theorem dvs_length (fs : List Int) (st : Int) (n : Nat) : (dvs fs st n).length = n := by simp [dvs]
theorem dvs_get {fs : List Int} {st : Int} {n i : Nat} (h : i < n) : (dvs fs st n)[i]? = some (dv fs st i) := by
  simp [dvs, h]
theorem dvs_getD {fs : List Int} {st : Int} {n i : Nat} (h : i < n) : (dvs fs st n).getD i 0 = dv fs st i := by
  rw [List.getD_eq_getElem?_getD, dvs_get h]
  rfl
theorem dvs_snoc (fs : List Int) (st : Int) (n : Nat) : dvs fs st (n + 1) = dvs fs st n ++ [dv fs st n] := by
  unfold dvs
  rw [List.range_succ, List.map_append]
  rfl
/-- the firsts and k more -/
theorem dvs_firsts {fs : List Int} {st : Int} : dvs fs st fs.length = fs := by
  apply List.ext_getElem?
  intro i
  by_cases h : i < fs.length
  · rw [dvs_get h, dv_in h, List.getD_eq_getElem?_getD, List.getElem?_eq_getElem h]
    rfl
  · rw [List.getElem?_eq_none (by rw [dvs_length]; omega), List.getElem?_eq_none (by omega)]
theorem dvs_take {fs : List Int} {st : Int} {n k : Nat} (h : n ≤ k) : (dvs fs st k).take n = dvs fs st n := by
  apply List.ext_getElem?
  intro i
  rw [List.getElem?_take]
  by_cases hi : i < n
  · rw [if_pos hi, dvs_get hi, dvs_get (by omega)]
  · rw [if_neg hi, List.getElem?_eq_none (by rw [dvs_length]; omega)]

/-! ### a method multiplied, with more firsts told -/
theorem alike_dv {fs : List Int} {st by_ : Int} {e : Nat} (g : Good fs st) (i : Nat) :
    dv ((dvs fs st (fs.length + e)).map (by_ * ·)) (by_ * st) i = by_ * dv fs st i := by
  have h1 := g.ne
  have hl : ((dvs fs st (fs.length + e)).map (by_ * ·)).length = fs.length + e := by rw [List.length_map, dvs_length]
  by_cases h : i < fs.length + e
  · rw [dv_in (by rw [hl]; exact h), List.getD_eq_getElem?_getD, List.getElem?_map, dvs_get h]
    rfl
  · rw [dv_out (by rw [hl]; omega), lastD_eq (by rw [hl]; omega), hl, List.getD_eq_getElem?_getD, List.getElem?_map, dvs_get (by omega)]
    show by_ * dv fs st (fs.length + e - 1) + by_ * st * _ = _
    rw [dv_from h1 (show fs.length ≤ (fs.length + e - 1) + 1 by omega), dv_out (show fs.length ≤ i by omega)]
    have e1 : (((fs.length + e - 1 : Nat) : Int) + 1 - (fs.length : Int)) = (e : Int) := by omega
    have e2 : ((i : Int) + 1 - ((fs.length + e : Nat) : Int)) = ((i : Int) + 1 - (fs.length : Int)) - (e : Int) := by omega
    rw [e1, e2]
    grind

/-! ### the methods that are drawn -/
structure Small (fs : List Int) (st : Int) : Prop where
  len : fs.length ≤ 4
  top : fs.getLastD 0 ≤ 60
  stp : st ≤ 40
theorem Small.upper {fs : List Int} {st : Int} (s : Small fs st) (g : Good fs st) {i : Nat} (h : i ≤ 5) : dv fs st i ≤ 260 := by
  have h2 := s.top
  have h3 := s.stp
  have h4 := g.st1
  have h5 := g.ne
  have h6 : dv fs st i ≤ dv fs st 5 := g.mono h
  have h7 := s.len
  rw [dv_out (show fs.length ≤ 5 by omega)] at h6
  have k : st * (((5 : Nat) : Int) + 1 - (fs.length : Int)) ≤ 40 * 5 := by
    have a : st * (((5 : Nat) : Int) + 1 - (fs.length : Int)) ≤ st * 5 := Int.mul_le_mul_of_nonneg_left (by omega) (by omega)
    omega
  omega

/-- the two methods of the law: both drawn, or the second the first one multiplied -/
structure Two (fs : List Int) (st : Int) (gs : List Int) (tt : Int) : Prop where
  one : Good fs st
  two : Good gs tt
  l1 : fs.length ≤ 5
  l2 : gs.length ≤ 5
  way : (Small fs st ∧ Small gs tt) ∨ ∃ k : Int, ∀ i, dv gs tt i = k * dv fs st i

theorem alike_two {fs : List Int} {st k : Int} {e : Nat} (g : Good fs st) (s : Small fs st) (k1 : 1 ≤ k) (k2 : k ≤ 3) (he : e ≤ 1) :
    Two fs st ((dvs fs st (fs.length + e)).map (k * ·)) (k * st) := by
  have hl : ((dvs fs st (fs.length + e)).map (k * ·)).length = fs.length + e := by rw [List.length_map, dvs_length]
  have h1 := g.ne
  have h4 := s.len
  have hg : ∀ i, i < fs.length + e → ((dvs fs st (fs.length + e)).map (k * ·)).getD i 0 = k * dv fs st i := fun i h => by
    rw [List.getD_eq_getElem?_getD, List.getElem?_map, dvs_get h]
    rfl
  refine ⟨g, ⟨by rw [hl]; omega, by rw [hl]; omega, fun i h => ?_, fun i h => ?_, ?_, ?_⟩, by omega, by rw [hl]; omega, .inr ⟨k, alike_dv g⟩⟩
  · rw [hl] at h
    rw [hg i h]
    have a := g.pos i
    have b := s.upper g (show i ≤ 5 by omega)
    have c : k * 1 ≤ k * dv fs st i := Int.mul_le_mul_of_nonneg_left a (by omega)
    have d : k * dv fs st i ≤ 3 * dv fs st i := Int.mul_le_mul_of_nonneg_right k2 (by omega)
    omega
  · rw [hl] at h
    rw [hg i (by omega), hg (i + 1) h]
    exact Int.mul_le_mul_of_nonneg_left (g.step i) (by omega)
  · have c : k * 1 ≤ k * st := Int.mul_le_mul_of_nonneg_left g.st1 (by omega)
    omega
  · have d : k * st ≤ 3 * st := Int.mul_le_mul_of_nonneg_right k2 (by have := g.st1; omega)
    have := s.stp
    omega

/-! ### the pairs of indexes, by their sum -/
def diag (n t : Nat) : List (Nat × Nat) := ((List.range (t + 1)).filter fun i => decide (i < n) && decide (t - i < n)).map fun i => (i, t - i)
def prs (n : Nat) : List (Nat × Nat) := (List.range (2 * n)).flatMap (diag n)
theorem mem_prs {n i j : Nat} (hi : i < n) (hj : j < n) : (i, j) ∈ prs n := by
  unfold prs
  rw [List.mem_flatMap]
  refine ⟨i + j, List.mem_range.mpr (by omega), ?_⟩
  unfold diag
  rw [List.mem_map]
  refine ⟨i, List.mem_filter.mpr ⟨List.mem_range.mpr (by omega), ?_⟩, ?_⟩
  · have e : i + j - i = j := by omega
    rw [e, decide_eq_true hi, decide_eq_true hj]
    rfl
  · have e : i + j - i = j := by omega
    rw [e]
theorem of_mem_prs {n : Nat} {p : Nat × Nat} (h : p ∈ prs n) : p.1 < n ∧ p.2 < n := by
  unfold prs at h
  rw [List.mem_flatMap] at h
  obtain ⟨t, _, h⟩ := h
  unfold diag at h
  rw [List.mem_map] at h
  obtain ⟨i, h, rfl⟩ := h
  have h2 := (List.mem_filter.mp h).2
  simp only [Bool.and_eq_true, decide_eq_true_eq] at h2
  exact h2

/-- the two methods differ at the pair -/
def differs (d e : Nat → Int) (p : Nat × Nat) : Bool := decide (d p.1 * e p.2 ≠ e p.1 * d p.2)
def span (fs gs : List Int) : Nat := 1 + max fs.length gs.length
theorem two_same {fs gs : List Int} {st tt : Int} (T : Two fs st gs tt) (h : ∀ p ∈ prs (span fs gs), differs (dv fs st) (dv gs tt) p = false) (k : Nat) : dv fs st k * dv gs tt 0 = dv gs tt k * dv fs st 0 := by
  have f1 := T.one.ne
  have g1 := T.two.ne
  have at_ : ∀ k, k < span fs gs → dv fs st k * dv gs tt 0 = dv gs tt k * dv fs st 0 := fun k hk => by
    have q := h (k, 0) (mem_prs hk (by unfold span; omega))
    unfold differs at q
    exact Decidable.not_not.mp (of_decide_eq_false q)
  by_cases hk : k < span fs gs
  · exact at_ k hk
  · obtain ⟨m, hm⟩ : ∃ m, span fs gs = m + 2 := ⟨span fs gs - 2, by unfold span; omega⟩
    have hm2 : m + 2 = 1 + max fs.length gs.length := hm.symm
    have far : ∀ (xs : List Int) (t : Int), 1 ≤ xs.length → xs.length ≤ m + 1 → ∀ j : Nat, dv xs t (m + 1 + j) = dv xs t (m + 1) + (dv xs t (m + 1) - dv xs t m) * (j : Int) := fun xs t h1 h2 j => by
      have s1 := dv_succ (st := t) h1 (show xs.length ≤ m + 1 from h2)
      rw [dv_out (show xs.length ≤ m + 1 + j by omega), s1, dv_from h1 h2]
      have e1 : (((m + 1 + j : Nat) : Int) + 1 - (xs.length : Int)) = ((m : Int) + 1 - (xs.length : Int)) + (1 + (j : Int)) := by omega
      rw [e1]
      grind
    obtain ⟨j, hj⟩ : ∃ j, k = m + 1 + j := ⟨k - (m + 1), by omega⟩
    rw [hj, far fs st f1 (by omega), far gs tt g1 (by omega)]
    have a1 := at_ m (by omega)
    have a2 := at_ (m + 1) (by omega)
    grind

/-! ### the simplest ratio -/
def simp_ : Nat → Int → Int → Int → Int → Int × Int
  | 0, _, _, _, _ => (0, 0)
  | n + 1, a, b, c, d =>
    if (a / b + 1) * d < c then (a / b + 1, 1)
    else if a = a / b * b then (a / b * (d / (c - a / b * d) + 1) + 1, d / (c - a / b * d) + 1)
    else (a / b * (simp_ n d (c - a / b * d) b (a - a / b * b)).1 + (simp_ n d (c - a / b * d) b (a - a / b * b)).2, (simp_ n d (c - a / b * d) b (a - a / b * b)).1)
def Deep : Nat → Int → Int → Int → Int → Prop
  | 0, _, _, _, _ => False
  | n + 1, a, b, c, d => (a / b + 1) * d < c ∨ a = a / b * b ∨ Deep n d (c - a / b * d) b (a - a / b * b)

/-- what is between two ratios -/
structure Ival (a b c d : Int) : Prop where
  a0 : 0 < a
  b0 : 0 < b
  c0 : 0 < c
  d0 : 0 < d
  lt : a * d < c * b
structure Btw (a b c d p q : Int) : Prop where
  p0 : 0 < p
  q0 : 0 < q
  lo : a * q < p * b
  hi : p * d < c * q

theorem div_facts {a b : Int} (hb : 0 < b) (ha : 0 ≤ a) : 0 ≤ a / b ∧ a / b * b ≤ a ∧ a < a / b * b + b := by
  refine ⟨Int.ediv_nonneg ha (by omega), Int.ediv_mul_le a (by omega), ?_⟩
  have h := Int.lt_ediv_add_one_mul_self a hb
  rw [Int.add_mul, Int.one_mul] at h
  exact h
theorem Ival.next {a b c d : Int} (i : Ival a b c d) (h1 : ¬ (a / b + 1) * d < c) (h2 : ¬ a = a / b * b) :
    Ival d (c - a / b * d) b (a - a / b * b) ∧ c - a / b * d ≤ d ∧ a - a / b * b < b := by
  obtain ⟨a0, b0, c0, d0, lt⟩ := i
  obtain ⟨w0, w1, w2⟩ := div_facts b0 (Int.le_of_lt a0)
  generalize a / b = w at *
  have k1 : 0 < c - w * d := by
    have q1 : w * b * d ≤ a * d := Int.mul_le_mul_of_nonneg_right w1 (by omega)
    have q2 : (w * d) * b < c * b := by grind
    have q3 : w * d < c := Int.lt_of_mul_lt_mul_right q2 (by omega)
    omega
  have k2 : c - w * d ≤ d := by
    rw [Int.add_mul, Int.one_mul] at h1
    omega
  refine ⟨⟨d0, k1, b0, by omega, by grind⟩, k2, by omega⟩

theorem deep_of : ∀ (m : Nat) {a b c d : Int}, Ival a b c d → d < 2 ^ m → Deep (2 * m + 1) a b c d
  | 0, a, b, c, d, i, h => by
    have := i.d0
    have h : d < 1 := h
    omega
  | m + 1, a, b, c, d, i, h => by
    have e : 2 * (m + 1) + 1 = (2 * m + 1) + 1 + 1 := by omega
    rw [e]
    unfold Deep
    by_cases h1 : (a / b + 1) * d < c
    · exact .inl h1
    by_cases h2 : a = a / b * b
    · exact .inr (.inl h2)
    refine .inr (.inr ?_)
    obtain ⟨i2, k2, k3⟩ := i.next h1 h2
    unfold Deep
    by_cases h3 : (d / (c - a / b * d) + 1) * (a - a / b * b) < b
    · exact .inl h3
    by_cases h4 : d = d / (c - a / b * d) * (c - a / b * d)
    · exact .inr (.inl h4)
    refine .inr (.inr ?_)
    obtain ⟨i3, k4, k5⟩ := i2.next h3 h4
    refine deep_of m i3 ?_
    have b1 := i2.b0
    obtain ⟨w0, w1, w2⟩ := div_facts b1 (Int.le_of_lt i.d0)
    have w3 : 1 ≤ d / (c - a / b * d) := by
      have q : 1 * (c - a / b * d) ≤ d := by omega
      exact (Int.le_ediv_iff_mul_le b1).mpr q
    have w4 : 1 * (c - a / b * d) ≤ d / (c - a / b * d) * (c - a / b * d) := Int.mul_le_mul_of_nonneg_right w3 (by omega)
    have h : d < 2 ^ (m + 1) := h
    have p2 : (2 : Int) ^ (m + 1) = 2 ^ m * 2 := Int.pow_succ 2 m
    omega

theorem simp_ok : ∀ (n : Nat) {a b c d : Int}, Ival a b c d → Deep n a b c d →
    Btw a b c d (simp_ n a b c d).1 (simp_ n a b c d).2 ∧ ∀ p q, Btw a b c d p q → (simp_ n a b c d).1 ≤ p ∧ (simp_ n a b c d).2 ≤ q
  | 0, _, _, _, _, _, h => h.elim
  | n + 1, a, b, c, d, i, h => by
    obtain ⟨w0, w1, w2⟩ := div_facts i.b0 (Int.le_of_lt i.a0)
    unfold Deep at h
    unfold simp_
    by_cases h1 : (a / b + 1) * d < c
    · rw [if_pos h1]
      clear h
      obtain ⟨a0, b0, c0, d0, lt⟩ := i
      generalize a / b = w at *
      refine ⟨⟨by show 0 < w + 1; omega, by show (0 : Int) < 1; omega, ?_, by show (w + 1) * d < c * 1; omega⟩, fun p q z => ?_⟩
      · show a * 1 < (w + 1) * b
        rw [Int.add_mul]
        omega
      · obtain ⟨p0, q0, lo, hi⟩ := z
        refine ⟨?_, by omega⟩
        show w + 1 ≤ p
        have x1 : w * b * q ≤ a * q := Int.mul_le_mul_of_nonneg_right w1 (by omega)
        have x2 : (w * q) * b < p * b := by grind
        have x3 : w * q < p := Int.lt_of_mul_lt_mul_right x2 (by omega)
        have x4 : w * 1 ≤ w * q := Int.mul_le_mul_of_nonneg_left (by omega) w0
        omega
    rw [if_neg h1]
    have nn : 0 < c - a / b * d ∧ c - a / b * d ≤ d := by
      obtain ⟨a0, b0, c0, d0, lt⟩ := i
      generalize a / b = w at *
      have q1 : w * b * d ≤ a * d := Int.mul_le_mul_of_nonneg_right w1 (by omega)
      have q2 : (w * d) * b < c * b := by grind
      have q3 : w * d < c := Int.lt_of_mul_lt_mul_right q2 (by omega)
      rw [Int.add_mul, Int.one_mul] at h1
      omega
    obtain ⟨n1, n2⟩ := nn
    by_cases h2 : a = a / b * b
    · rw [if_pos h2]
      clear h
      obtain ⟨v0, v1, v2⟩ := div_facts n1 (Int.le_of_lt i.d0)
      obtain ⟨a0, b0, c0, d0, lt⟩ := i
      generalize hv : d / (c - a / b * d) = v at *
      generalize hw : a / b = w at *
      show Btw a b c d (w * (v + 1) + 1) (v + 1) ∧ ∀ p q, Btw a b c d p q → w * (v + 1) + 1 ≤ p ∧ v + 1 ≤ q
      have wv : 0 ≤ w * (v + 1) := Int.mul_nonneg w0 (by omega)
      have e1 : (w * (v + 1) + 1) * b = w * b * (v + 1) + b := by grind
      have e2 : a * (v + 1) = w * b * (v + 1) := congrArg (fun t => t * (v + 1)) h2
      have e3 : c * (v + 1) - (w * (v + 1) + 1) * d = (v * (c - w * d) + (c - w * d)) - d := by grind
      refine ⟨⟨by omega, by omega, by omega, by omega⟩, fun p q z => ?_⟩
      obtain ⟨p0, q0, lo, hi⟩ := z
      -- p = w q + y, 0 < y
      have y0 : w * q < p := by
        have x2 : (w * q) * b < p * b := by grind
        exact Int.lt_of_mul_lt_mul_right x2 (by omega)
      have y1 : (p - w * q) * d < (c - w * d) * q := by grind
      have y2 : 1 * d ≤ (p - w * q) * d := Int.mul_le_mul_of_nonneg_right (by omega) (by omega)
      have y3 : v * (c - w * d) < q * (c - w * d) := by grind
      have y4 : v < q := Int.lt_of_mul_lt_mul_right y3 (by omega)
      have y5 : w * (v + 1) ≤ w * q := Int.mul_le_mul_of_nonneg_left (by omega) w0
      exact ⟨by omega, by omega⟩
    rw [if_neg h2]
    have hd : Deep n d (c - a / b * d) b (a - a / b * b) := (h.resolve_left h1).resolve_left h2
    obtain ⟨i2, _, _⟩ := i.next h1 h2
    obtain ⟨bt, mn⟩ := simp_ok n i2 hd
    generalize simp_ n d (c - a / b * d) b (a - a / b * b) = r at *
    obtain ⟨x, y⟩ := r
    obtain ⟨a0, b0, c0, d0, lt⟩ := i
    generalize hw : a / b = w at *
    obtain ⟨x0, y0, lo, hi⟩ := bt
    have x0 : 0 < x := x0
    have y0 : 0 < y := y0
    have lo : d * y < x * (c - w * d) := lo
    have hi : x * (a - w * b) < b * y := hi
    have wx : 0 ≤ w * x := Int.mul_nonneg w0 (by omega)
    show Btw a b c d (w * x + y) x ∧ ∀ p q, Btw a b c d p q → w * x + y ≤ p ∧ x ≤ q
    refine ⟨⟨by omega, x0, by grind, by grind⟩, fun p q z => ?_⟩
    obtain ⟨p0, q0, lo', hi'⟩ := z
    have k0 : w * q < p := by
      have x1 : w * b * q ≤ a * q := Int.mul_le_mul_of_nonneg_right w1 (by omega)
      have x2 : (w * q) * b < p * b := by grind
      exact Int.lt_of_mul_lt_mul_right x2 (by omega)
    obtain ⟨m1, m2⟩ := mn q (p - w * q) ⟨q0, by omega, by grind, by grind⟩
    have m1 : x ≤ q := m1
    have m2 : y ≤ p - w * q := m2
    have m3 : w * x ≤ w * q := Int.mul_le_mul_of_nonneg_left m1 w0
    exact ⟨by omega, m1⟩

/-- it is below the mediant -/
theorem simp_le {n : Nat} {a b c d : Int} (i : Ival a b c d) (h : Deep n a b c d) : (simp_ n a b c d).1 ≤ a + c ∧ (simp_ n a b c d).2 ≤ b + d := by
  refine (simp_ok n i h).2 (a + c) (b + d) ?_
  obtain ⟨a0, b0, c0, d0, lt⟩ := i
  exact ⟨by omega, by omega, by grind, by grind⟩
/-- by second integers: none before, and there it is -/
theorem second_less {n : Nat} {a b c d s : Int} (i : Ival a b c d) (h : Deep n a b c d) (s0 : 0 < s) (hs : s < (simp_ n a b c d).2) : ¬ (a * s / b + 1) * d < c * s := fun hc => by
  obtain ⟨w0, w1, w2⟩ := div_facts i.b0 (Int.le_of_lt (Int.mul_pos i.a0 s0))
  have hm := ((simp_ok n i h).2 (a * s / b + 1) s ⟨by omega, s0, by rw [Int.add_mul]; omega, hc⟩).2
  omega
theorem second_here {n : Nat} {a b c d : Int} (i : Ival a b c d) (h : Deep n a b c d) :
    a * (simp_ n a b c d).2 / b + 1 = (simp_ n a b c d).1 ∧ (a * (simp_ n a b c d).2 / b + 1) * d < c * (simp_ n a b c d).2 := by
  obtain ⟨bt, mn⟩ := simp_ok n i h
  generalize simp_ n a b c d = r at *
  obtain ⟨p, q⟩ := r
  obtain ⟨p0, q0, lo, hi⟩ := bt
  have p0 : 0 < p := p0
  have q0 : 0 < q := q0
  have lo : a * q < p * b := lo
  have hi : p * d < c * q := hi
  obtain ⟨w0, w1, w2⟩ := div_facts i.b0 (Int.le_of_lt (Int.mul_pos i.a0 q0))
  show a * q / b + 1 = p ∧ (a * q / b + 1) * d < c * q
  generalize a * q / b = w at *
  have d0 := i.d0
  have b0 := i.b0
  have x1 : w * b < p * b := by omega
  have x2 : w < p := Int.lt_of_mul_lt_mul_right x1 (by omega)
  have x3 : (w + 1) * d ≤ p * d := Int.mul_le_mul_of_nonneg_right (by omega) (by omega)
  have x4 : (w + 1) * d < c * q := by omega
  have x5 := (mn (w + 1) q ⟨by omega, q0, by rw [Int.add_mul]; omega, x4⟩).1
  have x5 : p ≤ w + 1 := x5
  exact ⟨by omega, x4⟩

/-! ### valid divisions of a house between two parties -/
def fair (D : Nat → Int) (v u : Int) (own more : Nat) : Bool :=
  !(decide (0 < own) && decide (u * D (own - 1) > v * D more)) && (decide (more = 0) || decide (v * D (more - 1) ≤ u * D own))
def rows (D : Nat → Int) (v u : Int) (house : Nat) : List Nat := (List.range (house + 1)).filter fun own => fair D v u own (house - own)
theorem fair_more {D : Nat → Int} {v u : Int} {A B own : Nat} (mono : ∀ i j, i ≤ j → D i ≤ D j) (v0 : 0 < v) (u0 : 0 < u) (h : D A * u < v * D B) (ho : own ≤ A) : fair D v u own (A + B + 1 - own) = false := by
  have h1 : D own ≤ D A := mono _ _ ho
  have h2 : D B ≤ D (A + B + 1 - own - 1) := mono _ _ (by omega)
  have h3 : u * D own ≤ u * D A := Int.mul_le_mul_of_nonneg_left h1 (by omega)
  have h4 : v * D B ≤ v * D (A + B + 1 - own - 1) := Int.mul_le_mul_of_nonneg_left h2 (by omega)
  rw [Int.mul_comm] at h
  unfold fair
  rw [decide_eq_false (show ¬ A + B + 1 - own = 0 by omega), decide_eq_false (show ¬ v * D (A + B + 1 - own - 1) ≤ u * D own by omega)]
  simp
theorem fair_less {D : Nat → Int} {v u : Int} {A B own : Nat} (mono : ∀ i j, i ≤ j → D i ≤ D j) (v0 : 0 < v) (u0 : 0 < u) (h : v * D B < D A * u) (ho : A + 1 ≤ own) (hh : own ≤ A + B + 1) : fair D v u own (A + B + 1 - own) = false := by
  have h1 : D A ≤ D (own - 1) := mono _ _ (by omega)
  have h2 : D (A + B + 1 - own) ≤ D B := mono _ _ (by omega)
  have h3 : u * D A ≤ u * D (own - 1) := Int.mul_le_mul_of_nonneg_left h1 (by omega)
  have h4 : v * D (A + B + 1 - own) ≤ v * D B := Int.mul_le_mul_of_nonneg_left h2 (by omega)
  rw [Int.mul_comm (D A)] at h
  unfold fair
  rw [decide_eq_true (show 0 < own by omega), decide_eq_true (show u * D (own - 1) > v * D (A + B + 1 - own) by omega)]
  simp
theorem rows_apart {D E : Nat → Int} {v u : Int} {A B : Nat} (mD : ∀ i j, i ≤ j → D i ≤ D j) (mE : ∀ i j, i ≤ j → E i ≤ E j) (v0 : 0 < v) (u0 : 0 < u)
    (h : (D A * u < v * D B ∧ v * E B < E A * u) ∨ (E A * u < v * E B ∧ v * D B < D A * u)) {own : Nat} (h1 : own ∈ rows D v u (A + B + 1)) : own ∉ rows E v u (A + B + 1) := fun h2 => by
  obtain ⟨r1, f1⟩ := List.mem_filter.mp h1
  obtain ⟨_, f2⟩ := List.mem_filter.mp h2
  have r1 := List.mem_range.mp r1
  rcases h with ⟨a, b⟩ | ⟨a, b⟩
  · by_cases ho : own ≤ A
    · rw [fair_more mD v0 u0 a ho] at f1
      cases f1
    · rw [fair_less mE v0 u0 b (by omega) (by omega)] at f2
      cases f2
  · by_cases ho : own ≤ A
    · rw [fair_more mE v0 u0 a ho] at f2
      cases f2
    · rw [fair_less mD v0 u0 b (by omega) (by omega)] at f1
      cases f1
end Seat
/-! sorted(xs, key=lambda x: (.., ..)): a rule of the hand layer. -/
namespace KSL
open PySem PySem.Spec PyProof.Rows L2 LamX NdefX

/-! ### the lambda is called -/
section
variable {P : Program} {w : World} {K : PySem.W.Frag} {mg : Str → Option Value} {base : Heap} {N ps : List Str} {F : NF} {f : Addr} {b : PySem.Expr} {k : Nat}
theorem no_cells {h : Heap} {H : Hp} : CellsAt [] [] [] h H :=
  ⟨rfl, fun y c e => (by cases e), fun x y c e _ => (by cases e), fun i y e => (by simp at e)⟩
theorem lam_run {A : Around} {outer : List Env} {s : Shared} {H : Hp} {us : List Value} {vs : List V} {Q : VK} {E : XK} {pm ctv : Value} (S : NScope N ps [] F.scope) (hcl : F.cl = [])
    (hb : bindArgs (PySem.W.kla_fn "<lambda>" F.qual F.params b F.scope F.cl pm (.ref F.c) ctv) ⟨us, []⟩ = pure (ps.zip us))
    (hr : Room (k + 1) A) (e0 : Env0 P w K mg base A outer s H) (hf : s.heap.get? f = some (PySem.W.kla_obj "<lambda>" F.qual F.params b F.scope F.cl pm F.c ctv)) (hc : H F.c = some (CodeO F.c F.qual)) (r : Vals vs us) (hl : vs.length = ps.length)
    (hbody : ∃ t, PE (ncx CX0 P w K mg base N F f A outer s H E) b t ∧ t (startF N vs []) H Q) :
    codeAny (model P w) A (.call (.ref f) ⟨us, []⟩) (CR CX0 outer P w H s Q E) s := by
  have noLim : s.heap.NoLimit := e0.mod.nolimit.keeps fun b o e => (e0.bs b o e).1
  refine PySem.W.kla_callFunE hr.depth hf rfl S.co S.gen rfl (codeO_at e0.hok hc) ?_
  rw [hb]
  refine wpAny_pure (wpAny_newFunctionEnv S.nocell (fun y hy => S.par y.1 (List.of_mem_zip (show (y.1, y.2) ∈ _ from hy)).1) (fun h1 hns hsb => ⟨noLim.fresh _ hsb, ?_⟩) S.kind)
  have kept : ∀ b o, s.heap.get? b = some o → h1.get? b = some o := fun b o e => hsb.extBut b o (Nat.ne_of_lt (Heap.lt_size e)) (Heap.get?_push_of_some _ e)
  obtain ⟨t, ht, hq⟩ := hbody
  have C : CellsAt F.cl [] [] s.heap H := by
    rw [hcl]
    exact no_cells
  have J : Inv (ncx CX0 P w K mg base N F f A outer s H E) [] (startF N vs []) H { s with heap := h1, toks := s.toks + (ps.zip us).length } := inv_startN S hr.hd e0 hl r C hns kept
  refine PySem.W.kla_codeExpr (wpAny_mono (ht.run [] _ _ H _ J hq) (fun u s' hu => ?_) fun _ _ he => he)
  obtain ⟨v, H', J', rv, q⟩ := hu
  exact ⟨v, H', J'.os, J'.bare, J'.base, J'.hok, rv, q⟩
end

/-! ### untracked objects of our own -/
structure Own (X : Cx) (pins : List (Addr × Obj)) (H : Hp) (a : Addr) : Prop where
  nH : H a = none
  nL : a ≠ X.env.locals
  nF : a ∉ X.fs
  new : X.s_0.heap.objs.size ≤ a
  nP : ∀ p ∈ X.pn ++ pins, p.1 ≠ a
  nC : ∀ x c, X.env.cells.lookup x = some c → c ≠ a
section
variable {X : Cx} {pins : List (Addr × Obj)} {σ : L2.St} {H : Hp} {s : Shared} {a : Addr}
theorem own_new (I : Inv X pins σ H s) (h : s.heap.objs.size ≤ a) : Own X pins H a where
  nH := I.hok.fresh h
  nL := fun z => Nat.lt_irrefl _ (Nat.lt_of_lt_of_le I.lt (by rw [← z]; exact h))
  nF := I.nofs h
  new := Nat.le_trans I.sz h
  nP := fun p hp z => Nat.lt_irrefl _ (Nat.lt_of_lt_of_le (Heap.lt_size (I.pin p hp).1) (by rw [z]; exact h))
  nC := fun x c e z => by
    obtain ⟨v, o, ho, _⟩ := I.cell x c e
    exact Nat.lt_irrefl _ (Nat.lt_of_lt_of_le (Heap.lt_size ho) (by rw [z]; exact h))
/-- one more pin -/
theorem pin_add {o : Obj} (I : Inv X pins σ H s) (O : Own X pins H a) (ho : s.heap.get? a = some o) (hd : ∀ v, o.data ≠ .cell v) : Inv X ((a, o) :: pins) σ H s := I.pins_of fun p hp => by
  rcases List.mem_cons.mp hp with e | hp
  · rw [e]
    exact ⟨ho, O.nH, O.nL, O.nF, hd⟩
  · exact I.pin p (List.mem_append_right _ hp)
theorem pin_drop {p : Addr × Obj} (I : Inv X (p :: pins) σ H s) : Inv X pins σ H s := I.pins_of fun q hq => I.pin q (List.mem_append_right _ (List.mem_cons_of_mem _ hq))
/-- a list of ours, pinned, is changed -/
theorem pin_update {g : Array Value → Array Value} {xs : Array Value} {n tk : Nat} (I : Inv X ((a, seqObj "list" xs n) :: pins) σ H s) (O : Own X pins H a) :
    ∃ m, Inv X ((a, seqObj "list" (g xs) m) :: pins) σ H { s with heap := s.heap.update a (Obj.mapSeq g), toks := tk } := by
  have ho : s.heap.get? a = some (seqObj "list" xs n) := (I.pin (a, seqObj "list" xs n) (List.mem_append_right _ List.mem_cons_self)).1
  refine ⟨_, pin_add ((pin_drop I).turned (fun b u hb e => (Heap.get?_update_ne _ _ _ _ hb).trans e) O.nH O.nL (.inr O.new) O.nC O.nP) O (get?_update_seq ho g) fun v z => by cases z⟩
/-- an object of ours is tracked from now on -/
theorem track {o : HO} (I : Inv X pins σ H s) (O : Own X pins H a) (ok : ObjOk X.prog X.w (upd H a o) s.heap a o) : Inv X pins σ (upd H a o) s := by
  have keep : ∀ c u, H c = some u → upd H a o c = some u := fun c u e => by
    rw [upd_ne (ne_of_none e O.nH)]
    exact e
  have u := I.base
  refine ⟨I.ok, I.os, I.bare, ⟨u.keep, u.slot, fun b ob e n hx => ?_, u.there, fun b xs e => keep _ _ (u.tups b xs e), fun b ob xs e => keep _ _ (u.frzs b ob xs e), fun b qs e => ?_⟩, I.loc, I.cell, ?_, fun x c e => ?_, fun p hp => ?_, fun b ob e => ?_, I.len⟩
  · have hb : b ≠ a := Nat.ne_of_lt (Nat.lt_of_lt_of_le (Heap.lt_size e) O.new)
    rw [upd_ne hb]
    exact u.free b ob e n hx
  · obtain ⟨more, z⟩ := u.tbls b qs e
    exact ⟨more, keep _ _ z⟩
  · rw [upd_ne (Ne.symm O.nL)]
    exact I.free
  · rw [upd_ne (O.nC x c e)]
    exact I.freeC x c e
  · obtain ⟨e1, e2, e3⟩ := I.pin p hp
    refine ⟨e1, ?_, e3⟩
    rw [upd_ne (O.nP p hp)]
    exact e2
  · by_cases hb : b = a
    · rw [hb, upd_same] at e
      cases e
      rw [hb]
      exact ok
    · rw [upd_ne hb] at e
      exact (I.hok b ob e).stay (fun _ _ _ q => q) (fun c q => keep _ _ q) fun c xs q => keep _ _ q
end

/-! ### keys -/
/-- the key x, a pair of ints -/
def KeyAt (H : Hp) (u : Value) (p : Int × Int) : Prop := ∃ t, u = Value.ref t ∧ H t = some (.tup [.int p.1, .int p.2])
def pairAt (H : Hp) : Value → Int × Int
  | .ref t => match H t with
    | some (.tup [.int i, .int j]) => (i, j)
    | _ => (0, 0)
  | _ => (0, 0)
theorem KeyAt.pair {H : Hp} {u : Value} {p : Int × Int} (h : KeyAt H u p) : pairAt H u = p := by
  obtain ⟨t, rfl, e⟩ := h
  show (match H t with
    | some (.tup [.int i, .int j]) => (i, j)
    | _ => ((0, 0) : Int × Int)) = p
  rw [e]
theorem KeyAt.is {P : Program} {w : World} {H : Hp} {h : Heap} {u : Value} {p : Int × Int} (k : KeyAt H u p) (ok : HOk P w H h) : Srt.IsPair h u p.1 p.2 := by
  obtain ⟨t, rfl, e⟩ := k
  obtain ⟨_, its, r, o, ho, hc, n, hd⟩ := ok t _ e
  obtain ⟨u1, u2, rfl, ri, rj⟩ := vals2 r
  obtain ⟨t1, rfl⟩ := ri
  obtain ⟨t2, rfl⟩ := rj
  exact ⟨t, o, t1, t2, n, rfl, ho, hc, hd⟩
end KSL
namespace KSL
open PySem PySem.Spec PyProof.Rows L2 LamX NdefX
section
variable {prog : Program} {w : World} {A : Around} {E : Value → Shared → Prop} {s : Shared}
theorem line64 {n : Nat} (h : n < 64) : n ≤ sizeLine := by
  rw [sizeLine_eq]
  omega
/-- the sort's tail -/
theorem tail_ok {D kS : Addr} {keys : Array Value} {e e1 : Nat} {st : SortSt} {R : PySem.Fin → Shared → Prop} (hk : s.heap.get? kS = some (seqObj "list" keys e)) (hD : s.heap.get? D = some (seqObj "list" #[] e1)) (ne : kS ≠ D)
    (z1 : keys.size ≤ sizeLine) (z2 : (arrOf st).size ≤ sizeLine) (hf : failedOf st = none)
    (h : R (.done (.ret .none)) { s with heap := (s.heap.update kS (Obj.mapSeq fun _ => #[])).update D (Obj.mapSeq fun _ => (arrOf st).map (·.2)) }) :
    wpAny (model prog w) A (ksk_tail D false e1 (.ref kS) st) R E s := by
  have hD' : (s.heap.update kS (Obj.mapSeq fun _ => (#[] : Array Value))).get? D = some (seqObj "list" #[] e1) := (Heap.get?_update_ne _ _ _ _ (Ne.symm ne)).trans hD
  unfold ksk_tail
  try dsimp only
  refine wpAny_bind (listUpdate_at hk rfl ?_ z1 (Nat.zero_le _))
  refine wpAny_bind (wpAny_letGo (wpAny_bind (seqEpoch_at hD' rfl ?_)))
  refine wpAny_bind (listUpdate_at hD' rfl ?_ (Nat.zero_le _) (by simp only [Bool.false_eq_true, if_false, Array.size_map]; omega))
  rw [hf]
  simp only [bne_self_eq_false, Bool.false_eq_true, if_false]
  exact wpAny_pure h
/-- the pairs are sorted -/
theorem end_ok {D kS : Addr} {keys : Array Value} {vs : List Value} {e e1 : Nat} {kv : Value → Int × Int} {R : PySem.Fin → Shared → Prop} (hk : s.heap.get? kS = some (seqObj "list" keys e)) (hD : s.heap.get? D = some (seqObj "list" #[] e1)) (ne : kS ≠ D)
    (hl : keys.size = vs.length) (h2 : 2 ≤ vs.length) (h64 : vs.length < 64) (hp : ∀ v ∈ keys.toList, Srt.IsPair s.heap v (kv v).1 (kv v).2)
    (h : ∀ ps : Array Keyed, ps.toList.Perm (keys.toList.zip vs) → SrtO.Srtd (SrtO.lt2 fun v u => SrtO.lexB (kv v) (kv u)) ps.toList →
      R (.done (.ret .none)) { s with heap := (s.heap.update kS (Obj.mapSeq fun _ => #[])).update D (Obj.mapSeq fun _ => ps.map (·.2)) }) :
    wpAny (model prog w) A (ksk_end D false vs.toArray e1 (.ref kS) keys) R E s := by
  have ez : (keys.zip vs.toArray).toList = keys.toList.zip vs := ksk_zip keys vs
  unfold ksk_end
  try dsimp only
  simp only [Bool.false_eq_true, if_false]
  have n2 : ¬ vs.toArray.size < 2 := by
    rw [List.size_toArray]
    omega
  rw [if_neg n2, if_neg n2]
  obtain ⟨fs, f1, f2, f3⟩ := Srt.firsts_of fun v hm => ⟨_, _, hp v hm⟩
  have kk : keys = keys.toList.toArray := by rw [Array.toArray_toList]
  have kind : ∀ (Q : SortKind → Shared → Prop), Q (tuples' true) s → wpAny (model prog w) A (keyKind' keys) Q E s := fun Q hq => by
    rw [kk]
    refine PySem.W.kat_kind (T := .type "int") f1 (by rw [f2, Array.length_toList, hl]; omega) (fun f hm => ?_) (by rfl) ?_
    · obtain ⟨x, t, rfl⟩ := f3 f hm
      exact PySem.W.Looks.now
    · have e : (Value.type "int" != Value.type "tuple") = true := by first | decide +kernel | rfl | decide
      rw [e]
      exact hq
  refine wpAny_bind (kind _ ?_)
  have all : SrtO.AllL (fun p : Keyed => p.1 ∈ keys.toList) (keys.zip vs.toArray).toList := fun p hm => by
    rw [ez] at hm
    exact (List.of_mem_zip (show (p.1, p.2) ∈ _ from hm)).1
  refine wpAny_bind (wpAny_mono (SrtO.wpS_sortO (st0 := SortSt.mk' (tuples' true) (keys.zip vs.toArray) #[] 7 none)
    (Q := fun _ st' => SrtO.Srtd (SrtO.lt2 fun v u => SrtO.lexB (kv v) (kv u)) (arrOf st').toList ∧ SrtO.Stb (SrtO.lt2 fun v u => SrtO.lexB (kv v) (kv u)) (arrOf st').toList (keys.zip vs.toArray).toList ∧ failedOf st' = none)
    (SrtO.swo2 (SrtO.swo_lex kv)) (SrtO.pair_cmp hp) rfl all rfl rfl fun st' a1 a2 a3 => ⟨a1, a2, a3⟩) ?_ fun _ _ z => z)
  rintro ⟨⟨⟩, st'⟩ s' ⟨rfl, hs, hb, hf⟩
  try dsimp only
  have hb2 : (arrOf st').toList.Perm (keys.toList.zip vs) := by
    rw [← ez]
    exact hb.perm
  have hsz : (arrOf st').size = vs.length := by
    have q := hb2.length_eq
    rw [Array.length_toList, List.length_zip, Array.length_toList, hl, Nat.min_self] at q
    exact q
  exact tail_ok hk hD ne (by rw [hl]; exact line64 h64) (by rw [hsz]; exact line64 h64) hf (h _ hb2 hs)
end

/-! ### the keys are asked, one by one -/
section
variable {X : Cx} {pins : List (Addr × Obj)} {σ : L2.St} {H : Hp} {s : Shared} {A : Around} {E : Value → Shared → Prop}
/-- the state while the keys are made: j of them stand in the store at kS -/
structure Made (X : Cx) (pins : List (Addr × Obj)) (σ : L2.St) (H : Hp) (s0 : Shared) (D kS : Addr) (e1 : Nat) (kk : List (Int × Int)) (j : Nat) (s : Shared) : Prop where
  ex : ∃ (H' : Hp) (kA : Array Value) (e : Nat), Inv X ((kS, seqObj "list" kA e) :: (D, seqObj "list" #[] e1) :: pins) σ H' s ∧ Same H H' ∧ kA.size = j ∧ ∀ (i : Nat) (p : Int × Int), i < j → kk[i]? = some p → ∃ u, kA.toList[i]? = some u ∧ KeyAt H' u p
theorem KeyAt.same {H H' : Hp} {u : Value} {p : Int × Int} (k : KeyAt H u p) (sm : Same H H') : KeyAt H' u p := by
  obtain ⟨t, e, ht⟩ := k
  exact ⟨t, e, sm _ _ ht⟩
theorem rest_ok {D kS : Addr} {f : Value} {vs : List Value} {kk : List (Int × Int)} {e1 : Nat} {R : PySem.Fin → Shared → Prop} (I : Inv X ((kS, seqObj "list" #[] 0) :: (D, seqObj "list" #[] e1) :: pins) σ H s) (OD : Own X pins H D) (OK : Own X ((D, seqObj "list" #[] e1) :: pins) H kS)
    (hl : kk.length = vs.length) (h2 : 2 ≤ vs.length) (h64 : vs.length < 64)
    (turn : ∀ (i : Nat) (v : Value) (p : Int × Int), vs[i]? = some v → kk[i]? = some p → ∀ (pins' : List (Addr × Obj)) (H' : Hp) (s' : Shared), (∀ q ∈ pins, q ∈ pins') → Inv X pins' σ H' s' → Same H H' →
      wpAny (model X.prog X.w) A (call f [v]) (fun u s'' => ∃ H'', Inv X pins' σ H'' s'' ∧ Same H' H'' ∧ KeyAt H'' u p) (fun _ _ => False) s')
    (h : ∀ (s' : Shared) (H' : Hp) (keys : Array Value) (e : Nat) (ps : Array Keyed), Inv X ((kS, seqObj "list" keys e) :: (D, seqObj "list" #[] e1) :: pins) σ H' s' → Same H H' → keys.size = vs.length →
      (∀ (i : Nat) (p : Int × Int), kk[i]? = some p → ∃ u, keys.toList[i]? = some u ∧ KeyAt H' u p) → ps.toList.Perm (keys.toList.zip vs) →
      SrtO.Srtd (SrtO.lt2 fun v u => SrtO.lexB (pairAt H' v) (pairAt H' u)) ps.toList →
      R (.done (.ret .none)) { s' with heap := (s'.heap.update kS (Obj.mapSeq fun _ => #[])).update D (Obj.mapSeq fun _ => ps.map (·.2)) }) :
    wpAny (model X.prog X.w) A (ksk_rest D f false vs.toArray e1 (.ref kS)) R E s := by
  have nKD : kS ≠ D := Ne.symm (OK.nP (D, seqObj "list" #[] e1) (List.mem_append_right _ List.mem_cons_self))
  unfold ksk_rest
  refine wpAny_bind (wpAny_rule ?_)
  first
    | rw [List.forIn_toArray]
    | (rw [← Array.forIn_toList]; simp only [List.toList_toArray])
    | rw [← Array.forIn_toList]
  refine wpAny_bind (ksk_fold (fun i s' => Made X pins σ H s D kS e1 kk i s') vs 0 s ⟨H, #[], 0, I, Same.refl H, rfl, fun i p hi _ => absurd hi (Nat.not_lt_zero _)⟩ ?step ?done)
  case step =>
    rintro j x s' hx ⟨H', kA, e, I', sm, hz, hk⟩
    rw [Nat.zero_add] at hz hk ⊢
    have hj : j < vs.length := (List.getElem?_eq_some_iff.mp hx).1
    obtain ⟨p, hp⟩ : ∃ p, kk[j]? = some p := ⟨_, List.getElem?_eq_getElem (by omega)⟩
    refine wpAny_bind (wpAny_attempt (wpAny_mono (turn j x p hx hp _ H' s' (fun q hq => List.mem_cons_of_mem _ (List.mem_cons_of_mem _ hq)) I' sm) (fun u s'' hu => ?_) fun _ _ hF => hF.elim))
    obtain ⟨H'', I'', sm', ku⟩ := hu
    try dsimp only
    have hks : s''.heap.get? kS = some (seqObj "list" kA e) := (I''.pin (kS, seqObj "list" kA e) (List.mem_append_right _ List.mem_cons_self)).1
    have OK' : Own X ((D, seqObj "list" #[] e1) :: pins) H'' kS := ⟨(I''.pin (kS, seqObj "list" kA e) (List.mem_append_right _ List.mem_cons_self)).2.1, OK.nL, OK.nF, OK.new, OK.nP, OK.nC⟩
    refine wpAny_bind (listUpdate_at hks rfl ?_ (by rw [hz]; exact line64 (by omega)) (by rw [Array.size_push, hz]; have := line64 (show j < 64 by omega); omega))
    obtain ⟨m, I3⟩ := pin_update (g := (·.push u)) (tk := s''.toks) I'' OK'
    refine wpAny_pure ⟨rfl, ⟨H'', kA.push u, m, I3, sm.trans sm', by rw [Array.size_push, hz], fun i q hi hq => ?_⟩⟩
    have ea : (kA.push u).toList = kA.toList ++ [u] := by simp
    have hz2 : kA.toList.length = j := by rw [Array.length_toList, hz]
    rw [ea]
    by_cases hij : i < j
    · obtain ⟨u', e1, e2⟩ := hk i q hij hq
      exact ⟨u', by rw [List.getElem?_append_left (by omega)]; exact e1, e2.same sm'⟩
    · have e : i = j := by omega
      rw [e] at hq ⊢
      rw [hp] at hq
      cases hq
      refine ⟨u, ?_, ku⟩
      rw [List.getElem?_append_right (by omega), hz2, Nat.sub_self]
      rfl
  case done =>
    rintro s' ⟨H', kA, e, I', sm, hz, hk⟩
    rw [Nat.zero_add] at hz hk
    have hks : s'.heap.get? kS = some (seqObj "list" kA e) := (I'.pin (kS, seqObj "list" kA e) (List.mem_append_right _ List.mem_cons_self)).1
    have hds : s'.heap.get? D = some (seqObj "list" #[] e1) := (I'.pin (D, seqObj "list" #[] e1) (List.mem_append_right _ (List.mem_cons_of_mem _ List.mem_cons_self))).1
    try dsimp only
    refine wpAny_bind (listItems_at hks rfl ?_)
    have hk2 : ∀ (i : Nat) (p : Int × Int), kk[i]? = some p → ∃ u, kA.toList[i]? = some u ∧ KeyAt H' u p := fun i p hp => hk i p (by have := (List.getElem?_eq_some_iff.mp hp).1; omega) hp
    refine end_ok (kv := pairAt H') hks hds nKD hz h2 h64 (fun v hv => ?_) fun ps p1 p2 => h s' H' kA e ps I' sm hz hk2 p1 p2
    obtain ⟨i, hi⟩ := List.mem_iff_getElem?.mp hv
    have hi2 : i < kk.length := by
      have q := (List.getElem?_eq_some_iff.mp hi).1
      rw [Array.length_toList] at q
      omega
    obtain ⟨u, e1, e2⟩ := hk2 i _ (List.getElem?_eq_getElem hi2)
    rw [hi] at e1
    cases e1
    have e3 := e2.pair
    rw [e3]
    exact e2.is I'.hok
end
end KSL
namespace KSL
open PySem PySem.Spec PyProof.Rows L2 LamX NdefX
section
variable {X : Cx} {pins : List (Addr × Obj)} {σ : L2.St} {H : Hp} {s : Shared} {A : Around} {E : Value → Shared → Prop}
theorem tree_ok {D : Addr} {q : Addr} {xs : List V} {vs : List Value} {kx : V → Int × Int} {R : PySem.Fin → Shared → Prop} (I : Inv X pins σ H s) (OD : Own X pins H D) (hD : s.heap.get? D = some (seqObj "list" vs.toArray 0))
    (rv : Vals xs vs) (hx : ∀ x ∈ xs, ∃ t, x = V.ref t) (h2 : 2 ≤ xs.length) (h64 : xs.length < 64)
    (turn : ∀ (x : V) (v : Value), x ∈ xs → RelV x v → ∀ (pins' : List (Addr × Obj)) (H' : Hp) (s' : Shared), (∀ p ∈ pins, p ∈ pins') → Inv X pins' σ H' s' → Same H H' →
      wpAny (model X.prog X.w) A (call (.ref q) [v]) (fun u s'' => ∃ H'', Inv X pins' σ H'' s'' ∧ Same H' H'' ∧ KeyAt H'' u (kx x)) (fun _ _ => False) s')
    (h : ∀ (s' : Shared) (H' : Hp) (ys : List V), Inv X pins σ (upd H' D (.lst ys)) s' → Same H H' → H' D = none → ys.Perm xs → SrtO.Srtd (ltP kx) ys → R (.done (.ret .none)) s') :
    wpAny (model X.prog X.w) A (ksk_tree D (.ref q) false) R E s := by
  obtain ⟨ex, er⟩ := refs_back rv hx
  have hlen : xs.length = vs.length := rv.length
  have hz : vs.length ≤ sizeLine := line64 (by omega)
  unfold ksk_tree
  refine wpAny_bind (listItems_at hD rfl (wpAny_bind (listUpdate_at hD rfl ?_ (by rw [List.size_toArray]; exact hz) (Nat.zero_le _))))
  obtain ⟨e1, hD1⟩ : ∃ e1, (s.heap.update D (Obj.mapSeq fun _ => (#[] : Array Value))).get? D = some (seqObj "list" #[] e1) := ⟨_, get?_update_seq hD fun _ => #[]⟩
  refine wpAny_bind (seqEpoch_at hD1 rfl (wpAny_bind (wpAny_newTuple ?_ (by show vs.length ≤ _; exact hz))))
  refine wpAny_bind (wpAny_newList (wpAny_holding ?_) (Nat.zero_le _))
  -- the heap with the emptied list
  have I1 : Inv X pins σ H { s with heap := s.heap.update D (Obj.mapSeq fun _ => (#[] : Array Value)), toks := s.toks } :=
    I.turned (fun b u hb e => (Heap.get?_update_ne _ _ _ _ hb).trans e) OD.nH OD.nL (.inr OD.new) OD.nC OD.nP
  have I2 : Inv X ((D, seqObj "list" #[] e1) :: pins) σ H { s with heap := s.heap.update D (Obj.mapSeq fun _ => (#[] : Array Value)), toks := s.toks } := pin_add I1 OD hD1 fun v z => by cases z
  have I3 := I2.kept (t' := s.toks) (h' := (s.heap.update D (Obj.mapSeq fun _ => (#[] : Array Value))).push (seqObj "tuple" vs.toArray 0)) fun b u e => Heap.get?_push_of_some _ e
  have OK := own_new I3 (a := ((s.heap.update D (Obj.mapSeq fun _ => (#[] : Array Value))).push (seqObj "tuple" vs.toArray 0)).objs.size) (Nat.le_refl _)
  have I4 := I3.kept (t' := s.toks) (h' := ((s.heap.update D (Obj.mapSeq fun _ => (#[] : Array Value))).push (seqObj "tuple" vs.toArray 0)).push (seqObj "list" #[] 0)) fun b u e => Heap.get?_push_of_some _ e
  have I5 := pin_add I4 OK (Heap.get?_push_size _ rfl) fun v z => by cases z
  refine rest_ok (kk := xs.map kx) I5 OD OK (by rw [List.length_map, hlen]) (by omega) (by omega) (fun i v p hv hp pins' H' s' hq I' sm => ?_) fun s' H' keys e ps I' sm hsz hk p1 p2 => ?_
  · rw [List.getElem?_map] at hp
    obtain ⟨x, hxi, rfl⟩ := Option.map_eq_some_iff.mp hp
    obtain ⟨u, hu, ru⟩ := rv.get hxi
    rw [hv] at hu
    cases hu
    exact turn x v (List.mem_of_getElem? hxi) ru pins' H' s' hq I' sm
  · have OK' : Own X ((D, seqObj "list" #[] e1) :: pins) H' _ := ⟨(I'.pin _ (List.mem_append_right _ List.mem_cons_self)).2.1, OK.nL, OK.nF, OK.new, OK.nP, OK.nC⟩
    have hD' := (I'.pin (D, seqObj "list" #[] e1) (List.mem_append_right _ (List.mem_cons_of_mem _ List.mem_cons_self))).2.1
    have OD' : Own X pins H' D := ⟨hD', OD.nL, OD.nF, OD.new, OD.nP, OD.nC⟩
    obtain ⟨m1, J1⟩ := pin_update (g := fun _ => #[]) (tk := s'.toks) I' OK'
    obtain ⟨m2, J2⟩ := pin_update (g := fun _ => ps.map (·.2)) (tk := s'.toks) (pin_drop J1) OD'
    have hob := (J2.pin _ (List.mem_append_right _ List.mem_cons_self)).1
    have hps : ∀ p ∈ ps.toList, p.2 ∈ vs ∧ pairAt H' p.1 = kx (backV p.2) := fun p hp => by
      have hm := p1.mem_iff.mp hp
      obtain ⟨i, hi⟩ := List.mem_iff_getElem?.mp hm
      obtain ⟨a1, a2⟩ := List.getElem?_zip_eq_some.mp hi
      refine ⟨List.mem_of_getElem? a2, ?_⟩
      have hxi : xs[i]? = some (backV p.2) := by
        rw [ex, List.getElem?_map, a2]
        rfl
      obtain ⟨u, b1, b2⟩ := hk i (kx (backV p.2)) (by rw [List.getElem?_map, hxi]; rfl)
      rw [a1] at b1
      cases b1
      exact b2.pair
    have e2 : (ps.map (·.2)).toList = ps.toList.map (·.2) := Array.toList_map ..
    have pm : (ps.toList.map (·.2)).Perm vs := by
      have z := p1.map (·.2)
      have z2 : (keys.toList.zip vs).map (·.2) = vs := List.map_snd_zip (by have z3 : keys.toList.length = keys.size := Array.length_toList; omega)
      rw [z2] at z
      exact z
    have hr : ∀ u ∈ ps.toList.map (·.2), ∃ t, u = Value.ref t := fun u hu => er u (pm.mem_iff.mp hu)
    have py : ((ps.toList.map (·.2)).map backV).Perm xs := by
      rw [ex]
      exact pm.map backV
    have J3 := track (o := .lst ((ps.toList.map (·.2)).map backV)) (pin_drop J2) OD' (by
      refine ⟨?_, ps.toList.map (·.2), m2, vals_back hr, ?_⟩
      · rw [py.length_eq]
        exact line64 h64
      · rw [← e2, Array.toArray_toList]
        exact hob)
    refine h _ H' _ J3 sm hD' py ?_
    rw [List.map_map]
    refine List.pairwise_map.mpr (p2.imp_of_mem fun {a b} ha hb hab => ?_)
    have w1 := (hps a ha).2
    have w2 := (hps b hb).2
    show SrtO.lexB (kx (backV b.2)) (kx (backV a.2)) = false
    rw [← w1, ← w2]
    exact hab
/-- sorted(l, key=q) -/
theorem sorted_ok {a q : Addr} {xs : List V} {kx : V → Int × Int} {Q : Value → Shared → Prop} (I : Inv X pins σ H s) (hs : SqL X.K H a xs) (hx : ∀ x ∈ xs, ∃ t, x = V.ref t) (h2 : 2 ≤ xs.length) (h64 : xs.length < 64)
    (turn : ∀ (x : V) (v : Value), x ∈ xs → RelV x v → ∀ (pins' : List (Addr × Obj)) (H' : Hp) (s' : Shared), (∀ p ∈ pins, p ∈ pins') → Inv X pins' σ H' s' → Same H H' →
      wpAny (model X.prog X.w) A.in1.in1 (call (.ref q) [v]) (fun u s'' => ∃ H'', Inv X pins' σ H'' s'' ∧ Same H' H'' ∧ KeyAt H'' u (kx x)) (fun _ _ => False) s')
    (h : ∀ (s' : Shared) (H' : Hp) (D : Addr) (ys : List V), Inv X pins σ (upd H' D (.lst ys)) s' → Same H H' → H' D = none → ys.Perm xs → SrtO.Srtd (ltP kx) ys → Q (.ref D) s') :
    wpAny (model X.prog X.w) A (call (.builtin "sorted") [.ref a] [(Str.ofString "key", .ref q)]) Q E s := by
  obtain ⟨vs, rv, hl, hz⟩ := I.list hs
  have hz2 : vs.length ≤ sizeLine := by
    rw [← rv.length]
    exact hz
  refine call_function_entry_kw kind_sorted plain_sorted entry_sorted (ksk_s1 _ _) ?_
  unfold Builtin.«sorted»
  refine wpAny_bind (m := checkCount "sorted" 1 1 _) (wpAny_pure (wpAny_bind (collect_list hl.isList ?_ hz2)))
  refine wpAny_bind (wpAny_newList ?_ hz2)
  have hsz : ((s.heap.push (seqObj "list" #[] 0)).update s.heap.objs.size (Obj.mapSeq (· ++ vs.toArray))).objs.size = s.heap.objs.size + 1 := by
    rw [Heap.size_update, size_push']
  have I1 : Inv X pins σ H { s with heap := (s.heap.push (seqObj "list" #[] 0)).update s.heap.objs.size (Obj.mapSeq (· ++ vs.toArray)), toks := s.toks } := I.kept fun b o e => by
    rw [Heap.get?_update_ne _ _ _ _ (Nat.ne_of_lt (Heap.lt_size e))]
    exact Heap.get?_push_of_some _ e
  have OD := own_new I1 (a := ((s.heap.push (seqObj "list" #[] 0)).update s.heap.objs.size (Obj.mapSeq (· ++ vs.toArray))).objs.size) (Nat.le_refl _)
  have I2 := I1.kept (t' := s.toks) (h' := ((s.heap.push (seqObj "list" #[] 0)).update s.heap.objs.size (Obj.mapSeq (· ++ vs.toArray))).push (seqObj "list" vs.toArray 0)) fun b o e => Heap.get?_push_of_some _ e
  have hD := Heap.get?_push_size ((s.heap.push (seqObj "list" #[] 0)).update s.heap.objs.size (Obj.mapSeq (· ++ vs.toArray))) (o := seqObj "list" vs.toArray 0) rfl
  refine wpAny_bind (wpAny_holding (wpAny_call_entry_kw slot_list_sort ⟨_, hD, rfl⟩ entry_list_sort ?_ (ksk_l1 _ _)))
  rw [ksk_t1]
  exact tree_ok I2 OD hD rv hx h2 h64 turn fun s' H' ys J sm hn py so => ⟨_, rfl, wpAny_pure ⟨_, rfl, h s' H' _ ys J sm hn py so⟩⟩
end

/-! ### the rule -/
def tSK (K : PySem.W.Frag) (T : List (Addr × Str)) (tb : TE) (t : TA) : TE := fun σ H Q => t σ H fun vs H1 => ∃ (a : Addr) (xs : List V) (kx : V → Int × Int), vs = [.ref a] ∧ SqL K H1 a xs ∧ 2 ≤ xs.length ∧ xs.length < 64 ∧ (∀ x ∈ xs, ∃ t, x = V.ref t) ∧ Tabs T H1 ∧
  (∀ x ∈ xs, ∀ H2 : Hp, ExtN H1 H2 → tb [some x] H2 fun y H3 => Same H2 H3 ∧ ∃ t, y = .ref t ∧ H3 t = some (.tup [.int (kx x).1, .int (kx x).2])) ∧
  ∀ (ys : List V) (p : Addr) (H3 : Hp), ExtN H1 H3 → ys.Perm xs → SrtO.Srtd (ltP kx) ys → H3 p = some (.lst ys) → Q (.ref p) H3
theorem seq_ext {K : PySem.W.Frag} {H H' : Hp} {a : Addr} {xs : List V} (e : ExtN H H') (h : SqL K H a xs) : SqL K H' a xs := by
  rcases h with (h | ⟨o, h⟩) | h
  · exact .inl (.inl (e _ _ h fun ps z => by cases z))
  · exact .inl (.inr ⟨o, e _ _ h fun ps z => by cases z⟩)
  · exact .inr h
theorem not_here {s : Shared} {f c : Addr} {o : Obj} {v : Option Value} (h : s.heap.get? f = some o) (hd : ∀ v, o.data ≠ .cell v) (hc : s.heap.IsCell c v) : c ≠ f := fun z => by
  obtain ⟨o', ho', hd'⟩ := hc
  rw [z, h] at ho'
  cases ho'
  exact hd v hd'
theorem pe_sortedLam {X : Cx} {T : List (Addr × Str)} {c P : Addr} {k : Nat} {y : Str} {e : PySem.Expr} {params : Arguments} {body : PySem.Expr} {scope : Scope} {p lpos kpos pos : Pos} {tb : TE} {t : TA}
    (hm : X.mg "sorted" = none) (ha : PA X [e] t) (TB : TabB X.base X.mg c P) (hcode : X.env.code = .ref c) (hT : (P, X.env.qual ++ "<lambda>") ∈ T) (hu : ∀ z ∈ T, z.1 = P → z.2 = X.env.qual ++ "<lambda>") (hr : Room (k + 3) X.A)
    (S : NScope [y] [y] [] scope) (hfree : ∀ z ∈ scope.names, z.2 ≠ .free) (hdef : defaultsOf params X.env = ([], []))
    (hbind : ∀ (q : Str) (cl : List (Str × Addr)) (pm cv ctv u : Value), bindArgs (PySem.W.kla_fn "<lambda>" q params body scope cl pm cv ctv) ⟨[u], []⟩ = pure [(y, u)])
    (hbody : ∀ (A : Around) (outer : List Env) (s : Shared) (H : Hp) (E : XK) (f c' : Addr), PE (ncx CX0 X.prog X.w X.K X.mg X.base [y] ⟨"<lambda>", X.env.qual ++ "<lambda>", params, [], scope, [], c'⟩ f A outer s H E) body tb)
    (hg : Gl X "sorted" := by rfl) (h1 : backTo pos (starEach [e] X.env) = (false, eval e X.env) :: backTo pos (starEach [] X.env) := by rfl) (h2 : (backTo pos (starEach [e] X.env)).any (·.1) = false := by rfl) :
    PE X (.Call (.Name "sorted" p) [e] [⟨some "key", .Lambda params body scope lpos, kpos⟩] pos) (tSK X.K T tb t) := by
  have noF : cloFrom X.env.cells scope.names [] = [] := by
    cases h : cloFrom X.env.cells scope.names [] with
    | nil => rfl
    | cons z r =>
      have hm : z ∈ cloFrom X.env.cells scope.names [] := by rw [h]; exact List.mem_cons_self
      rcases cloFrom_mem (show (z.1, z.2) ∈ _ from hm) with q | ⟨q, _⟩
      · cases q
      · exact absurd rfl (hfree _ q)
  refine ⟨fun pins s σ H Q I h => ?_⟩
  refine wpAny_Call_Name_kw (ld_blt I hg hm (show bootBuiltins "sorted" = some (.builtin "sorted") by decide +kernel) ?_ (by decide) (by decide))
  refine PyProof.Rows.callWith_kw (thn (ha.run pos pins s σ H _ I h) fun us s1 hus => ?_) h1 h2 (by rfl) (by rfl)
  obtain ⟨vs, H1, I1, r1, a, xs, kx, ev, hs, l2, l64, hx, tabs, hkey, hend⟩ := hus
  subst ev
  obtain rfl := Vals.ref1 r1
  show wpAny _ _ (evalAll [(do let v ← eval (.Lambda params body scope lpos) X.env; standAt pos; pure v)]) _ _ s1
  refine wpAny_evalAll_cons (wpAny_bind (lam_make2 I1 TB hcode hT hu tabs hdef (fun z hz e => absurd e (hfree z hz)) fun f c' pm ctv H2 s2 I2 ext tabs2 hf hn hfr hc => wpAny_bind (wpAny_standAt (wpAny_pure (wpAny_evalAll_nil ?_)))))
  rw [noF] at hf
  have nd : ∀ v, (PySem.W.kla_obj "<lambda>" (X.env.qual ++ "<lambda>") params body scope [] pm c' ctv).data ≠ .cell v := fun v z => by cases z
  have nL : f ≠ X.env.locals := fun z => by
    obtain ⟨m, ⟨o, es, ep, ho, hd, _⟩, _⟩ := id I2.loc
    rw [← z, hf] at ho
    cases ho
    cases hd
  have nF : f ∉ X.fs := fun z => hfr (by
    rcases I2.ok.stk with q | ⟨q, hq⟩
    · rw [q]
      exact z
    · rw [q]
      unfold frs
      rw [List.filterMap_cons, hq]
      exact List.mem_cons_of_mem _ z)
  have I3 : Inv X ((f, PySem.W.kla_obj "<lambda>" (X.env.qual ++ "<lambda>") params body scope [] pm c' ctv) :: pins) σ H2 s2 := I2.pins_of fun p hp => by
    rcases List.mem_cons.mp hp with e | hp
    · rw [e]
      exact ⟨hf, hn, nL, nF, nd⟩
    · exact I2.pin p (List.mem_append_right _ hp)
  show wpAny _ _ (call (.builtin "sorted") [.ref a] [(Str.ofString "key", .ref f)]) _ _ s2
  refine sorted_ok (kx := kx) I3 (seq_ext ext hs) hx l2 l64 (fun x v hxm rv pins' H' s' hp I' sm => ?_) fun s' H' D ys J sm nD py so => ?_
  · have hf' := (I'.pin (f, PySem.W.kla_obj "<lambda>" (X.env.qual ++ "<lambda>") params body scope [] pm c' ctv) (List.mem_append_right _ (hp _ List.mem_cons_self))).1
    have e1 : ExtN H1 H' := ext.trans (ExtN.of sm)
    refine wpAny_call (codeAny_mono (lam_run (F := ⟨"<lambda>", X.env.qual ++ "<lambda>", params, [], scope, [], c'⟩) (N := [y]) (ps := [y]) (us := [v]) (vs := [x]) (k := k) (E := E0) (pm := pm) (ctv := ctv) S rfl (hbind _ _ _ _ _ v) hr.in1.in1 I'.env0.in1.in1 hf' (sm _ _ hc) (.cons rv .nil) rfl
      ⟨tb, hbody _ _ _ _ _ _ _, hkey x hxm H' e1⟩) fun r s'' hq => ?_)
    cases r with
    | error er => exact (show False from hq).elim
    | ok fl =>
      cases fl with
      | ret u =>
        obtain ⟨y', H'', I'', ry, sm', t', rfl, ht⟩ := I'.after hq
        exact ⟨H'', I'', sm', t', ry, ht⟩
      | next => exact False.elim hq
      | brk => exact False.elim hq
      | cont => exact False.elim hq
  · have e1 : ExtN H1 (upd H' D (.lst ys)) := ext.trans (ExtN.of fun b o e => by
      have e2 := sm b o e
      rw [upd_ne (ne_of_none e2 nD)]
      exact e2)
    exact ⟨.ref D, _, pin_drop J, rfl, hend ys D _ e1 py so upd_same⟩
end KSL
/-! The text by places, and what every def's proof needs. -/
namespace K38
open PySem PySem.Spec PyProof.Rows L2
def topS (i : Nat) : Stmt := PySem.Challenge.pw_dividedseats_k38_whole_telling_votes.main.body.getD i (.Pass ⟨0, 0, 0, 0⟩)
abbrev sWhole : Stmt := topS 6
abbrev sMethod : Stmt := topS 7
abbrev sDivAt : Stmt := topS 8
abbrev sDivsTo : Stmt := topS 9
abbrev sCheckM : Stmt := topS 10
abbrev sCheckB : Stmt := topS 13
abbrev sSpan : Stmt := topS 14
abbrev sPairs : Stmt := topS 15
abbrev sCount : Stmt := topS 16
abbrev sPairC : Stmt := topS 17
abbrev sSimplest : Stmt := topS 18
abbrev sVotes : Stmt := topS 19
abbrev sRatios : Stmt := topS 20
abbrev sDiffer : Stmt := topS 21
abbrev sTelling : Stmt := topS 22
abbrev sQuestion : Stmt := topS 23
abbrev sFair : Stmt := topS 24
abbrev sDivisions : Stmt := topS 25
abbrev sAccepts : Stmt := topS 26
abbrev lStream : Stmt := topS 28
abbrev lNext : Stmt := topS 29
abbrev lMethod : Stmt := topS 31
abbrev lDivs : Stmt := topS 32
abbrev lAlike : Stmt := topS 33
abbrev lFair : Stmt := topS 34
abbrev lDivisions : Stmt := topS 35
abbrev lTwo : Stmt := topS 36
abbrev lSpan : Stmt := topS 37
abbrev lPairs : Stmt := topS 38
abbrev lSimplest : Stmt := topS 39
abbrev sLaw : Stmt := topS 40

/-- a def of the text as it stands behind the top -/
def Def (K : PySem.W.Frag) (mg : Str → Option Value) (x : Str) (st : Stmt) : Prop := ∃ (f : Addr) (fd : FuncData), Fun K x x st f fd ∧ mg x = some (.ref f)
/-- a def that keeps a promise, to be called by its name -/
def Cal (P : Program) (w : World) (K : PySem.W.Frag) (mg : Str → Option Value) (base : Heap) (k : Nat) (x : Str) (ps : List Str) (sp : Sp) : Prop :=
  ∃ (f : Addr) (fd : FuncData), FnOk P w K mg base CX0 k f fd ps sp ∧ mg x = some (.ref f) ∧ PySem.W.keepIn K (.ref f) = true ∧ Binds K fd ps []
section
variable {P : Program} {w : World} {K : PySem.W.Frag} {mg : Str → Option Value} {base : Heap}
theorem Cal.mono {j k : Nat} {x : Str} {ps : List Str} {sp : Sp} (C : Cal P w K mg base j x ps sp) (h : j ≤ k) : Cal P w K mg base k x ps sp := by
  obtain ⟨f, fd, F, r⟩ := C
  exact ⟨f, fd, F.mono h, r⟩
theorem cal_of {x : Str} {st : Stmt} {N ps : List Str} {k : Nat} {sp : Sp} (D : Def K mg x st) (S : FnScope N ps (defScope st))
    (hb : ∀ (kV doc pm : Value) (an : Option Addr) (cdv ct : Value) (us : List Value), us.length = ps.length → bindArgs (PySem.W.fnOf x x (defArgs st) (defBody st) (defScope st) .none kV doc pm an cdv ct) ⟨us, []⟩ = pure (ps.zip us))
    (len : ∀ vs H Q E, sp vs H Q E → vs.length = ps.length)
    (hbody : ∀ (f : Addr) (cdv : Value) (A : Around) (outer : List Env) (s : Shared) (H : Hp) (vs : List V) (Q : VK) (E : XK), Room k (A.deeper (envOfC x (defScope st) s.heap.objs.size f cdv)) → sp vs H Q E →
      ∃ t, PSs (cxOf CX0 P w K mg base N x (defScope st) f cdv A outer s H E).nox (defBody st) t ∧ t { nx := fun _ H' => Q .non H', rt := Q } (L2.start N vs) H) : Cal P w K mg base (k + 1) x ps sp := by
  obtain ⟨f, fd, F, m⟩ := D
  exact ⟨f, fd, F.ok S len (fun cdv A outer s H vs Q E hr h => hbody f cdv A outer s H vs Q E hr h), m, F.kp, F.binds hb⟩
end
section
variable {X : Cx} {k : Nat} {x : Str} {ps : List Str} {sp : Sp} {e : PySem.Expr} {es : List PySem.Expr} {t : TA} {p pos : Pos}
theorem pe_cal (C : Cal X.prog X.w X.K X.mg X.base k x ps sp) (hr : Room k X.A) (ha : PA X (e :: es) t) (hg : Gl X x := by rfl) (hdb : (x == ("__debug__" : Str)) = false := by decide)
    (he : starEach (e :: es) X.env = (false, eval e X.env) :: starEach es X.env := by rfl) (hpl : (backTo pos (starEach es X.env)).any (·.1) = false := by rfl) : PE X (.Call (.Name x p) (e :: es) [] pos) (tCall sp [] E0 t) := by
  obtain ⟨f, fd, F, m, kp, b⟩ := C
  exact pe_call F hr hg m kp b .nil pass0 ha hdb he hpl
end
/-- the built-in names that are not shadowed -/
structure Blt (mg : Str → Option Value) : Prop where
  isinstance : mg "isinstance" = none
  tuple : mg "tuple" = none
  len : mg "len" = none
  all : mg "all" = none
  any : mg "any" = none
  range : mg "range" = none
  list : mg "list" = none
  int : mg "int" = none
  bool : mg "bool" = none
  max : mg "max" = none
  abs : mg "abs" = none
  sorted : mg "sorted" = none

/-! ### heaps -/
theorem same_upd {H : Hp} {p : Addr} {o : HO} (h : H p = none) : Same H (upd H p o) := fun b x e => by
  rw [upd_ne (ne_of_none e h)]
  exact e
/-- the method (fs, st) at m -/
def Meth (H : Hp) (m : Addr) (fs : List Int) (st : Int) : Prop := ∃ t, H m = some (.tup [.ref t, .int st]) ∧ H t = some (.tup (fs.map V.int))
theorem Meth.same {H H' : Hp} {m : Addr} {fs : List Int} {st : Int} (h : Meth H m fs st) (s : Same H H') : Meth H' m fs st := by
  obtain ⟨t, a, b⟩ := h
  exact ⟨t, s _ _ a, s _ _ b⟩
theorem Meth.ext {H H' : Hp} {m : Addr} {fs : List Int} {st : Int} (h : Meth H m fs st) (s : LamX.ExtN H H') : Meth H' m fs st := by
  obtain ⟨t, a, b⟩ := h
  exact ⟨t, s _ _ a (fun ps z => by cases z), s _ _ b (fun ps z => by cases z)⟩
/-- pairs of ints, one behind another -/
structure PairsAt (H : Hp) (ts : List Addr) (ps : List (Nat × Nat)) : Prop where
  len : ts.length = ps.length
  at_ : ∀ (i : Nat) (t : Addr) (q : Nat × Nat), ts[i]? = some t → ps[i]? = some q → H t = some (.tup [.int q.1, .int q.2])
theorem PairsAt.ext {H H' : Hp} {ts : List Addr} {ps : List (Nat × Nat)} (h : PairsAt H ts ps) (s : LamX.ExtN H H') : PairsAt H' ts ps := ⟨h.len, fun i t q a b => s _ _ (h.at_ i t q a b) fun ps z => by cases z⟩
theorem PairsAt.same {H H' : Hp} {ts : List Addr} {ps : List (Nat × Nat)} (h : PairsAt H ts ps) (s : Same H H') : PairsAt H' ts ps := h.ext (LamX.ExtN.of s)
theorem same_set {H H' : Hp} {p : Addr} {o : HO} (h : H p = none) (s : Same H H') : Same H (upd H' p o) := fun b x e => by
  rw [upd_ne (ne_of_none e h)]
  exact s b x e
/-- the module's constants -/
structure Con (mg : Str → Option Value) : Prop where
  firsts : ∃ t, mg "MOST_FIRSTS" = some (.int 6 t)
  divisor : ∃ t, mg "MOST_DIVISOR" = some (.int 1000 t)
  house : ∃ t, mg "MOST_HOUSE" = some (.int 100 t)
theorem kInt {K : PySem.W.Frag} : PySem.W.kitOne K (.type "int") (.type "int") = some true := kit_ty (by decide +kernel)
theorem kBool {K : PySem.W.Frag} : PySem.W.kitOne K (.type "int") (.type "bool") = some false := kit_ty (by decide +kernel)
theorem kTup {K : PySem.W.Frag} : PySem.W.kitOne K (.type "tuple") (.type "tuple") = some true := kit_ty (by decide +kernel)
/-! ### rules whose reading names the written part itself (for a comprehension's block) -/
theorem ixT {X : Cx} {K : PySem.W.Frag} (h : X.K = K := by rfl) : IxR X (rIxT K) := by
  subst h
  exact ix_tup
theorem ixL {X : Cx} {K : PySem.W.Frag} (h : X.K = K := by rfl) : IxR X (rIxL K) := by
  subst h
  exact ix_list
theorem opIn {X : Cx} {K : PySem.W.Frag} (h : X.K = K := by rfl) : OpR X (compareOp .In) (rIn K false) := by
  subst h
  exact op_in_seq
theorem of_ints {ns : List Int} {i : Nat} {x : V} (h : (ns.map V.int)[i]? = some x) : ∃ z, ns[i]? = some z ∧ x = .int z := by
  rw [List.getElem?_map] at h
  obtain ⟨z, hz, e⟩ := Option.map_eq_some_iff.mp h
  exact ⟨z, hz, e.symm⟩
theorem ints_get {ns : List Int} {i : Nat} {z : Int} (h : ns[i]? = some z) : (ns.map V.int)[i]? = some (.int z) := by
  rw [List.getElem?_map, h]
  rfl
theorem ints_len (ns : List Int) : (ns.map V.int).length = ns.length := List.length_map _
theorem at_int {ns : List Int} {i : Nat} {z : Int} (h : ns[i]? = some z) : atI (ns.map V.int) (i : Int) = some (.int z) := atI_nat (ints_get h)
end K38
namespace Seat
/-! ### all pairs, and the one order of them -/
def row (n i : Nat) : List (Nat × Nat) := (List.range n).map fun j => (i, j)
def full (n : Nat) : List (Nat × Nat) := (List.range n).flatMap (row n)
/-- i rows and j pairs of the next one -/
def part (n i j : Nat) : List (Nat × Nat) := (List.range i).flatMap (row n) ++ (List.range j).map fun k => (i, k)
theorem part_step (n i j : Nat) : part n i (j + 1) = part n i j ++ [(i, j)] := by
  unfold part
  rw [List.range_succ, List.map_append, List.append_assoc]
  rfl
theorem part_row (n i : Nat) : part n i n = part n (i + 1) 0 := by
  unfold part
  rw [List.range_succ, List.flatMap_append]
  simp [row]
theorem part_full (n : Nat) : part n n 0 = full n := by
  unfold part full
  simp
theorem row_length (n i : Nat) : (row n i).length = n := by simp [row]
theorem part_length (n i j : Nat) : (part n i j).length = i * n + j := by
  induction i with
  | zero => simp [part]
  | succ i ih =>
    have a : (part n (i + 1) j).length = ((List.range (i + 1)).flatMap (row n)).length + j := by simp [part]
    have b : (part n i j).length = ((List.range i).flatMap (row n)).length + j := by simp [part]
    rw [a, List.range_succ, List.flatMap_append, List.length_append]
    have c : ([i].flatMap (row n)).length = n := by simp [row]
    rw [c, Nat.add_mul]
    omega
theorem part_le {n i j : Nat} (hi : i < n) (hj : j ≤ n) : (part n i j).length ≤ (full n).length := by
  rw [← part_full, part_length, part_length]
  have h : (i + 1) * n ≤ n * n := Nat.mul_le_mul_right n hi
  rw [Nat.add_mul] at h
  omega
theorem part_nil (n : Nat) : part n 0 0 = [] := rfl
def leP (p q : Nat × Nat) : Prop := p.1 + p.2 < q.1 + q.2 ∨ (p.1 + p.2 = q.1 + q.2 ∧ p.1 ≤ q.1)
instance (p q : Nat × Nat) : Decidable (leP p q) := by
  unfold leP
  exact inferInstance
theorem leP_anti {p q : Nat × Nat} (h1 : leP p q) (h2 : leP q p) : p = q := by
  unfold leP at h1 h2
  obtain ⟨a, b⟩ := p
  obtain ⟨c, d⟩ := q
  have h1 : a + b < c + d ∨ (a + b = c + d ∧ a ≤ c) := h1
  have h2 : c + d < a + b ∨ (c + d = a + b ∧ c ≤ a) := h2
  have e1 : a = c := by omega
  have e2 : b = d := by omega
  rw [e1, e2]
theorem sizes {n : Nat} (h1 : 2 ≤ n) (h2 : n ≤ 6) : n = 2 ∨ n = 3 ∨ n = 4 ∨ n = 5 ∨ n = 6 := by omega
theorem prs_perm {n : Nat} (h1 : 2 ≤ n) (h2 : n ≤ 6) : (prs n).Perm (full n) := by
  rcases sizes h1 h2 with rfl | rfl | rfl | rfl | rfl <;> decide +kernel
theorem prs_sorted {n : Nat} (h1 : 2 ≤ n) (h2 : n ≤ 6) : (prs n).Pairwise leP := by
  rcases sizes h1 h2 with rfl | rfl | rfl | rfl | rfl <;> decide +kernel
theorem full_length {n : Nat} (h1 : 2 ≤ n) (h2 : n ≤ 6) : 2 ≤ (full n).length ∧ (full n).length < 64 := by
  rcases sizes h1 h2 with rfl | rfl | rfl | rfl | rfl <;> decide +kernel
theorem uniq {l : List (Nat × Nat)} {n : Nat} (h1 : 2 ≤ n) (h2 : n ≤ 6) (p : l.Perm (full n)) (s : l.Pairwise leP) : l = prs n :=
  (p.trans (prs_perm h1 h2).symm).eq_of_pairwise (fun _ _ _ _ a b => leP_anti a b) s (prs_sorted h1 h2)
/-! ### the first differing pair -/
theorem find_at {α : Type} {p : α → Bool} {q : α} : ∀ {l : List α} {i : Nat}, l[i]? = some q → (∀ z ∈ l.take i, p z = false) → p q = true → l.find? p = some q
  | [], i, h, _, _ => by simp at h
  | x :: l, 0, h, _, hq => by
    have e : x = q := Option.some.inj h
    rw [e, List.find?_cons_of_pos hq]
  | x :: l, i + 1, h, hz, hq => by
    have hx : p x = false := hz x (by rw [List.take_succ_cons]; exact List.mem_cons_self)
    rw [List.find?_cons_of_neg (by rw [hx]; decide)]
    exact find_at (l := l) (i := i) h (fun z m => hz z (by rw [List.take_succ_cons]; exact List.mem_cons_of_mem _ m)) hq
theorem take_snoc {α : Type} {p : α → Bool} {q : α} {l : List α} {i : Nat} (h : l[i]? = some q) (hz : ∀ z ∈ l.take i, p z = false) (hq : p q = false) : ∀ z ∈ l.take (i + 1), p z = false := fun z m => by
  rw [List.take_add_one, h] at m
  rcases List.mem_append.mp m with m | m
  · exact hz z m
  · have e : z = q := List.mem_singleton.mp m
    rw [e]
    exact hq
theorem find_none {α : Type} {p : α → Bool} {l : List α} (hz : ∀ z ∈ l.take l.length, p z = false) : l.find? p = none := by
  rw [List.take_length] at hz
  exact List.find?_eq_none.mpr fun z m => by rw [hz z m]; decide
def first (fs gs : List Int) (st tt : Int) : Option (Nat × Nat) := (prs (span fs gs)).find? (differs (dv fs st) (dv gs tt))
theorem Two.span_le {fs gs : List Int} {st tt : Int} (T : Two fs st gs tt) : 2 ≤ span fs gs ∧ span fs gs ≤ 6 := by
  have a := T.one.ne
  have b := T.l1
  have c := T.l2
  unfold span
  omega
/-- what is known at the first differing pair -/
structure Apart (fs gs : List Int) (st tt : Int) (q : Nat × Nat) : Prop where
  i4 : q.1 ≤ 4
  j4 : q.2 ≤ 4
  a1 : 1 ≤ dv fs st q.1 ∧ dv fs st q.1 ≤ 260
  b1 : 1 ≤ dv fs st q.2 ∧ dv fs st q.2 ≤ 260
  c1 : 1 ≤ dv gs tt q.1 ∧ dv gs tt q.1 ≤ 260
  d1 : 1 ≤ dv gs tt q.2 ∧ dv gs tt q.2 ≤ 260
  ne : dv fs st q.1 * dv gs tt q.2 ≠ dv gs tt q.1 * dv fs st q.2
theorem first_apart {fs gs : List Int} {st tt : Int} {q : Nat × Nat} (T : Two fs st gs tt) (h : first fs gs st tt = some q) : Apart fs gs st tt q := by
  have hm : q ∈ prs (span fs gs) := List.mem_of_find?_eq_some h
  have hd : differs (dv fs st) (dv gs tt) q = true := List.find?_some h
  have ne : dv fs st q.1 * dv gs tt q.2 ≠ dv gs tt q.1 * dv fs st q.2 := by
    unfold differs at hd
    exact of_decide_eq_true hd
  obtain ⟨m1, m2⟩ := of_mem_prs hm
  rcases T.way with ⟨s1, s2⟩ | ⟨k, hk⟩
  · have l1 := s1.len
    have l2 := s2.len
    have i4 : q.1 ≤ 4 := by unfold span at m1; omega
    have j4 : q.2 ≤ 4 := by unfold span at m2; omega
    exact ⟨i4, j4, ⟨T.one.pos _, s1.upper T.one (by omega)⟩, ⟨T.one.pos _, s1.upper T.one (by omega)⟩, ⟨T.two.pos _, s2.upper T.two (by omega)⟩, ⟨T.two.pos _, s2.upper T.two (by omega)⟩, ne⟩
  · exfalso
    apply ne
    rw [hk, hk]
    grind
/-- the simplest ratio between two, whichever is the lesser one -/
def vote (a b c d : Int) : Int × Int := if a * d < c * b then simp_ 19 a b c d else simp_ 19 c d a b
structure Sides (a b c d : Int) : Prop where
  a0 : 0 < a
  a9 : a < 512
  b0 : 0 < b
  b9 : b < 512
  c0 : 0 < c
  c9 : c < 512
  d0 : 0 < d
  d9 : d < 512
  ne : a * d ≠ c * b
theorem Apart.sides {fs gs : List Int} {st tt : Int} {q : Nat × Nat} (A : Apart fs gs st tt q) : Sides (dv fs st q.1) (dv fs st q.2) (dv gs tt q.1) (dv gs tt q.2) := by
  obtain ⟨_, _, a, b, c, d, ne⟩ := A
  exact ⟨by omega, by omega, by omega, by omega, by omega, by omega, by omega, by omega, ne⟩
theorem Sides.up {a b c d : Int} (s : Sides a b c d) (h : a * d < c * b) : Ival a b c d ∧ Deep 19 a b c d := by
  have i : Ival a b c d := ⟨s.a0, s.b0, s.c0, s.d0, h⟩
  exact ⟨i, deep_of 9 i s.d9⟩
theorem Sides.down {a b c d : Int} (s : Sides a b c d) (h : ¬ a * d < c * b) : Ival c d a b ∧ Deep 19 c d a b := by
  have ne := s.ne
  have i : Ival c d a b := ⟨s.c0, s.d0, s.a0, s.b0, by omega⟩
  exact ⟨i, deep_of 9 i s.b9⟩
theorem simp_deep {n : Nat} {a b c d : Int} (h1 : ¬ (a / b + 1) * d < c) (h2 : ¬ a = a / b * b) :
    simp_ (n + 1) a b c d = (a / b * (simp_ n d (c - a / b * d) b (a - a / b * b)).1 + (simp_ n d (c - a / b * d) b (a - a / b * b)).2, (simp_ n d (c - a / b * d) b (a - a / b * b)).1) := by
  rw [simp_, if_neg h1, if_neg h2]
end Seat
namespace K38
open PySem PySem.Spec PyProof.Rows L2 Seat
section
variable {P : Program} {w : World} {K : PySem.W.Frag} {mg : Str → Option Value} {base : Heap}
/-! ### is_whole -/
theorem scWhole : FnScope ["value", "low", "high"] ["value", "low", "high"] (defScope sWhole) := ⟨rfl, rfl, rfl, by decide +kernel, rfl, by decide +kernel, by decide +kernel⟩
def spWhole : Sp := fun vs H Q _ => ∃ v lo hi : Int, vs = [.int v, .int lo, .int hi] ∧ lo ≤ v ∧ v ≤ hi ∧ Q (.bl true) H
theorem ok_whole (D : Def K mg "is_whole" sWhole) (B : Blt mg) : Cal P w K mg base 1 "is_whole" ["value", "low", "high"] spWhole := by
  refine cal_of D scWhole (fun _ _ _ _ _ _ us hl => match us, hl with | [_, _, _], _ => rfl) (fun vs H Q E h => ?_) (fun f cdv A outer s H vs Q E hr h => ?_)
  · obtain ⟨v, lo, hi, rfl, _⟩ := h
    rfl
  · obtain ⟨v, lo, hi, rfl, h1, h2, q⟩ := h
    refine ⟨_, pss_one (ps_ret (pe_and (pe_callB call_isi (by rfl) B.isinstance (by decide +kernel) (pa_cons (pv 0) (pa_cons (pe_bltn (v := .ty "int") (by rfl) B.int (by decide +kernel) rfl) pa_nil)))
      (pe_and (pe_not (pe_callB call_isi (by rfl) B.isinstance (by decide +kernel) (pa_cons (pv 0) (pa_cons (pe_bltn (v := .ty "bool") (by rfl) B.bool (by decide +kernel) rfl) pa_nil))))
        (pe_one (pe_chain op_le op_le (pv 1) (pv 0) (pv 2)))))), ?_⟩
    refine ⟨_, rfl, _, _, _, _, true, rfl, .ty _, .base (.int v), kInt, true, rfl, iteT ?_⟩
    refine ⟨_, rfl, _, _, _, _, false, rfl, .ty _, .base (.int v), kBool, false, rfl, true, rfl, iteT ?_⟩
    refine ⟨_, rfl, _, rfl, lo, v, rfl, rfl, _, rfl, ite2 (fun _ => ?_) (fun c => absurd (decide_eq_true h1) c)⟩
    refine ⟨_, rfl, v, hi, rfl, rfl, ?_⟩
    show Q (.bl (decide (v ≤ hi))) H
    rw [decide_eq_true h2]
    exact q
/-! ### is_method -/
theorem scMethod : FnScope ["value", "one", "at"] ["value"] (defScope sMethod) := ⟨rfl, rfl, rfl, by decide +kernel, rfl, by decide +kernel, by decide +kernel⟩
def spMethod : Sp := fun vs H Q _ => ∃ (m : Addr) (fs : List Int) (st : Int), vs = [.ref m] ∧ Meth H m fs st ∧ Good fs st ∧ ∀ H', Same H H' → Q (.bl true) H'
theorem ok_method (D : Def K mg "is_method" sMethod) (B : Blt mg) (M : Con mg) (W : Cal P w K mg base 1 "is_whole" ["value", "low", "high"] spWhole) : Cal P w K mg base 2 "is_method" ["value"] spMethod := by
  obtain ⟨td, hdv⟩ := M.divisor
  obtain ⟨tf, hfs⟩ := M.firsts
  refine cal_of D scMethod (fun _ _ _ _ _ _ us hl => match us, hl with | [_], _ => rfl) (fun vs H Q E h => ?_) (fun f cdv A outer s H vs Q E hr h => ?_)
  · obtain ⟨m, fs, st, rfl, _⟩ := h
    rfl
  · obtain ⟨m, fs, st, rfl, ⟨t, hm, ht⟩, g, q⟩ := h
    refine ⟨_, pss_cons (ps_if (PW.pt (pw_or (pt_not (pt_val (pe_callB call_isi (by rfl) B.isinstance (by decide +kernel) (pa_cons (pv 0) (pa_cons (pe_bltn (v := .ty "tuple") (by rfl) B.tuple (by decide +kernel) rfl) pa_nil)))))
        (pw_or (pt_cmpR op_ne (pe_callB call_len_seq (by rfl) B.len PySem.boot_len (pa_cons (pv 0) pa_nil)) pe_int (nomark _))
          (pw_or1 (pt_not (pt_val (pe_cal W hr (pa_cons (pe_ix ix_tup (pv 0) pe_int (fun _ _ => rfl)) (pa_cons pe_int (pa_cons (pe_glob (v := .int 1000) (by rfl) hdv ⟨_, rfl⟩) pa_nil)))))))))) (pss_one (ps_ret pe_bl)) pss_nil)
      (pss_cons (ps_if (PW.pt (pw_or (pt_not (pt_val (pe_callB call_isi (by rfl) B.isinstance (by decide +kernel) (pa_cons (pe_ix ix_tup (pv 0) pe_int (fun _ _ => rfl)) (pa_cons (pe_bltn (v := .ty "tuple") (by rfl) B.tuple (by decide +kernel) rfl) pa_nil)))))
          (pw_or1 (pt_not (pt_chain op_le op_le pe_int (pe_callB call_len_seq (by rfl) B.len PySem.boot_len (pa_cons (pe_ix ix_tup (pv 0) pe_int (fun _ _ => rfl)) pa_nil)) (pe_glob (v := .int 6) (by rfl) hfs ⟨_, rfl⟩)))))) (pss_one (ps_ret pe_bl)) pss_nil)
      (pss_cons (ps_if (pt_not (pt_val (pe_callB (cr_all rfl) (by rfl) B.all (by decide +kernel) (pa_cons (pe_lc (own := [("one", 1)]) (g := gName 1) (tt := tYes) rfl scMethod.nd (pi_tup (pe_ix ix_tup (pv 0) pe_int (fun _ _ => rfl))) (blkOk_by (own := [("one", 1)]) (N := ["value", "one", "at"]) (sc := defScope sMethod) (by decide +kernel))
          (fun _ _ _ _ _ => pg_name (i := 1) scMethod.nd rfl (Or.inl rfl)) (fun _ _ _ _ _ => pts_nil) (fun _ _ _ _ _ => pe_cal W hr (pa_cons (pv 1) (pa_cons pe_int (pa_cons (pe_glob (v := .int 1000) (by rfl) hdv ⟨_, rfl⟩) pa_nil))))) pa_nil)))) (pss_one (ps_ret pe_bl)) pss_nil)
      (pss_one (ps_ret (pe_callB (cr_all rfl) (by rfl) B.all (by decide +kernel) (pa_cons (pe_lc (own := [("at", 2)]) (g := gName 2) (tt := tYes) rfl scMethod.nd (pi_range1 (by rfl) B.range (pa_cons (pe_op op_sub (pe_callB call_len_seq (by rfl) B.len PySem.boot_len (pa_cons (pe_ix ix_tup (pv 0) pe_int (fun _ _ => rfl)) pa_nil)) pe_int) pa_nil)) (blkOk_by (own := [("at", 2)]) (N := ["value", "one", "at"]) (sc := defScope sMethod) (by decide +kernel))
          (fun _ _ _ _ _ => pg_name (i := 2) scMethod.nd rfl (Or.inl rfl)) (fun _ _ _ _ _ => pts_nil) (fun _ _ _ _ _ => pe_cmpR op_le (pe_ix (ixT (K := K)) (pe_ix (ixT (K := K)) (pv 0) pe_int (fun _ _ => rfl)) (pv 2) (fun _ _ => rfl)) (pe_ix (ixT (K := K)) (pe_ix (ixT (K := K)) (pv 0) pe_int (fun _ _ => rfl)) (pe_op op_add (pv 2) pe_int) (fun _ _ => rfl)) (nomark _))) pa_nil)))))), ?_⟩
    have hS : SqT K H m [.ref t, .int st] := .of hm
    have hT : SqT K H t (fs.map V.int) := .of ht
    have at0 : atI [V.ref t, V.int st] 0 = some (.ref t) := rfl
    have at1 : atI [V.ref t, V.int st] 1 = some (.int st) := rfl
    have g1 := g.st1
    have g2 := g.st2
    -- not a tuple, not two, no step
    refine ⟨_, rfl, _, _, _, _, true, rfl, .ty _, .base (.tup hm), kTup, true, rfl, iteF ?_⟩
    refine ⟨_, rfl, m, _, rfl, .inr hS, rfl, _, rfl, iteF ?_⟩
    refine ⟨_, rfl, m, _, 1, _, rfl, rfl, hS, at1, st, 1, 1000, rfl, g1, g2, true, rfl, iteF ?_⟩
    -- no firsts
    refine ⟨_, rfl, m, _, 0, _, rfl, rfl, hS, at0, _, _, _, _, true, rfl, .ty _, .base (.tup ht), kTup, true, rfl, iteF ?_⟩
    have hl : (fs.map V.int).length = fs.length := ints_len fs
    have n1 := g.ne
    have n6 := g.le
    refine ⟨_, rfl, m, _, 0, _, rfl, rfl, hS, at0, t, _, rfl, .inr hT, 1, _, rfl, rfl, _, rfl, ite2 (fun _ => ?_) (fun c => absurd (decide_eq_true (show (1 : Int) ≤ ((fs.map V.int).length : Nat) by rw [hl]; omega)) c)⟩
    refine ⟨_, 6, rfl, rfl, _, rfl, ?_⟩
    rw [decide_eq_true (show (((fs.map V.int).length : Nat) : Int) ≤ 6 by rw [hl]; omega)]
    refine iteF ?_
    -- every first
    refine ⟨_, rfl, m, _, 0, _, rfl, rfl, hS, at0, t, rfl, ⟨_, hT⟩, fun D hD => lc_tup (K := K) (a := t) (xs := fs.map V.int) (fun i H' => Same H H' ∧ ∃ bs : List Bool, H' D = some (.lst (bs.map V.bl)) ∧ bs.all id = true ∧ bs.length ≤ i)
      ⟨same_upd hD, [], upd_same, rfl, Nat.le_refl _⟩ (fun i H' _ h => .of (h.1 _ _ ht)) (fun i x H' hx h => ?_) (fun H' h => ?_)⟩
    · obtain ⟨z, hz, rfl⟩ := of_ints hx
      obtain ⟨sm, bs, e1, e2, e3⟩ := h
      have hi : i < fs.length := (List.getElem?_eq_some_iff.mp hz).1
      have rz := g.rng i hi
      rw [List.getD_eq_getElem?_getD, hz] at rz
      have rz : 1 ≤ z ∧ z ≤ 1000 := rz
      refine ⟨rfl, ?_⟩
      refine ⟨_, rfl, z, 1, 1000, rfl, rz.1, rz.2, _, e1, ?_, same_set hD sm, bs ++ [true], ?_, ?_, ?_⟩
      · rw [List.length_map]
        exact small1000 (by omega)
      · rw [upd_same, List.map_append]
        rfl
      · rw [List.all_append, e2]
        rfl
      · rw [List.length_append]
        show bs.length + 1 ≤ i + 1
        omega
    · obtain ⟨sm, bs, e1, e2, e3⟩ := h
      refine ⟨D, bs, rfl, .of e1, _, rfl, ?_⟩
      rw [e2]
      refine iteF ?_
      -- they ascend
      have hS' : SqT K H' m [.ref t, .int st] := .of (sm _ _ hm)
      have hT' : SqT K H' t (fs.map V.int) := .of (sm _ _ ht)
      refine ⟨_, rfl, m, _, 0, _, rfl, rfl, hS', at0, t, _, rfl, .inr hT', _, 1, rfl, rfl, _, rfl, ?_, ?_, fun D2 hD2 => ?_⟩
      · rw [hl]
        omega
      · rw [hl]
        omega
      · have en : (((fs.map V.int).length : Nat) : Int) - 1 = ((fs.length - 1 : Nat) : Int) := by rw [hl]; omega
        rw [en, Int.toNat_natCast]
        refine lc_range (lo := 0) (n := fs.length - 1) (fun i H2 => Same H' H2 ∧ ∃ bs : List Bool, H2 D2 = some (.lst (bs.map V.bl)) ∧ bs.all id = true ∧ bs.length ≤ i)
          ⟨same_upd hD2, [], upd_same, rfl, Nat.le_refl _⟩ (fun i H2 hi h => ?_) (fun H2 h => ?_)
        · obtain ⟨sm2, bs2, f1, f2, f3⟩ := h
          have a1 : fs[i]? = some (fs.getD i 0) := by
            rw [List.getD_eq_getElem?_getD, List.getElem?_eq_getElem (by omega)]
            rfl
          have a2 : fs[i + 1]? = some (fs.getD (i + 1) 0) := by
            rw [List.getD_eq_getElem?_getD, List.getElem?_eq_getElem (by omega)]
            rfl
          have hS2 : SqT K H2 m [.ref t, .int st] := .of (sm2 _ _ (sm _ _ hm))
          have hT2 : SqT K H2 t (fs.map V.int) := .of (sm2 _ _ (sm _ _ ht))
          have as := g.asc i (by omega)
          refine ⟨rfl, ?_⟩
          refine ⟨_, rfl, m, _, 0, _, rfl, rfl, hS2, at0, _, rfl, t, _, (0 : Int) + i, _, rfl, rfl, hT2, at_of (j := i) (by omega) (ints_get a1), ?_⟩
          refine ⟨_, rfl, m, _, 0, _, rfl, rfl, hS2, at0, _, rfl, (0 : Int) + i, 1, rfl, rfl, t, _, (0 : Int) + i + 1, _, rfl, rfl, hT2, at_of (j := i + 1) (by omega) (ints_get a2), _, _, rfl, rfl, ?_⟩
          refine ⟨_, f1, ?_, same_set hD2 sm2, bs2 ++ [decide (fs.getD i 0 ≤ fs.getD (i + 1) 0)], ?_, ?_, ?_⟩
          · rw [List.length_map]
            exact small1000 (by omega)
          · rw [upd_same, List.map_append]
            rfl
          · rw [decide_eq_true as, List.all_append, f2]
            rfl
          · rw [List.length_append]
            show bs2.length + 1 ≤ i + 1
            omega
        · obtain ⟨sm2, bs2, f1, f2, f3⟩ := h
          refine ⟨D2, bs2, rfl, .of f1, ?_⟩
          rw [f2]
          exact q H2 (sm.trans sm2)
end
end K38
namespace K38
open PySem PySem.Spec PyProof.Rows L2 Seat
theorem last_int {fs : List Int} (h : 1 ≤ fs.length) : atI (fs.map V.int) (-1) = some (.int (fs.getLastD 0)) := by
  have e : fs = fs.dropLast ++ [fs.getLastD 0] := by
    cases fs with
    | nil => simp at h
    | cons x r =>
      rw [List.getLastD_cons, ← List.getLast_eq_getLastD (List.cons_ne_nil x r)]
      exact (List.dropLast_concat_getLast (List.cons_ne_nil x r)).symm
  have q : atI ((fs.dropLast).map V.int ++ [V.int (fs.getLastD 0)]) (-1) = some (.int (fs.getLastD 0)) := atI_last _ _
  rw [show (fs.dropLast).map V.int ++ [V.int (fs.getLastD 0)] = (fs.dropLast ++ [fs.getLastD 0]).map V.int by rw [List.map_append]; rfl, ← e] at q
  exact q
section
variable {P : Program} {w : World} {K : PySem.W.Frag} {mg : Str → Option Value} {base : Heap}
/-! ### divisor_at -/
theorem scDivAt : FnScope ["method", "index", "firsts", "step"] ["method", "index"] (defScope sDivAt) := ⟨rfl, rfl, rfl, by decide +kernel, rfl, by decide +kernel, by decide +kernel⟩
def spDivAt : Sp := fun vs H Q _ => ∃ (m : Addr) (fs : List Int) (st : Int) (i : Nat), vs = [.ref m, .int i] ∧ Meth H m fs st ∧ Good fs st ∧ Q (.int (dv fs st i)) H
theorem ok_divAt (D : Def K mg "divisor_at" sDivAt) (B : Blt mg) : Cal P w K mg base 1 "divisor_at" ["method", "index"] spDivAt := by
  refine cal_of D scDivAt (fun _ _ _ _ _ _ us hl => match us, hl with | [_, _], _ => rfl) (fun vs H Q E h => ?_) (fun f cdv A outer s H vs Q E hr h => ?_)
  · obtain ⟨m, fs, st, i, rfl, _⟩ := h
    rfl
  · obtain ⟨m, fs, st, i, rfl, ⟨t, hm, ht⟩, g, q⟩ := h
    refine ⟨_, pss_cons (ps_asg (pv 0) (pg_tup (by rfl) (pgs_cons (pg_name (i := 2) scDivAt.nd rfl (.inl rfl)) (pgs_cons (pg_name (i := 3) scDivAt.nd rfl (.inl rfl)) pgs_nil))))
      (pss_cons (ps_if (pt_cmpR op_lt (pv 1) (pe_callB call_len_seq (by rfl) B.len PySem.boot_len (pa_cons (pv 2) pa_nil)) (nomark _)) (pss_one (ps_ret (pe_ix ix_tup (pv 2) (pv 1) (fun _ _ => rfl)))) pss_nil)
      (pss_one (ps_ret (pe_op op_add (pe_ix ix_tup (pv 2) (pe_un un_neg pe_int) (fun _ _ => rfl)) (pe_op op_mul (pv 3) (pe_op op_sub (pe_op op_add (pv 1) pe_int) (pe_callB call_len_seq (by rfl) B.len PySem.boot_len (pa_cons (pv 2) pa_nil)))))))), ?_⟩
    have hS : SqT K H m [.ref t, .int st] := .of hm
    have hT : SqT K H t (fs.map V.int) := .of ht
    have hl : (fs.map V.int).length = fs.length := ints_len fs
    refine ⟨_, rfl, m, _, rfl, hS, rfl, .ref t, [.int st], rfl, .int st, [], rfl, rfl, ?_⟩
    refine ⟨_, rfl, _, rfl, t, _, rfl, .inr hT, (i : Int), _, rfl, rfl, _, rfl, ite2 (fun c => ?_) (fun c => ?_)⟩
    · have hi : i < fs.length := by
        have z : (i : Int) < (((fs.map V.int).length : Nat) : Int) := of_decide_eq_true c
        rw [hl] at z
        omega
      refine ⟨_, rfl, _, rfl, t, _, (i : Int), _, rfl, rfl, hT, at_int (z := dv fs st i) ?_, q⟩
      rw [dv_in hi, List.getD_eq_getElem?_getD, List.getElem?_eq_getElem hi]
      rfl
    · have hi : fs.length ≤ i := by
        have z : ¬ (i : Int) < (((fs.map V.int).length : Nat) : Int) := fun z => c (decide_eq_true z)
        rw [hl] at z
        omega
      have g1 := g.st1
      have g2 := g.st2
      refine ⟨_, rfl, 1, rfl, t, _, -1, _, rfl, rfl, hT, last_int g.ne, _, rfl, _, rfl, (i : Int), 1, rfl, rfl, _, rfl, t, _, rfl, .inr hT, (i : Int) + 1, _, rfl, rfl, st, _, rfl, rfl, .inl ⟨by omega, by omega⟩, _, _, rfl, rfl, ?_⟩
      rw [dv_out hi] at q
      rw [hl]
      exact q
/-! ### divisors_to -/
theorem scDivsTo : FnScope ["method", "many", "index"] ["method", "many"] (defScope sDivsTo) := ⟨rfl, rfl, rfl, by decide +kernel, rfl, by decide +kernel, by decide +kernel⟩
def spDivsTo : Sp := fun vs H Q _ => ∃ (m : Addr) (fs : List Int) (st : Int) (n : Nat), vs = [.ref m, .int n] ∧ Meth H m fs st ∧ Good fs st ∧ n ≤ 200 ∧ ∀ p H', Same H H' → H' p = some (.tup ((dvs fs st n).map V.int)) → Q (.ref p) H'
theorem ok_divsTo (D : Def K mg "divisors_to" sDivsTo) (B : Blt mg) (C : Cal P w K mg base 1 "divisor_at" ["method", "index"] spDivAt) : Cal P w K mg base 2 "divisors_to" ["method", "many"] spDivsTo := by
  refine cal_of D scDivsTo (fun _ _ _ _ _ _ us hl => match us, hl with | [_, _], _ => rfl) (fun vs H Q E h => ?_) (fun f cdv A outer s H vs Q E hr h => ?_)
  · obtain ⟨m, fs, st, n, rfl, _⟩ := h
    rfl
  · obtain ⟨m, fs, st, n, rfl, hM, g, hn, q⟩ := h
    refine ⟨_, pss_one (ps_ret (pe_callTy call_tuple_of (by rfl) B.tuple (by decide +kernel) (pa_cons (pe_lc (own := [("index", 2)]) (g := gName 2) (tt := tYes) rfl scDivsTo.nd (pi_range1 (by rfl) B.range (pa_cons (pv 1) pa_nil)) (blkOk_by (own := [("index", 2)]) (N := ["method", "many", "index"]) (sc := defScope sDivsTo) (by decide +kernel))
          (fun _ _ _ _ _ => pg_name (i := 2) scDivsTo.nd rfl (Or.inl rfl)) (fun _ _ _ _ _ => pts_nil) (fun _ _ _ _ _ => pe_cal C hr (pa_cons (pv 0) (pa_cons (pv 2) pa_nil)))) pa_nil))), ?_⟩
    refine ⟨_, rfl, (n : Int), rfl, by omega, by omega, fun L hL => ?_⟩
    rw [Int.toNat_natCast]
    refine lc_range (lo := 0) (n := n) (fun i H' => Same H H' ∧ H' L = some (.lst ((dvs fs st i).map V.int))) ⟨same_upd hL, upd_same⟩ (fun i H' hi h => ?_) (fun H' h => ?_)
    · obtain ⟨sm, e⟩ := h
      have ei : (0 : Int) + (i : Int) = (i : Int) := Int.zero_add _
      rw [ei]
      refine ⟨rfl, ?_⟩
      refine ⟨_, rfl, _, rfl, m, fs, st, i, rfl, hM.same sm, g, _, e, ?_, same_set hL sm, ?_⟩
      · rw [List.length_map, dvs_length]
        exact small1000 (by omega)
      · rw [upd_same, dvs_snoc, List.map_append]
        rfl
    · obtain ⟨sm, e⟩ := h
      exact ⟨L, _, rfl, .inl ⟨.of e, fun l hl => q l _ (sm.trans (same_upd hl)) upd_same⟩⟩
/-! ### check_method, check_both -/
theorem scCheckM : FnScope ["method", "name"] ["method", "name"] (defScope sCheckM) := ⟨rfl, rfl, rfl, by decide +kernel, rfl, by decide +kernel, by decide +kernel⟩
def spCheckM : Sp := fun vs H Q _ => ∃ (m : Addr) (fs : List Int) (st : Int) (x : V), vs = [.ref m, x] ∧ Meth H m fs st ∧ Good fs st ∧ ∀ H', Same H H' → Q .non H'
theorem ok_checkM (D : Def K mg "check_method" sCheckM) (C : Cal P w K mg base 2 "is_method" ["value"] spMethod) : Cal P w K mg base 3 "check_method" ["method", "name"] spCheckM := by
  refine cal_of D scCheckM (fun _ _ _ _ _ _ us hl => match us, hl with | [_, _], _ => rfl) (fun vs H Q E h => ?_) (fun f cdv A outer s H vs Q E hr h => ?_)
  · obtain ⟨m, fs, st, x, rfl, _⟩ := h
    rfl
  · obtain ⟨m, fs, st, x, rfl, hM, g, q⟩ := h
    refine ⟨_, pss_one (ps_if (pt_not (pt_val (pe_cal C hr (pa_cons (pv 0) pa_nil)))) pss_never pss_nil), ?_⟩
    refine ⟨_, rfl, m, fs, st, rfl, hM, g, fun H' sm => ⟨true, rfl, iteF (q H' sm)⟩⟩
theorem scCheckB : FnScope ["method", "other"] ["method", "other"] (defScope sCheckB) := ⟨rfl, rfl, rfl, by decide +kernel, rfl, by decide +kernel, by decide +kernel⟩
def spCheckB : Sp := fun vs H Q _ => ∃ (m m2 : Addr) (fs gs : List Int) (st tt : Int), vs = [.ref m, .ref m2] ∧ Meth H m fs st ∧ Meth H m2 gs tt ∧ Good fs st ∧ Good gs tt ∧ ∀ H', Same H H' → Q .non H'
theorem ok_checkB (D : Def K mg "check_both" sCheckB) (C : Cal P w K mg base 3 "check_method" ["method", "name"] spCheckM) : Cal P w K mg base 4 "check_both" ["method", "other"] spCheckB := by
  refine cal_of D scCheckB (fun _ _ _ _ _ _ us hl => match us, hl with | [_, _], _ => rfl) (fun vs H Q E h => ?_) (fun f cdv A outer s H vs Q E hr h => ?_)
  · obtain ⟨m, m2, fs, gs, st, tt, rfl, _⟩ := h
    rfl
  · obtain ⟨m, m2, fs, gs, st, tt, rfl, h1, h2, g1, g2, q⟩ := h
    refine ⟨_, pss_cons (ps_expr (pe_cal C hr (pa_cons (pv 0) (pa_cons pe_str pa_nil)))) (pss_one (ps_expr (pe_cal C hr (pa_cons (pv 1) (pa_cons pe_str pa_nil))))), ?_⟩
    refine ⟨_, rfl, m, fs, st, _, rfl, h1, g1, fun H1 sm => ?_⟩
    exact ⟨_, rfl, m2, gs, tt, _, rfl, h2.same sm, g2, fun H2 sm2 => q H2 (sm.trans sm2)⟩
/-! ### span_of -/
theorem scSpan : FnScope ["method", "other"] ["method", "other"] (defScope sSpan) := ⟨rfl, rfl, rfl, by decide +kernel, rfl, by decide +kernel, by decide +kernel⟩
def spSpan : Sp := fun vs H Q _ => ∃ (m m2 : Addr) (fs gs : List Int) (st tt : Int), vs = [.ref m, .ref m2] ∧ Meth H m fs st ∧ Meth H m2 gs tt ∧ Q (.int (span fs gs : Nat)) H
theorem max_span {fs gs : List Int} : (1 : Int) + (if (((gs.map V.int).length : Nat) : Int) > (((fs.map V.int).length : Nat) : Int) then (((gs.map V.int).length : Nat) : Int) else (((fs.map V.int).length : Nat) : Int)) = ((span fs gs : Nat) : Int) := by
  rw [ints_len, ints_len]
  unfold span
  split <;> omega
theorem ok_span (D : Def K mg "span_of" sSpan) (B : Blt mg) : Cal P w K mg base 1 "span_of" ["method", "other"] spSpan := by
  refine cal_of D scSpan (fun _ _ _ _ _ _ us hl => match us, hl with | [_, _], _ => rfl) (fun vs H Q E h => ?_) (fun f cdv A outer s H vs Q E hr h => ?_)
  · obtain ⟨m, m2, fs, gs, st, tt, rfl, _⟩ := h
    rfl
  · obtain ⟨m, m2, fs, gs, st, tt, rfl, ⟨t, a1, a2⟩, ⟨u, b1, b2⟩, q⟩ := h
    refine ⟨_, pss_one (ps_ret (pe_op op_add pe_int (pe_callB (call_max2 rfl) (by rfl) B.max (by decide +kernel) (pa_cons (pe_callB call_len_seq (by rfl) B.len PySem.boot_len (pa_cons (pe_ix ix_tup (pv 0) pe_int (fun _ _ => rfl)) pa_nil))
      (pa_cons (pe_callB call_len_seq (by rfl) B.len PySem.boot_len (pa_cons (pe_ix ix_tup (pv 1) pe_int (fun _ _ => rfl)) pa_nil)) pa_nil))))), ?_⟩
    refine ⟨_, rfl, m, _, 0, _, rfl, rfl, .of a1, rfl, t, _, rfl, .inr (.of a2), _, rfl, m2, _, 0, _, rfl, rfl, .of b1, rfl, u, _, rfl, .inr (.of b2), _, _, rfl, 1, _, rfl, rfl, ?_⟩
    rw [← max_span] at q
    exact q
/-! ### is_count, is_pair_of_counts -/
theorem scCount : FnScope ["value"] ["value"] (defScope sCount) := ⟨rfl, rfl, rfl, by decide +kernel, rfl, by decide +kernel, by decide +kernel⟩
def spCount : Sp := fun vs H Q _ => ∃ v : Int, vs = [.int v] ∧ 1 ≤ v ∧ Q (.bl true) H
theorem ok_count (D : Def K mg "is_count" sCount) (B : Blt mg) : Cal P w K mg base 1 "is_count" ["value"] spCount := by
  refine cal_of D scCount (fun _ _ _ _ _ _ us hl => match us, hl with | [_], _ => rfl) (fun vs H Q E h => ?_) (fun f cdv A outer s H vs Q E hr h => ?_)
  · obtain ⟨v, rfl, _⟩ := h
    rfl
  · obtain ⟨v, rfl, h1, q⟩ := h
    refine ⟨_, pss_one (ps_ret (pe_and (pe_callB call_isi (by rfl) B.isinstance (by decide +kernel) (pa_cons (pv 0) (pa_cons (pe_bltn (v := .ty "int") (by rfl) B.int (by decide +kernel) rfl) pa_nil)))
      (pe_and (pe_not (pe_callB call_isi (by rfl) B.isinstance (by decide +kernel) (pa_cons (pv 0) (pa_cons (pe_bltn (v := .ty "bool") (by rfl) B.bool (by decide +kernel) rfl) pa_nil))))
        (pe_one (pe_cmpR op_ge (pv 0) pe_int (nomark _)))))), ?_⟩
    refine ⟨_, rfl, _, _, _, _, true, rfl, .ty _, .base (.int v), kInt, true, rfl, iteT ?_⟩
    refine ⟨_, rfl, _, _, _, _, false, rfl, .ty _, .base (.int v), kBool, false, rfl, true, rfl, iteT ?_⟩
    refine ⟨_, rfl, v, 1, rfl, rfl, ?_⟩
    show Q (.bl (decide ((1 : Int) ≤ v))) H
    rw [decide_eq_true h1]
    exact q
theorem scPairC : FnScope ["value"] ["value"] (defScope sPairC) := ⟨rfl, rfl, rfl, by decide +kernel, rfl, by decide +kernel, by decide +kernel⟩
def spPairC : Sp := fun vs H Q _ => ∃ (t : Addr) (p u : Int), vs = [.ref t] ∧ H t = some (.tup [.int p, .int u]) ∧ 1 ≤ p ∧ 1 ≤ u ∧ Q (.bl true) H
theorem ok_pairC (D : Def K mg "is_pair_of_counts" sPairC) (B : Blt mg) (C : Cal P w K mg base 1 "is_count" ["value"] spCount) : Cal P w K mg base 2 "is_pair_of_counts" ["value"] spPairC := by
  refine cal_of D scPairC (fun _ _ _ _ _ _ us hl => match us, hl with | [_], _ => rfl) (fun vs H Q E h => ?_) (fun f cdv A outer s H vs Q E hr h => ?_)
  · obtain ⟨t, p, u, rfl, _⟩ := h
    rfl
  · obtain ⟨t, p, u, rfl, ht, h1, h2, q⟩ := h
    refine ⟨_, pss_one (ps_ret (pe_and (pe_callB call_isi (by rfl) B.isinstance (by decide +kernel) (pa_cons (pv 0) (pa_cons (pe_bltn (v := .ty "tuple") (by rfl) B.tuple (by decide +kernel) rfl) pa_nil)))
      (pe_and (pe_cmpR op_eq (pe_callB call_len_seq (by rfl) B.len PySem.boot_len (pa_cons (pv 0) pa_nil)) pe_int (nomark _))
      (pe_and (pe_cal C hr (pa_cons (pe_ix ix_tup (pv 0) pe_int (fun _ _ => rfl)) pa_nil)) (pe_one (pe_cal C hr (pa_cons (pe_ix ix_tup (pv 0) pe_int (fun _ _ => rfl)) pa_nil))))))), ?_⟩
    have hT : SqT K H t [.int p, .int u] := .of ht
    refine ⟨_, rfl, _, _, _, _, true, rfl, .ty _, .base (.tup ht), kTup, true, rfl, iteT ?_⟩
    refine ⟨_, rfl, t, _, rfl, .inr hT, rfl, _, rfl, iteT ?_⟩
    refine ⟨_, rfl, t, _, 0, _, rfl, rfl, hT, rfl, p, rfl, h1, true, rfl, iteT ?_⟩
    exact ⟨_, rfl, t, _, 1, _, rfl, rfl, hT, rfl, u, rfl, h2, q⟩
end
end K38
namespace K38
open PySem PySem.Spec PyProof.Rows L2 Seat LamX KSL
theorem PairsAt.snoc {H : Hp} {ts : List Addr} {ps : List (Nat × Nat)} {t : Addr} {q : Nat × Nat} (h : PairsAt H ts ps) (e : H t = some (.tup [.int q.1, .int q.2])) : PairsAt H (ts ++ [t]) (ps ++ [q]) := by
  refine ⟨by rw [List.length_append, List.length_append, h.len]; rfl, fun i u z a b => ?_⟩
  by_cases hi : i < ts.length
  · rw [List.getElem?_append_left hi] at a
    rw [List.getElem?_append_left (by rw [← h.len]; exact hi)] at b
    exact h.at_ i u z a b
  · rw [List.getElem?_append_right (by omega)] at a
    rw [List.getElem?_append_right (by rw [← h.len]; omega), ← h.len] at b
    have e0 : i - ts.length = 0 := by
      have := (List.getElem?_eq_some_iff.mp a).1
      rw [List.length_singleton] at this
      omega
    rw [e0] at a b
    cases a
    cases b
    exact e
/-! ### the sorted list is the pairs' one order -/
def keyV (H : Hp) : V → Int × Int
  | .ref t => match H t with
    | some (.tup [.int i, .int j]) => (i + j, i)
    | _ => (0, 0)
  | _ => (0, 0)
def valN (H : Hp) : V → Nat × Nat
  | .ref t => match H t with
    | some (.tup [.int i, .int j]) => (i.toNat, j.toNat)
    | _ => (0, 0)
  | _ => (0, 0)
theorem keyV_at {H : Hp} {t : Addr} {i j : Int} (h : H t = some (.tup [.int i, .int j])) : keyV H (.ref t) = (i + j, i) := by
  show (match H t with
    | some (.tup [.int i, .int j]) => ((i + j, i) : Int × Int)
    | _ => (0, 0)) = _
  rw [h]
theorem valN_at {H : Hp} {t : Addr} {i j : Nat} (h : H t = some (.tup [.int i, .int j])) : valN H (.ref t) = (i, j) := by
  show (match H t with
    | some (.tup [.int i, .int j]) => ((i.toNat, j.toNat) : Nat × Nat)
    | _ => (0, 0)) = _
  rw [h]
  rfl
theorem sorted_pairs {H H' : Hp} {ts : List Addr} {ys : List V} {n : Nat} (n1 : 2 ≤ n) (n2 : n ≤ 6) (ex : ExtN H H') (h : PairsAt H ts (full n)) (pm : ys.Perm (ts.map V.ref)) (so : SrtO.Srtd (ltP (keyV H)) ys) :
    ∃ us : List Addr, ys = us.map V.ref ∧ PairsAt H' us (prs n) := by
  have at_ : ∀ y ∈ ys, ∃ (t : Addr) (q : Nat × Nat), y = .ref t ∧ H t = some (.tup [.int q.1, .int q.2]) := fun y hy => by
    have hm := pm.mem_iff.mp hy
    obtain ⟨t, ht, rfl⟩ := List.mem_map.mp hm
    obtain ⟨i, hi⟩ := List.mem_iff_getElem?.mp ht
    have hl : i < (full n).length := by
      rw [← h.len]
      exact (List.getElem?_eq_some_iff.mp hi).1
    exact ⟨t, _, rfl, h.at_ i t _ hi (List.getElem?_eq_getElem hl)⟩
  have ev : (ts.map V.ref).map (valN H) = full n := by
    apply List.ext_getElem?
    intro i
    rw [List.getElem?_map, List.getElem?_map]
    cases e : ts[i]? with
    | none =>
      rw [List.getElem?_eq_none (by rw [← h.len]; exact List.getElem?_eq_none_iff.mp e)]
      rfl
    | some t =>
      have hl : i < (full n).length := by
        rw [← h.len]
        exact (List.getElem?_eq_some_iff.mp e).1
      have q := h.at_ i t _ e (List.getElem?_eq_getElem hl)
      rw [List.getElem?_eq_getElem hl]
      show some (valN H (.ref t)) = _
      rw [valN_at q]
  have e2 : ys.map (valN H) = prs n := by
    refine uniq n1 n2 ?_ ?_
    · rw [← ev]
      exact pm.map _
    · refine List.pairwise_map.mpr (so.imp_of_mem fun {a b} ha hb hab => ?_)
      obtain ⟨t, q, rfl, et⟩ := at_ a ha
      obtain ⟨u, r, rfl, eu⟩ := at_ b hb
      rw [valN_at et, valN_at eu]
      have hab : SrtO.lexB (keyV H (.ref u)) (keyV H (.ref t)) = false := hab
      rw [keyV_at et, keyV_at eu] at hab
      have z := SrtO.lexB_no.mp hab
      have z : ¬ ((r.1 : Int) + (r.2 : Int) < (q.1 : Int) + (q.2 : Int) ∨ ((r.1 : Int) + (r.2 : Int) = (q.1 : Int) + (q.2 : Int) ∧ (r.1 : Int) < (q.1 : Int))) := z
      show q.1 + q.2 < r.1 + r.2 ∨ (q.1 + q.2 = r.1 + r.2 ∧ q.1 ≤ r.1)
      omega
  let un : V → Addr := fun v => match v with
    | .ref t => t
    | _ => 0
  refine ⟨ys.map un, ?_, ?_, fun i t q a b => ?_⟩
  · rw [List.map_map]
    refine (List.map_id _).symm.trans (List.map_congr_left fun y hy => ?_)
    obtain ⟨t, q, rfl, _⟩ := at_ y hy
    rfl
  · rw [← e2, List.length_map, List.length_map]
  · rw [List.getElem?_map] at a
    obtain ⟨y, hy, e⟩ := Option.map_eq_some_iff.mp a
    rw [← e2, List.getElem?_map, hy] at b
    obtain ⟨u, r, rfl, eu⟩ := at_ y (List.mem_of_getElem? hy)
    have e : u = t := e
    subst e
    have b : valN H (.ref u) = q := Option.some.inj b
    rw [valN_at eu] at b
    subst b
    exact ex _ _ eu fun ps z => by cases z
section
variable {P : Program} {w : World} {K : PySem.W.Frag} {mg : Str → Option Value} {base : Heap}
/-! ### index_pairs -/
theorem scPairs : FnScope ["span", "pairs", "one", "two"] ["span"] (defScope sPairs) := ⟨rfl, rfl, rfl, by decide +kernel, rfl, by decide +kernel, by decide +kernel⟩
abbrev lamName : Str := ("index_pairs" : Str) ++ ".<locals>." ++ "<lambda>"
def spPairs (T : List (Addr × Str)) : Sp := fun vs H Q _ => ∃ n : Nat, vs = [.int n] ∧ 2 ≤ n ∧ n ≤ 6 ∧ Tabs T H ∧ ∀ p us H', ExtN H H' → H' p = some (.lst (us.map V.ref)) → PairsAt H' us (prs n) → Q (.ref p) H'
def retE : Stmt → PySem.Expr
  | .Return (some e) _ => e
  | _ => .Constant .none 0 ⟨0, 0, 0, 0⟩
def atB (st : Stmt) (i : Nat) : Stmt := (defBody st).getD i (.Pass ⟨0, 0, 0, 0⟩)
abbrev lamT (K : PySem.W.Frag) : TE := tTup (tCons (tOp (rI0 fun i j => .int (i + j)) (tOp (rIxT K) (tVar 0) (tC (.int 0))) (tOp (rIxT K) (tVar 0) (tC (.int 1)))) (tCons (tOp (rIxT K) (tVar 0) (tC (.int 0))) tNil))
theorem pe_srt {f c Pt : Addr} {A : Around} {outer : List Env} {s : Shared} {H : Hp} {E : XK} (B : Blt mg) (TB : TabB base mg c Pt) (hr : Room 3 (A.deeper (envOfC "index_pairs" (defScope sPairs) s.heap.objs.size f (.ref c)))) :
    PE (cxOf CX0 P w K mg base ["span", "pairs", "one", "two"] "index_pairs" (defScope sPairs) f (.ref c) A outer s H E).nox (retE (atB sPairs 1)) (tSK K [(Pt, lamName)] (lamT K) (tCons (tVar 1) tNil)) := by
  refine KSL.pe_sortedLam (k := 0) (y := "pair") (T := [(Pt, lamName)]) B.sorted ?a1 TB ?a2 ?a3 ?a4 hr ?a5 ?a6 ?a7 ?a8 ?a9
  case a1 => exact pa_cons (pv 1) pa_nil
  case a2 => rfl
  case a3 => exact List.mem_singleton.mpr rfl
  case a4 => exact fun z hz _ => congrArg Prod.snd (List.mem_singleton.mp hz)
  case a5 => exact (NdefX.nscope_by (by decide +kernel))
  case a6 => decide +kernel
  case a7 => rfl
  case a8 => exact fun _ _ _ _ _ _ => rfl
  case a9 => exact (fun _ _ _ _ _ _ _ => pe_tup (pa_cons (pe_op op_add (pe_ix (ixT (K := K)) (pv 0) pe_int (fun _ _ => rfl)) (pe_ix (ixT (K := K)) (pv 0) pe_int (fun _ _ => rfl))) (pa_cons (pe_ix (ixT (K := K)) (pv 0) pe_int (fun _ _ => rfl)) pa_nil)))
theorem ok_pairs {f c Pt : Addr} {od an : Option Addr} {osl : Array (Option Value)} {oc kV doc pm ct : Value}
    (lk : K.lookup f = some ⟨oc, od, .func (PySem.W.fnOf "index_pairs" "index_pairs" (defArgs sPairs) (defBody sPairs) (defScope sPairs) .none kV doc pm an (.ref c) ct), osl⟩) (hcd : PySem.W.codeIn K (.ref c) "index_pairs" = true)
    (kp : PySem.W.keepIn K (.ref f) = true) (m : mg "index_pairs" = some (.ref f)) (TB : TabB base mg c Pt) (B : Blt mg) : Cal P w K mg base 4 "index_pairs" ["span"] (spPairs [(Pt, lamName)]) := by
  refine ⟨f, _, fn_of lk hcd scPairs (fun vs H Q E h => ?_) (fun A outer s H vs Q E hr h => ?_), m, kp, .all fun us hl => match us, hl with | [_], _ => rfl⟩
  · obtain ⟨n, rfl, _⟩ := h
    rfl
  · obtain ⟨n, rfl, n1, n2, hT, q⟩ := h
    refine ⟨_, PSs.nox (pss_cons (ps_setLc2 (i := 1) (own := [("one", 2), ("two", 3)]) (vs1 := [3]) (g := gName 2) (g1 := gName 3) (tt := tYes) (tt1 := tYes) rfl scPairs.nd rfl rfl (sw_true rfl rfl rfl (by decide +kernel)) (pi_range1 (by rfl) B.range (pa_cons (pv 0) pa_nil))
        (blkOk_by (own := [("one", 2), ("two", 3)]) (N := ["span", "pairs", "one", "two"]) (sc := defScope sPairs) (by decide +kernel)) (by decide)
        (fun _ _ _ _ _ => pg_name (i := 2) scPairs.nd rfl (Or.inl rfl)) (fun _ _ _ _ _ => pts_nil) (fun _ _ _ _ _ => pi_range1 (by rfl) B.range (pa_cons (pv 0) pa_nil)) (fun _ _ _ _ _ => pg_name (i := 3) scPairs.nd rfl (Or.inl rfl)) (fun _ _ _ _ _ => pts_nil)
        (fun _ _ _ _ _ => pe_tup (pa_cons (pv 2) (pa_cons (pv 3) pa_nil))))
      (pss_one (ps_ret (pe_srt B TB hr)))), ?_⟩
    refine ⟨_, rfl, (n : Int), rfl, by omega, by omega, fun D hD => ?_⟩
    rw [Int.toNat_natCast]
    -- the pairs so far
    let G : Nat → Nat → Hp → Prop := fun i j H' => Same H H' ∧ ∃ ts : List Addr, H' D = some (.lst (ts.map V.ref)) ∧ PairsAt H' ts (part n i j)
    refine ⟨fun i k H' => k = n - i ∧ i ≤ n ∧ G i 0 H', ⟨n, by omega, Nat.zero_le _, same_upd hD, [], upd_same, rfl, fun i t z e => by simp at e⟩, fun i k H' hW => ?_⟩
    obtain ⟨rfl, hi, hG⟩ := hW
    by_cases hlt : i < n
    · refine .inr ⟨hlt, G (i + 1) 0, fun H2 h2 => ⟨n - (i + 1), by omega, rfl, hlt, h2⟩, fun x H2 hy => ?_⟩
      obtain ⟨rfl, rfl⟩ := hy
      refine ⟨rfl, ?_⟩
      refine ⟨_, rfl, (n : Int), rfl, by omega, by omega, ?_⟩
      rw [Int.toNat_natCast]
      refine ⟨fun j k H3 => k = n - j ∧ j ≤ n ∧ G i j H3, ⟨n, by omega, Nat.zero_le _, hG⟩, fun j k H3 hW3 => ?_⟩
      obtain ⟨rfl, hj, hG3⟩ := hW3
      by_cases hjl : j < n
      · refine .inr ⟨hjl, G i (j + 1), fun H4 h4 => ⟨n - (j + 1), by omega, rfl, hjl, h4⟩, fun x H4 hy => ?_⟩
        obtain ⟨rfl, rfl⟩ := hy
        obtain ⟨sm, ts, e1, e2⟩ := hG3
        have hts : ts.length < 64 := by
          have a := e2.len
          have b := full_length n1 n2
          have c : (part n i j).length ≤ (full n).length := part_le (by omega) (by omega)
          omega
        refine ⟨rfl, ?_⟩
        refine ⟨_, rfl, _, rfl, (by show 2 ≤ sizeLine; decide), fun t ht => ?_⟩
        have s1 := same_upd (o := .tup [.int ((0 : Int) + i), .int ((0 : Int) + j)]) ht
        have eD := s1 _ _ e1
        refine ⟨_, eD, ?_, ?_⟩
        · rw [List.length_map]
          exact small1000 (by omega)
        · refine ⟨same_set hD (sm.trans s1), ts ++ [t], ?_, ?_⟩
          · rw [upd_same, List.map_append]
            rfl
          · rw [part_step]
            have s2 : ∀ b o, (upd H4 t (.tup [.int ((0 : Int) + i), .int ((0 : Int) + j)])) b = some (.tup o) → (upd (upd H4 t (.tup [.int ((0 : Int) + i), .int ((0 : Int) + j)])) D (.lst (ts.map V.ref ++ [.ref t]))) b = some (.tup o) := fun b o e => by
              rw [upd_ne (ne_of e eD (by intro z; cases z))]
              exact e
            refine PairsAt.snoc ⟨e2.len, fun i' t' z a b => s2 _ _ (s1 _ _ (e2.at_ i' t' z a b))⟩ (s2 _ _ ?_)
            rw [upd_same]
            show some (HO.tup [.int ((0 : Int) + i), .int ((0 : Int) + j)]) = some (HO.tup [.int (i : Int), .int (j : Int)])
            rw [Int.zero_add, Int.zero_add]
      · have e : j = n := by omega
        subst e
        refine .inl ⟨Nat.le_refl _, ?_⟩
        show G (i + 1) 0 H3
        have hG3 : G i j H3 := hG3
        show Same H H3 ∧ ∃ ts : List Addr, H3 D = some (.lst (ts.map V.ref)) ∧ PairsAt H3 ts (part j (i + 1) 0)
        rw [← part_row]
        exact hG3
    · have e : i = n := by omega
      subst e
      obtain ⟨sm, ts, e1, e2⟩ := hG
      rw [part_full] at e2
      have b := full_length n1 n2
      have hl : (ts.map V.ref).length = (full i).length := by rw [List.length_map, e2.len]
      refine .inl ⟨Nat.le_refl _, ?_⟩
      -- sorted
      refine ⟨_, rfl, D, ts.map V.ref, keyV H', rfl, .of e1, by omega, by omega, fun x hx => ?_, hT.ext sm, fun x hx H2 ex => ?_, fun ys p H3 ex pm so ep => ?_⟩
      · obtain ⟨t, _, rfl⟩ := List.mem_map.mp hx
        exact ⟨t, rfl⟩
      · obtain ⟨t, ht, rfl⟩ := List.mem_map.mp hx
        obtain ⟨j, hj⟩ := List.mem_iff_getElem?.mp ht
        have hjl : j < (full i).length := by
          rw [← e2.len]
          exact (List.getElem?_eq_some_iff.mp hj).1
        have et := e2.at_ j t _ hj (List.getElem?_eq_getElem hjl)
        generalize (full i)[j] = z at et
        have et2 : H2 t = some (.tup [.int z.1, .int z.2]) := ex _ _ et fun ps z => by cases z
        have hS : SqT K H2 t [.int z.1, .int z.2] := .of et2
        refine ⟨_, rfl, t, _, 0, _, rfl, rfl, hS, rfl, _, rfl, t, _, 1, _, rfl, rfl, hS, rfl, (z.1 : Int), (z.2 : Int), rfl, rfl, _, rfl, t, _, 0, _, rfl, rfl, hS, rfl, (by show 2 ≤ sizeLine; decide), fun p hp => ⟨same_upd hp, p, rfl, ?_⟩⟩
        rw [upd_same, keyV_at et]
      · obtain ⟨us, rfl, hu⟩ := sorted_pairs n1 n2 ex e2 pm so
        exact q p us H3 (ExtN.trans (ExtN.of sm) ex) ep hu
end
end K38
namespace K38
open PySem PySem.Spec PyProof.Rows L2 Seat LamX
theorem two_line : 2 ≤ sizeLine := by decide
section
variable {P : Program} {w : World} {K : PySem.W.Frag} {mg : Str → Option Value} {base : Heap}
/-! ### ratios_at -/
theorem scRatios : FnScope ["method", "other", "pair", "span", "d", "e"] ["method", "other", "pair"] (defScope sRatios) := ⟨rfl, rfl, rfl, by decide +kernel, rfl, by decide +kernel, by decide +kernel⟩
def spRatios : Sp := fun vs H Q _ => ∃ (m m2 pr : Addr) (fs gs : List Int) (st tt : Int) (i j : Nat), vs = [.ref m, .ref m2, .ref pr] ∧ Meth H m fs st ∧ Meth H m2 gs tt ∧ Good fs st ∧ Good gs tt ∧ H pr = some (.tup [.int i, .int j]) ∧ i < span fs gs ∧ j < span fs gs ∧
  ∀ r a b H', Same H H' → H' r = some (.tup [.ref a, .ref b]) → H' a = some (.tup [.int (dv fs st i), .int (dv fs st j)]) → H' b = some (.tup [.int (dv gs tt i), .int (dv gs tt j)]) → Q (.ref r) H'
theorem ok_ratios (D : Def K mg "ratios_at" sRatios) (C1 : Cal P w K mg base 1 "span_of" ["method", "other"] spSpan) (C2 : Cal P w K mg base 2 "divisors_to" ["method", "many"] spDivsTo) : Cal P w K mg base 3 "ratios_at" ["method", "other", "pair"] spRatios := by
  refine cal_of D scRatios (fun _ _ _ _ _ _ us hl => match us, hl with | [_, _, _], _ => rfl) (fun vs H Q E h => ?_) (fun f cdv A outer s H vs Q E hr h => ?_)
  · obtain ⟨m, m2, pr, fs, gs, st, tt, i, j, rfl, _⟩ := h
    rfl
  · obtain ⟨m, m2, pr, fs, gs, st, tt, i, j, rfl, hM, hN, g1, g2, hp, hi, hj, q⟩ := h
    refine ⟨_, pss_cons (ps_set (i := 3) scRatios.nd rfl (.inl rfl) (pe_cal C1 (hr.mono (by decide)) (pa_cons (pv 0) (pa_cons (pv 1) pa_nil))))
      (pss_cons (ps_set (i := 4) scRatios.nd rfl (.inl rfl) (pe_cal C2 hr (pa_cons (pv 0) (pa_cons (pv 3) pa_nil))))
      (pss_cons (ps_set (i := 5) scRatios.nd rfl (.inl rfl) (pe_cal C2 hr (pa_cons (pv 1) (pa_cons (pv 3) pa_nil))))
      (pss_one (ps_ret (pe_tup (pa_cons (pe_tup (pa_cons (pe_ix ix_tup (pv 4) (pe_ix ix_tup (pv 2) pe_int (fun _ _ => rfl)) (fun _ _ => rfl)) (pa_cons (pe_ix ix_tup (pv 4) (pe_ix ix_tup (pv 2) pe_int (fun _ _ => rfl)) (fun _ _ => rfl)) pa_nil)))
        (pa_cons (pe_tup (pa_cons (pe_ix ix_tup (pv 5) (pe_ix ix_tup (pv 2) pe_int (fun _ _ => rfl)) (fun _ _ => rfl)) (pa_cons (pe_ix ix_tup (pv 5) (pe_ix ix_tup (pv 2) pe_int (fun _ _ => rfl)) (fun _ _ => rfl)) pa_nil))) pa_nil))))))), ?_⟩
    have sp : span fs gs ≤ 200 := by
      have a := g1.le
      have b := g2.le
      unfold span
      omega
    refine ⟨_, rfl, _, rfl, m, m2, fs, gs, st, tt, rfl, hM, hN, ?_⟩
    refine ⟨_, rfl, _, rfl, m, fs, st, span fs gs, rfl, hM, g1, sp, fun d H1 s1 e1 => ?_⟩
    refine ⟨_, rfl, _, rfl, m2, gs, tt, span fs gs, rfl, hN.same s1, g2, sp, fun e H2 s2 e2 => ?_⟩
    have hP : SqT K H2 pr [.int i, .int j] := .of (s2 _ _ (s1 _ _ hp))
    have hD : SqT K H2 d ((dvs fs st (span fs gs)).map V.int) := .of (s2 _ _ e1)
    have hE : SqT K H2 e ((dvs gs tt (span fs gs)).map V.int) := .of e2
    refine ⟨_, rfl, _, rfl, pr, _, 0, _, rfl, rfl, hP, rfl, d, _, (i : Int), _, rfl, rfl, hD, at_int (dvs_get hi), _, rfl, _, rfl, pr, _, 1, _, rfl, rfl, hP, rfl, d, _, (j : Int), _, rfl, rfl, hD, at_int (dvs_get hj), two_line, fun a ha => ?_⟩
    have s3 := same_upd (o := .tup [.int (dv fs st i), .int (dv fs st j)]) ha
    have hP3 : SqT K (upd H2 a (.tup [.int (dv fs st i), .int (dv fs st j)])) pr [.int i, .int j] := .of (s3 _ _ (s2 _ _ (s1 _ _ hp)))
    have hE3 : SqT K (upd H2 a (.tup [.int (dv fs st i), .int (dv fs st j)])) e ((dvs gs tt (span fs gs)).map V.int) := .of (s3 _ _ e2)
    refine ⟨_, rfl, _, rfl, pr, _, 0, _, rfl, rfl, hP3, rfl, e, _, (i : Int), _, rfl, rfl, hE3, at_int (dvs_get hi), _, rfl, _, rfl, pr, _, 1, _, rfl, rfl, hP3, rfl, e, _, (j : Int), _, rfl, rfl, hE3, at_int (dvs_get hj), two_line, fun b hb => ?_⟩
    have s4 := same_upd (o := .tup [.int (dv gs tt i), .int (dv gs tt j)]) hb
    refine ⟨two_line, fun r hr2 => ?_⟩
    have s5 := same_upd (o := .tup [.ref a, .ref b]) hr2
    exact q r a b _ (s1.trans (s2.trans (s3.trans (s4.trans s5)))) upd_same (s5 _ _ (s4 _ _ upd_same)) (s5 _ _ upd_same)
/-! ### differing_pair -/
theorem scDiffer : FnScope ["method", "other", "pair", "one", "two"] ["method", "other"] (defScope sDiffer) := ⟨rfl, rfl, rfl, by decide +kernel, rfl, by decide +kernel, by decide +kernel⟩
def spDiffer (T : List (Addr × Str)) : Sp := fun vs H Q _ => ∃ (m m2 : Addr) (fs gs : List Int) (st tt : Int), vs = [.ref m, .ref m2] ∧ Meth H m fs st ∧ Meth H m2 gs tt ∧ Two fs st gs tt ∧ Tabs T H ∧
  (first fs gs st tt = none → ∀ H', ExtN H H' → Q .non H') ∧ ∀ q, first fs gs st tt = some q → ∀ p H', ExtN H H' → H' p = some (.tup [.int q.1, .int q.2]) → Q (.ref p) H'
theorem ok_differ {T : List (Addr × Str)} (D : Def K mg "differing_pair" sDiffer) (C1 : Cal P w K mg base 1 "span_of" ["method", "other"] spSpan) (C2 : Cal P w K mg base 4 "index_pairs" ["span"] (spPairs T)) (C3 : Cal P w K mg base 3 "ratios_at" ["method", "other", "pair"] spRatios) :
    Cal P w K mg base 5 "differing_pair" ["method", "other"] (spDiffer T) := by
  refine cal_of D scDiffer (fun _ _ _ _ _ _ us hl => match us, hl with | [_, _], _ => rfl) (fun vs H Q E h => ?_) (fun f cdv A outer s H vs Q E hr h => ?_)
  · obtain ⟨m, m2, fs, gs, st, tt, rfl, _⟩ := h
    rfl
  · obtain ⟨m, m2, fs, gs, st, tt, rfl, hM, hN, tw, hT, qn, qs⟩ := h
    refine ⟨_, pss_cons (ps_for PassesOwn.never rfl (pi_list (pe_cal C2 hr (pa_cons (pe_cal C1 (hr.mono (by decide)) (pa_cons (pv 0) (pa_cons (pv 1) pa_nil))) pa_nil))) (pg_name (i := 2) scDiffer.nd rfl (.inl rfl))
        (pss_cons (ps_asg (pe_cal C3 (hr.mono (by decide)) (pa_cons (pv 0) (pa_cons (pv 1) (pa_cons (pv 2) pa_nil)))) (pg_tup (by rfl) (pgs_cons (pg_name (i := 3) scDiffer.nd rfl (.inl rfl)) (pgs_cons (pg_name (i := 4) scDiffer.nd rfl (.inl rfl)) pgs_nil))))
        (pss_one (ps_if (pt_cmpR op_ne (pe_op op_mul (pe_ix ix_tup (pv 3) pe_int (fun _ _ => rfl)) (pe_ix ix_tup (pv 4) pe_int (fun _ _ => rfl))) (pe_op op_mul (pe_ix ix_tup (pv 4) pe_int (fun _ _ => rfl)) (pe_ix ix_tup (pv 3) pe_int (fun _ _ => rfl))) (nomark _)) (pss_one (ps_ret (pv 2))) pss_nil))))
      (pss_one (ps_ret pe_non)), ?_⟩
    obtain ⟨n1, n2⟩ := tw.span_le
    refine ⟨_, rfl, _, rfl, m, m2, fs, gs, st, tt, rfl, hM, hN, span fs gs, rfl, n1, n2, hT, fun l us H1 x1 el hu => ?_⟩
    refine ⟨l, rfl, ⟨_, .of el⟩, ?_⟩
    refine for_list (K := K) (a := l) (xs := us.map V.ref) (fun i σ H' => Same H1 H' ∧ (∃ y2 y3 y4, σ = [some (.ref m), some (.ref m2), y2, y3, y4]) ∧ ∀ z ∈ (prs (span fs gs)).take i, differs (dv fs st) (dv gs tt) z = false)
      ⟨Same.refl _, ⟨_, _, _, rfl⟩, fun z hz => by simp at hz⟩ (fun i σ H' _ h => .of (h.1 _ _ el)) (fun i x σ H' hx h => ?_) (fun σ H' h => ?_)
    · obtain ⟨sm, ⟨y2, y3, y4, rfl⟩, hz⟩ := h
      rw [List.getElem?_map] at hx
      obtain ⟨t, ht, rfl⟩ := Option.map_eq_some_iff.mp hx
      have hil : i < (prs (span fs gs)).length := by
        rw [← hu.len]
        exact (List.getElem?_eq_some_iff.mp ht).1
      have hq := List.getElem?_eq_getElem hil
      have et := sm _ _ (hu.at_ i t _ ht hq)
      have hmem := of_mem_prs (List.getElem_mem hil)
      generalize (prs (span fs gs))[i] = z at hq et hmem
      have xM := x1.trans (ExtN.of sm)
      refine ⟨_, rfl, _, rfl, _, rfl, m, m2, t, fs, gs, st, tt, z.1, z.2, rfl, hM.ext xM, hN.ext xM, tw.one, tw.two, et, hmem.1, hmem.2, fun r a b H2 s2 er ea eb => ?_⟩
      refine ⟨r, [.ref a, .ref b], rfl, .of er, rfl, .ref a, [.ref b], rfl, .ref b, [], rfl, rfl, ?_⟩
      have hA : SqT K H2 a [.int (dv fs st z.1), .int (dv fs st z.2)] := .of ea
      have hB : SqT K H2 b [.int (dv gs tt z.1), .int (dv gs tt z.2)] := .of eb
      have bnd : ∀ (k : Nat), k < span fs gs → -(2 ^ 64) < dv fs st k ∧ dv fs st k < 2 ^ 64 ∧ -(2 ^ 64) < dv gs tt k ∧ dv gs tt k < 2 ^ 64 := fun k hk => by
        have a1 := tw.one.pos k
        have a2 := tw.one.upper k
        have b1 := tw.two.pos k
        have b2 := tw.two.upper k
        omega
      have bd := bnd z.1 hmem.1
      refine ⟨_, rfl, a, _, 0, _, rfl, rfl, hA, rfl, _, rfl, b, _, 1, _, rfl, rfl, hB, rfl, _, _, rfl, rfl, .inl ⟨bd.1, bd.2.1⟩, _, rfl, b, _, 0, _, rfl, rfl, hB, rfl, _, rfl, a, _, 1, _, rfl, rfl, hA, rfl, _, _, rfl, rfl, .inl ⟨bd.2.2.1, bd.2.2.2⟩, rfl, _, rfl, ?_⟩
      by_cases hd : dv fs st z.1 * dv gs tt z.2 = dv gs tt z.1 * dv fs st z.2
      · rw [decide_eq_true (congrArg V.int hd)]
        refine iteF ⟨sm.trans s2, ⟨_, _, _, rfl⟩, take_snoc hq hz ?_⟩
        unfold differs
        exact decide_eq_false fun c => c hd
      · rw [decide_eq_false (fun c => hd (V.int.inj c))]
        refine iteT ⟨_, rfl, qs z (find_at hq hz (by unfold differs; exact decide_eq_true hd)) t H2 (xM.trans (ExtN.of s2)) (s2 _ _ et)⟩
    · obtain ⟨sm, _, hz⟩ := h
      rw [List.length_map, hu.len] at hz
      exact qn (find_none hz) H' (x1.trans (ExtN.of sm))
/-! ### simplest -/
theorem scSimplest : FnScope ["low", "high", "a", "b", "c", "d", "whole", "part"] ["low", "high"] (defScope sSimplest) := ⟨rfl, rfl, rfl, by decide +kernel, rfl, by decide +kernel, by decide +kernel⟩
def spSimplest (n : Nat) : Sp := fun vs H Q _ => ∃ (lo hi : Addr) (a b c d : Int), vs = [.ref lo, .ref hi] ∧ H lo = some (.tup [.int a, .int b]) ∧ H hi = some (.tup [.int c, .int d]) ∧ Ival a b c d ∧ Deep n a b c d ∧ a < 1000000 ∧ b < 1000000 ∧ c < 1000000 ∧ d < 1000000 ∧
  ∀ p H', Same H H' → H' p = some (.tup [.int (simp_ n a b c d).1, .int (simp_ n a b c d).2]) → Q (.ref p) H'
theorem ok_simplest (D : Def K mg "simplest" sSimplest) : ∀ n, Cal P w K mg base n "simplest" ["low", "high"] (spSimplest n)
  | 0 => by
    obtain ⟨f, fd, F, m⟩ := D
    have no : ∀ vs H Q E, ¬ spSimplest 0 vs H Q E := fun vs H Q E h => by
      obtain ⟨lo, hi, a, b, c, d, _, _, _, _, dp, _⟩ := h
      exact dp
    exact ⟨f, fd, ⟨fun vs H Q E h => absurd h (no vs H Q E), fun A outer s H args us vs Q E _ _ _ _ h => absurd h (no vs H Q E)⟩, m, F.kp, F.binds fun _ _ _ _ _ _ us hl => match us, hl with | [_, _], _ => rfl⟩
  | n + 1 => by
    have C := ok_simplest D n
    refine cal_of D scSimplest (fun _ _ _ _ _ _ us hl => match us, hl with | [_, _], _ => rfl) (fun vs H Q E h => ?_) (fun f cdv A outer s H vs Q E hr h => ?_)
    · obtain ⟨lo, hi, a, b, c, d, rfl, _⟩ := h
      rfl
    · obtain ⟨lo, hi, a, b, c, d, rfl, el, eh, iv, dp, a9, b9, c9, d9, q⟩ := h
      refine ⟨_, pss_cons (ps_asg (pv 0) (pg_tup (by rfl) (pgs_cons (pg_name (i := 2) scSimplest.nd rfl (.inl rfl)) (pgs_cons (pg_name (i := 3) scSimplest.nd rfl (.inl rfl)) pgs_nil))))
        (pss_cons (ps_asg (pv 1) (pg_tup (by rfl) (pgs_cons (pg_name (i := 4) scSimplest.nd rfl (.inl rfl)) (pgs_cons (pg_name (i := 5) scSimplest.nd rfl (.inl rfl)) pgs_nil))))
        (pss_cons (ps_set (i := 6) scSimplest.nd rfl (.inl rfl) (pe_op op_fdiv (pv 2) (pv 3)))
        (pss_cons (ps_if (pt_cmpR op_lt (pe_op op_mul (pe_op op_add (pv 6) pe_int) (pv 5)) (pv 4) (nomark _)) (pss_one (ps_ret (pe_tup (pa_cons (pe_op op_add (pv 6) pe_int) (pa_cons pe_int pa_nil))))) pss_nil)
        (pss_cons (ps_if (pt_cmpR op_eq (pv 2) (pe_op op_mul (pv 6) (pv 3)) (nomark _))
          (pss_one (ps_set (i := 7) scSimplest.nd rfl (.inl rfl) (pe_tup (pa_cons (pe_op op_add (pe_op op_fdiv (pv 5) (pe_op op_sub (pv 4) (pe_op op_mul (pv 6) (pv 5)))) pe_int) (pa_cons pe_int pa_nil)))))
          (pss_one (ps_set (i := 7) scSimplest.nd rfl (.inl rfl) (pe_cal C hr (pa_cons (pe_tup (pa_cons (pv 5) (pa_cons (pe_op op_sub (pv 4) (pe_op op_mul (pv 6) (pv 5))) pa_nil))) (pa_cons (pe_tup (pa_cons (pv 3) (pa_cons (pe_op op_sub (pv 2) (pe_op op_mul (pv 6) (pv 3))) pa_nil))) pa_nil))))))
        (pss_one (ps_ret (pe_tup (pa_cons (pe_op op_add (pe_op op_mul (pv 6) (pe_ix ix_tup (pv 7) pe_int (fun _ _ => rfl))) (pe_ix ix_tup (pv 7) pe_int (fun _ _ => rfl))) (pa_cons (pe_ix ix_tup (pv 7) pe_int (fun _ _ => rfl)) pa_nil))))))))), ?_⟩
      have hL : SqT K H lo [.int a, .int b] := .of el
      have hH : SqT K H hi [.int c, .int d] := .of eh
      obtain ⟨w0, w1, w2⟩ := div_facts iv.b0 (Int.le_of_lt iv.a0)
      have w3 : a / b ≤ a := Int.ediv_le_self b (Int.le_of_lt iv.a0)
      have b0 := iv.b0
      have d0 := iv.d0
      refine ⟨_, rfl, lo, _, rfl, hL, rfl, .int a, [.int b], rfl, .int b, [], rfl, rfl, ?_⟩
      refine ⟨_, rfl, hi, _, rfl, hH, rfl, .int c, [.int d], rfl, .int d, [], rfl, rfl, ?_⟩
      refine ⟨_, rfl, _, rfl, a, b, rfl, rfl, ⟨by omega, by omega⟩, ?_⟩
      refine ⟨_, rfl, _, 1, rfl, rfl, _, rfl, _, d, rfl, rfl, .inl ⟨by omega, by omega⟩, _, rfl, _, c, rfl, rfl, _, rfl, ite2 (fun h1 => ?_) (fun h1 => ?_)⟩
      · have h1 : (a / b + 1) * d < c := of_decide_eq_true h1
        refine ⟨_, rfl, _, 1, rfl, rfl, two_line, fun p hp => q p _ (same_upd hp) ?_⟩
        rw [upd_same]
        unfold simp_
        rw [if_pos h1]
      · have h1 : ¬ (a / b + 1) * d < c := fun z => h1 (decide_eq_true z)
        refine ⟨_, rfl, _, rfl, _, rfl, _, b, rfl, rfl, .inl ⟨by omega, by omega⟩, rfl, _, rfl, ?_⟩
        by_cases h2 : a = a / b * b
        · rw [decide_eq_true (congrArg V.int h2)]
          refine iteT ?_
          have nn : 0 < c - a / b * d := by
            have q1 : a / b * b * d ≤ a * d := Int.mul_le_mul_of_nonneg_right w1 (by omega)
            have lt := iv.lt
            have q2 : (a / b * d) * b < c * b := by grind
            have q3 : a / b * d < c := Int.lt_of_mul_lt_mul_right q2 (by omega)
            omega
          have n9 : c - a / b * d < 1073741824 := by
            have := Int.mul_nonneg w0 (Int.le_of_lt d0)
            omega
          refine ⟨_, rfl, _, rfl, _, rfl, _, rfl, _, d, rfl, rfl, .inl ⟨by omega, by omega⟩, c, _, rfl, rfl, d, _, rfl, rfl, ⟨nn, n9⟩, _, 1, rfl, rfl, two_line, fun t ht => ?_⟩
          have s1 := same_upd (o := .tup [.int (d / (c - a / b * d) + 1), .int 1]) ht
          have hT : SqT K (upd H t (.tup [.int (d / (c - a / b * d) + 1), .int 1])) t [.int (d / (c - a / b * d) + 1), .int 1] := .of upd_same
          refine ⟨_, rfl, _, rfl, t, _, 0, _, rfl, rfl, hT, rfl, _, _, rfl, rfl, .inl ⟨by omega, by omega⟩, _, rfl, t, _, 1, _, rfl, rfl, hT, rfl, _, _, rfl, rfl, _, rfl, t, _, 0, _, rfl, rfl, hT, rfl, two_line, fun p hp => q p _ (s1.trans (same_upd hp)) ?_⟩
          rw [upd_same]
          unfold simp_
          rw [if_neg h1, if_pos h2]
        · rw [decide_eq_false (fun z => h2 (V.int.inj z))]
          refine iteF ?_
          obtain ⟨i2, k1, k2⟩ := iv.next h1 h2
          have dp2 : Deep n d (c - a / b * d) b (a - a / b * b) := (dp.resolve_left h1).resolve_left h2
          have m1 : 0 ≤ a / b * d := Int.mul_nonneg w0 (Int.le_of_lt d0)
          refine ⟨_, rfl, _, rfl, _, rfl, _, rfl, _, d, rfl, rfl, .inl ⟨by omega, by omega⟩, c, _, rfl, rfl, two_line, fun t1 ht1 => ?_⟩
          have s1 := same_upd (o := .tup [.int d, .int (c - a / b * d)]) ht1
          refine ⟨_, rfl, _, rfl, _, rfl, _, rfl, _, b, rfl, rfl, .inl ⟨by omega, by omega⟩, a, _, rfl, rfl, two_line, fun t2 ht2 => ?_⟩
          have s2 := same_upd (o := .tup [.int b, .int (a - a / b * b)]) ht2
          refine ⟨t1, t2, d, _, b, _, rfl, s2 _ _ upd_same, upd_same, i2, dp2, by omega, by omega, by omega, by omega, fun t H3 s3 et => ?_⟩
          have hT : SqT K H3 t [.int (simp_ n d (c - a / b * d) b (a - a / b * b)).1, .int (simp_ n d (c - a / b * d) b (a - a / b * b)).2] := .of et
          refine ⟨_, rfl, _, rfl, t, _, 0, _, rfl, rfl, hT, rfl, _, _, rfl, rfl, .inl ⟨by omega, by omega⟩, _, rfl, t, _, 1, _, rfl, rfl, hT, rfl, _, _, rfl, rfl, _, rfl, t, _, 0, _, rfl, rfl, hT, rfl, two_line, fun p hp => q p _ (s1.trans (s2.trans (s3.trans (same_upd hp)))) ?_⟩
          rw [upd_same]
          show _ = some (HO.tup [.int (simp_ (n + 1) a b c d).1, .int (simp_ (n + 1) a b c d).2])
          rw [simp_deep h1 h2]
end
end K38
namespace K38
open PySem PySem.Spec PyProof.Rows L2 Seat LamX
section
variable {P : Program} {w : World} {K : PySem.W.Frag} {mg : Str → Option Value} {base : Heap}
/-! ### votes_between -/
theorem scVotes : FnScope ["one", "other"] ["one", "other"] (defScope sVotes) := ⟨rfl, rfl, rfl, by decide +kernel, rfl, by decide +kernel, by decide +kernel⟩
def spVotes : Sp := fun vs H Q _ => ∃ (r1 r2 : Addr) (a b c d : Int), vs = [.ref r1, .ref r2] ∧ H r1 = some (.tup [.int a, .int b]) ∧ H r2 = some (.tup [.int c, .int d]) ∧ Sides a b c d ∧
  ∀ p H', Same H H' → H' p = some (.tup [.int (vote a b c d).1, .int (vote a b c d).2]) → Q (.ref p) H'
theorem ok_votes (D : Def K mg "votes_between" sVotes) (C : Cal P w K mg base 19 "simplest" ["low", "high"] (spSimplest 19)) : Cal P w K mg base 20 "votes_between" ["one", "other"] spVotes := by
  refine cal_of D scVotes (fun _ _ _ _ _ _ us hl => match us, hl with | [_, _], _ => rfl) (fun vs H Q E h => ?_) (fun f cdv A outer s H vs Q E hr h => ?_)
  · obtain ⟨r1, r2, a, b, c, d, rfl, _⟩ := h
    rfl
  · obtain ⟨r1, r2, a, b, c, d, rfl, e1, e2, sd, q⟩ := h
    refine ⟨_, pss_cons (ps_if (pt_cmpR op_lt (pe_op op_mul (pe_ix ix_tup (pv 0) pe_int (fun _ _ => rfl)) (pe_ix ix_tup (pv 1) pe_int (fun _ _ => rfl))) (pe_op op_mul (pe_ix ix_tup (pv 1) pe_int (fun _ _ => rfl)) (pe_ix ix_tup (pv 0) pe_int (fun _ _ => rfl))) (nomark _))
        (pss_one (ps_ret (pe_cal C hr (pa_cons (pv 0) (pa_cons (pv 1) pa_nil))))) pss_nil)
      (pss_one (ps_ret (pe_cal C hr (pa_cons (pv 1) (pa_cons (pv 0) pa_nil))))), ?_⟩
    have h1 : SqT K H r1 [.int a, .int b] := .of e1
    have h2 : SqT K H r2 [.int c, .int d] := .of e2
    have ⟨a0, a9, b0, b9, c0, c9, d0, d9, ne⟩ := sd
    refine ⟨_, rfl, r1, _, 0, _, rfl, rfl, h1, rfl, _, rfl, r2, _, 1, _, rfl, rfl, h2, rfl, _, _, rfl, rfl, .inl ⟨by omega, by omega⟩, _, rfl, r2, _, 0, _, rfl, rfl, h2, rfl, _, rfl, r1, _, 1, _, rfl, rfl, h1, rfl, _, _, rfl, rfl, .inl ⟨by omega, by omega⟩, _, _, rfl, rfl, _, rfl, ite2 (fun z => ?_) (fun z => ?_)⟩
    · have z : a * d < c * b := of_decide_eq_true z
      obtain ⟨iv, dp⟩ := sd.up z
      refine ⟨_, rfl, _, rfl, r1, r2, a, b, c, d, rfl, e1, e2, iv, dp, by omega, by omega, by omega, by omega, fun p H' sm ep => q p H' sm ?_⟩
      unfold vote
      rw [if_pos z]
      exact ep
    · have z : ¬ a * d < c * b := fun y => z (decide_eq_true y)
      obtain ⟨iv, dp⟩ := sd.down z
      refine ⟨_, rfl, _, rfl, r2, r1, c, d, a, b, rfl, e2, e1, iv, dp, by omega, by omega, by omega, by omega, fun p H' sm ep => q p H' sm ?_⟩
      unfold vote
      rw [if_neg z]
      exact ep
/-! ### telling_votes -/
theorem scTelling : FnScope ["method", "other", "pair", "one", "two"] ["method", "other"] (defScope sTelling) := ⟨rfl, rfl, rfl, by decide +kernel, rfl, by decide +kernel, by decide +kernel⟩
/-- the votes at the pair q -/
def voteAt (fs gs : List Int) (st tt : Int) (q : Nat × Nat) : Int × Int := vote (dv fs st q.1) (dv fs st q.2) (dv gs tt q.1) (dv gs tt q.2)
def spTelling (T : List (Addr × Str)) : Sp := fun vs H Q _ => ∃ (m m2 : Addr) (fs gs : List Int) (st tt : Int), vs = [.ref m, .ref m2] ∧ Meth H m fs st ∧ Meth H m2 gs tt ∧ Two fs st gs tt ∧ Tabs T H ∧
  (first fs gs st tt = none → ∀ H', ExtN H H' → Q .non H') ∧
  ∀ q, first fs gs st tt = some q → ∀ r v H', ExtN H H' → H' r = some (.tup [.ref v, .int ((q.1 : Int) + (q.2 : Int) + 1)]) → H' v = some (.tup [.int (voteAt fs gs st tt q).1, .int (voteAt fs gs st tt q).2]) → Q (.ref r) H'
theorem ok_telling {T : List (Addr × Str)} (D : Def K mg "telling_votes" sTelling) (C1 : Cal P w K mg base 4 "check_both" ["method", "other"] spCheckB) (C2 : Cal P w K mg base 5 "differing_pair" ["method", "other"] (spDiffer T)) (C3 : Cal P w K mg base 3 "ratios_at" ["method", "other", "pair"] spRatios)
    (C4 : Cal P w K mg base 20 "votes_between" ["one", "other"] spVotes) : Cal P w K mg base 21 "telling_votes" ["method", "other"] (spTelling T) := by
  refine cal_of D scTelling (fun _ _ _ _ _ _ us hl => match us, hl with | [_, _], _ => rfl) (fun vs H Q E h => ?_) (fun f cdv A outer s H vs Q E hr h => ?_)
  · obtain ⟨m, m2, fs, gs, st, tt, rfl, _⟩ := h
    rfl
  · obtain ⟨m, m2, fs, gs, st, tt, rfl, hM, hN, tw, hT, qn, qs⟩ := h
    refine ⟨_, pss_cons (ps_expr (pe_cal C1 (hr.mono (by decide)) (pa_cons (pv 0) (pa_cons (pv 1) pa_nil))))
      (pss_cons (ps_set (i := 2) scTelling.nd rfl (.inl rfl) (pe_cal C2 (hr.mono (by decide)) (pa_cons (pv 0) (pa_cons (pv 1) pa_nil))))
      (pss_cons (ps_if (pt_cmpR op_isN (pv 2) pe_non (nomark _)) (pss_one (ps_ret pe_non)) pss_nil)
      (pss_cons (ps_asg (pe_cal C3 (hr.mono (by decide)) (pa_cons (pv 0) (pa_cons (pv 1) (pa_cons (pv 2) pa_nil)))) (pg_tup (by rfl) (pgs_cons (pg_name (i := 3) scTelling.nd rfl (.inl rfl)) (pgs_cons (pg_name (i := 4) scTelling.nd rfl (.inl rfl)) pgs_nil))))
      (pss_one (ps_ret (pe_tup (pa_cons (pe_cal C4 hr (pa_cons (pv 3) (pa_cons (pv 4) pa_nil))) (pa_cons (pe_op op_add (pe_op op_add (pe_ix ix_tup (pv 2) pe_int (fun _ _ => rfl)) (pe_ix ix_tup (pv 2) pe_int (fun _ _ => rfl))) pe_int) pa_nil)))))))), ?_⟩
    refine ⟨_, rfl, _, rfl, m, m2, fs, gs, st, tt, rfl, hM, hN, tw.one, tw.two, fun H1 s1 => ?_⟩
    refine ⟨_, rfl, _, rfl, m, m2, fs, gs, st, tt, rfl, hM.same s1, hN.same s1, tw, hT.ext s1, fun hn H2 x2 => ?_, fun z hz p H2 x2 ep => ?_⟩
    · refine ⟨_, rfl, rfl, _, rfl, iteT ?_⟩
      exact qn hn H2 ((ExtN.of s1).trans x2)
    · have x1 := (ExtN.of s1).trans x2
      have hm : z ∈ prs (span fs gs) := List.mem_of_find?_eq_some hz
      obtain ⟨m1, m2'⟩ := of_mem_prs hm
      refine ⟨_, rfl, rfl, _, rfl, iteF ?_⟩
      refine ⟨_, rfl, _, rfl, _, rfl, m, m2, p, fs, gs, st, tt, z.1, z.2, rfl, hM.ext x1, hN.ext x1, tw.one, tw.two, ep, m1, m2', fun r a b H3 s3 er ea eb => ?_⟩
      refine ⟨r, [.ref a, .ref b], rfl, .of er, rfl, .ref a, [.ref b], rfl, .ref b, [], rfl, rfl, ?_⟩
      refine ⟨_, rfl, _, rfl, a, b, _, _, _, _, rfl, ea, eb, (first_apart tw hz).sides, fun v H4 s4 ev => ?_⟩
      have hP : SqT K H4 p [.int z.1, .int z.2] := .of (s4 _ _ (s3 _ _ ep))
      refine ⟨_, rfl, p, _, 0, _, rfl, rfl, hP, rfl, _, rfl, p, _, 1, _, rfl, rfl, hP, rfl, _, _, rfl, rfl, _, 1, rfl, rfl, two_line, fun t ht => ?_⟩
      have s5 := same_upd (o := .tup [.ref v, .int ((z.1 : Int) + (z.2 : Int) + 1)]) ht
      exact qs z hz t v _ (x1.trans (ExtN.of (s3.trans (s4.trans s5)))) upd_same (s5 _ _ ev)
/-! ### is_question -/
theorem scQuestion : FnScope ["value"] ["value"] (defScope sQuestion) := ⟨rfl, rfl, rfl, by decide +kernel, rfl, by decide +kernel, by decide +kernel⟩
def spQuestion : Sp := fun vs H Q _ => ∃ (r v : Addr) (p u h : Int), vs = [.ref r] ∧ H r = some (.tup [.ref v, .int h]) ∧ H v = some (.tup [.int p, .int u]) ∧ 1 ≤ p ∧ 1 ≤ u ∧ 1 ≤ h ∧ h ≤ 100 ∧ Q (.bl true) H
theorem ok_question (D : Def K mg "is_question" sQuestion) (B : Blt mg) (M : Con mg) (C1 : Cal P w K mg base 2 "is_pair_of_counts" ["value"] spPairC) (C2 : Cal P w K mg base 1 "is_whole" ["value", "low", "high"] spWhole) : Cal P w K mg base 3 "is_question" ["value"] spQuestion := by
  obtain ⟨th, hh⟩ := M.house
  refine cal_of D scQuestion (fun _ _ _ _ _ _ us hl => match us, hl with | [_], _ => rfl) (fun vs H Q E h => ?_) (fun f cdv A outer s H vs Q E hr h => ?_)
  · obtain ⟨r, v, p, u, h, rfl, _⟩ := h
    rfl
  · obtain ⟨r, v, p, u, k, rfl, er, ev, p1, u1, k1, k2, q⟩ := h
    refine ⟨_, pss_cons (ps_if (PW.pt (pw_or (pt_not (pt_val (pe_callB call_isi (by rfl) B.isinstance (by decide +kernel) (pa_cons (pv 0) (pa_cons (pe_bltn (v := .ty "tuple") (by rfl) B.tuple (by decide +kernel) rfl) pa_nil)))))
        (pw_or (pt_cmpR op_ne (pe_callB call_len_seq (by rfl) B.len PySem.boot_len (pa_cons (pv 0) pa_nil)) pe_int (nomark _))
          (pw_or1 (pt_not (pt_val (pe_cal C1 hr (pa_cons (pe_ix ix_tup (pv 0) pe_int (fun _ _ => rfl)) pa_nil)))))))) (pss_one (ps_ret pe_bl)) pss_nil)
      (pss_one (ps_ret (pe_cal C2 (hr.mono (by decide)) (pa_cons (pe_ix ix_tup (pv 0) pe_int (fun _ _ => rfl)) (pa_cons pe_int (pa_cons (pe_glob (v := .int 100) (by rfl) hh ⟨_, rfl⟩) pa_nil)))))), ?_⟩
    have hR : SqT K H r [.ref v, .int k] := .of er
    refine ⟨_, rfl, _, _, _, _, true, rfl, .ty _, .base (.tup er), kTup, true, rfl, iteF ?_⟩
    refine ⟨_, rfl, r, _, rfl, .inr hR, rfl, _, rfl, iteF ?_⟩
    refine ⟨_, rfl, r, _, 0, _, rfl, rfl, hR, rfl, v, p, u, rfl, ev, p1, u1, true, rfl, iteF ?_⟩
    exact ⟨_, rfl, r, _, 1, _, rfl, rfl, hR, rfl, k, 1, 100, rfl, k1, k2, q⟩
/-! ### is_fair -/
theorem scFair : FnScope ["divisors", "votes", "own", "more"] ["divisors", "votes", "own", "more"] (defScope sFair) := ⟨rfl, rfl, rfl, by decide +kernel, rfl, by decide +kernel, by decide +kernel⟩
def spFair : Sp := fun vs H Q _ => ∃ (dt vt : Addr) (fs : List Int) (st p u : Int) (n own more : Nat), vs = [.ref dt, .ref vt, .int own, .int more] ∧ H dt = some (.tup ((dvs fs st n).map V.int)) ∧ H vt = some (.tup [.int p, .int u]) ∧ own < n ∧ more < n ∧
  -(2 ^ 64) < p ∧ p < 2 ^ 64 ∧ -(2 ^ 64) < u ∧ u < 2 ^ 64 ∧ Q (.bl (fair (dv fs st) p u own more)) H
theorem ok_fair (D : Def K mg "is_fair" sFair) : Cal P w K mg base 1 "is_fair" ["divisors", "votes", "own", "more"] spFair := by
  refine cal_of D scFair (fun _ _ _ _ _ _ us hl => match us, hl with | [_, _, _, _], _ => rfl) (fun vs H Q E h => ?_) (fun f cdv A outer s H vs Q E hr h => ?_)
  · obtain ⟨dt, vt, fs, st, p, u, n, own, more, rfl, _⟩ := h
    rfl
  · obtain ⟨dt, vt, fs, st, p, u, n, own, more, rfl, ed, ev, ho, hm, p1, p2, u1, u2, q⟩ := h
    refine ⟨_, pss_cons (ps_if (PW.pt (pw_and (pt_cmpR op_gt (pv 2) pe_int (nomark _)) (pw_and1 (pt_cmpR op_gt (pe_op op_mul (pe_ix ix_tup (pv 1) pe_int (fun _ _ => rfl)) (pe_ix ix_tup (pv 0) (pe_op op_sub (pv 2) pe_int) (fun _ _ => rfl)))
        (pe_op op_mul (pe_ix ix_tup (pv 1) pe_int (fun _ _ => rfl)) (pe_ix ix_tup (pv 0) (pv 3) (fun _ _ => rfl))) (nomark _))))) (pss_one (ps_ret pe_bl)) pss_nil)
      (pss_one (ps_ret (pe_or (pe_cmpR op_eq (pv 3) pe_int (nomark _)) (pe_one (pe_cmpR op_le (pe_op op_mul (pe_ix ix_tup (pv 1) pe_int (fun _ _ => rfl)) (pe_ix ix_tup (pv 0) (pe_op op_sub (pv 3) pe_int) (fun _ _ => rfl)))
        (pe_op op_mul (pe_ix ix_tup (pv 1) pe_int (fun _ _ => rfl)) (pe_ix ix_tup (pv 0) (pv 2) (fun _ _ => rfl))) (nomark _)))))), ?_⟩
    have hD : SqT K H dt ((dvs fs st n).map V.int) := .of ed
    have hV : SqT K H vt [.int p, .int u] := .of ev
    -- the last statement
    have last : (decide (0 < own) && decide (u * dv fs st (own - 1) > p * dv fs st more)) = false → (tRet (tOrV (tOp rEq (tVar 3) (tC (.int 0))) (tOp (rI0 fun i j => .bl (decide (i ≤ j))) (tOp (rI CMul fun i j => .int (i * j)) (tOp (rIxT K) (tVar 1) (tC (.int 0))) (tOp (rIxT K) (tVar 0) (tOp (rI0 fun i j => .int (i - j)) (tVar 3) (tC (.int 1)))))
        (tOp (rI CMul fun i j => .int (i * j)) (tOp (rIxT K) (tVar 1) (tC (.int 1))) (tOp (rIxT K) (tVar 0) (tVar 2)))))) { nx := fun _ H' => Q .non H', rt := Q } (L2.start ["divisors", "votes", "own", "more"] [.ref dt, .ref vt, .int own, .int more]) H := fun hf => by
      unfold fair at q
      rw [hf] at q
      refine ⟨_, rfl, rfl, _, rfl, ?_⟩
      by_cases h0 : more = 0
      · subst h0
        rw [decide_eq_true (show V.int ((0 : Nat) : Int) = V.int 0 from rfl)]
        refine iteT ?_
        simpa using q
      · rw [decide_eq_false (show ¬ V.int (more : Int) = V.int 0 from fun z => h0 (by have := V.int.inj z; omega))]
        refine iteF ?_
        refine ⟨_, rfl, vt, _, 0, _, rfl, rfl, hV, rfl, _, rfl, _, rfl, _, 1, rfl, rfl, dt, _, (more : Int) - 1, _, rfl, rfl, hD, at_of (j := more - 1) (by omega) (ints_get (dvs_get (by omega))), p, _, rfl, rfl, .inl ⟨p1, p2⟩, ?_⟩
        refine ⟨_, rfl, vt, _, 1, _, rfl, rfl, hV, rfl, _, rfl, _, rfl, dt, _, (own : Int), _, rfl, rfl, hD, at_int (dvs_get ho), u, _, rfl, rfl, .inl ⟨u1, u2⟩, _, _, rfl, rfl, ?_⟩
        rw [decide_eq_false h0] at q
        exact q
    refine ⟨_, rfl, (own : Int), 0, rfl, rfl, _, rfl, ?_⟩
    by_cases ho0 : 0 < own
    · rw [decide_eq_true (show (0 : Int) < (own : Int) by omega)]
      refine iteT ?_
      refine ⟨_, rfl, vt, _, 1, _, rfl, rfl, hV, rfl, _, rfl, _, rfl, _, 1, rfl, rfl, dt, _, (own : Int) - 1, _, rfl, rfl, hD, at_of (j := own - 1) (by omega) (ints_get (dvs_get (by omega))), u, _, rfl, rfl, .inl ⟨u1, u2⟩, ?_⟩
      refine ⟨_, rfl, vt, _, 0, _, rfl, rfl, hV, rfl, _, rfl, _, rfl, dt, _, (more : Int), _, rfl, rfl, hD, at_int (dvs_get hm), p, _, rfl, rfl, .inl ⟨p1, p2⟩, _, _, rfl, rfl, _, rfl, ?_⟩
      by_cases h1 : u * dv fs st (own - 1) > p * dv fs st more
      · rw [decide_eq_true (show p * dv fs st more < u * dv fs st (own - 1) from h1)]
        refine iteT ?_
        unfold fair at q
        rw [decide_eq_true ho0, decide_eq_true h1] at q
        exact q
      · rw [decide_eq_false (show ¬ p * dv fs st more < u * dv fs st (own - 1) from h1)]
        refine iteF (last ?_)
        rw [decide_eq_false h1, Bool.and_false]
    · rw [decide_eq_false (show ¬ (0 : Int) < (own : Int) by omega)]
      refine iteF (iteF (last ?_))
      rw [decide_eq_false ho0, Bool.false_and]
end
end K38
namespace K38
open PySem PySem.Spec PyProof.Rows L2 Seat LamX
/-- the list of the seats of the first party -/
abbrev nats (l : List Nat) : List V := l.map fun (o : Nat) => V.int (o : Int)
theorem not_in {o : Nat} {l : List Nat} (h : o ∉ l) : inV (.int (o : Int)) (nats l) = false := by
  unfold inV
  rw [List.any_eq_false]
  intro y hy
  obtain ⟨z, hz, rfl⟩ := List.mem_map.mp hy
  show ¬ ((z : Int) == (o : Int)) = true
  intro c
  have e : z = o := by
    have q := eq_of_beq c
    omega
  rw [e] at hz
  exact h hz
theorem flat_nats (l : List Nat) : (nats l).all flatV = true := by
  rw [List.all_eq_true]
  intro y hy
  obtain ⟨z, _, rfl⟩ := List.mem_map.mp hy
  rfl
/-- the rows so far -/
def rowsTo (D : Nat → Int) (v u : Int) (house i : Nat) : List Nat := (List.range i).filter fun own => fair D v u own (house - own)
theorem rowsTo_len (D : Nat → Int) (v u : Int) (house i : Nat) : (rowsTo D v u house i).length ≤ i := by
  have h := List.length_filter_le (fun own => fair D v u own (house - own)) (List.range i)
  rw [List.length_range] at h
  exact h
theorem rowsTo_yes {D : Nat → Int} {v u : Int} {house i : Nat} (h : fair D v u i (house - i) = true) : rowsTo D v u house (i + 1) = rowsTo D v u house i ++ [i] := by
  unfold rowsTo
  rw [List.range_succ, List.filter_append]
  simp [h]
theorem rowsTo_no {D : Nat → Int} {v u : Int} {house i : Nat} (h : fair D v u i (house - i) = false) : rowsTo D v u house (i + 1) = rowsTo D v u house i := by
  unfold rowsTo
  rw [List.range_succ, List.filter_append]
  simp [h]
section
variable {P : Program} {w : World} {K : PySem.W.Frag} {mg : Str → Option Value} {base : Heap}
/-! ### divisions -/
theorem scDivisions : FnScope ["method", "votes", "house", "divisors", "own"] ["method", "votes", "house"] (defScope sDivisions) := ⟨rfl, rfl, rfl, by decide +kernel, rfl, by decide +kernel, by decide +kernel⟩
def spDivisions : Sp := fun vs H Q _ => ∃ (m vt : Addr) (fs : List Int) (st p u : Int) (k : Nat), vs = [.ref m, .ref vt, .int k] ∧ Meth H m fs st ∧ Good fs st ∧ H vt = some (.tup [.int p, .int u]) ∧ -(2 ^ 64) < p ∧ p < 2 ^ 64 ∧ -(2 ^ 64) < u ∧ u < 2 ^ 64 ∧ k ≤ 100 ∧
  ∀ l H', Same H H' → H' l = some (.lst (nats (rows (dv fs st) p u k))) → Q (.ref l) H'
theorem ok_divisions (D : Def K mg "divisions" sDivisions) (B : Blt mg) (C1 : Cal P w K mg base 2 "divisors_to" ["method", "many"] spDivsTo) (C2 : Cal P w K mg base 1 "is_fair" ["divisors", "votes", "own", "more"] spFair) : Cal P w K mg base 3 "divisions" ["method", "votes", "house"] spDivisions := by
  refine cal_of D scDivisions (fun _ _ _ _ _ _ us hl => match us, hl with | [_, _, _], _ => rfl) (fun vs H Q E h => ?_) (fun f cdv A outer s H vs Q E hr h => ?_)
  · obtain ⟨m, vt, fs, st, p, u, k, rfl, _⟩ := h
    rfl
  · obtain ⟨m, vt, fs, st, p, u, k, rfl, hM, g, ev, p1, p2, u1, u2, k9, q⟩ := h
    refine ⟨_, pss_cons (ps_set (i := 3) scDivisions.nd rfl (.inr rfl) (pe_cal C1 hr (pa_cons (pv 0) (pa_cons (pe_op op_add (pv 2) pe_int) pa_nil))))
      (pss_one (ps_ret (pe_lc (own := [("own", 4)]) (g := gName 4) rfl scDivisions.nd (pi_range1 (by rfl) B.range (pa_cons (pe_op op_add (pv 2) pe_int) pa_nil)) (blkOk_by (own := [("own", 4)]) (N := ["method", "votes", "house", "divisors", "own"]) (sc := defScope sDivisions) (by decide +kernel))
          (fun _ _ _ _ _ => pg_name (i := 4) scDivisions.nd rfl (Or.inl rfl)) (fun _ _ _ _ _ => pts_one (pt_val (pe_cal C2 (hr.mono (by decide)) (pa_cons (pv 3) (pa_cons (pv 1) (pa_cons (pv 4) (pa_cons (pe_op op_sub (pv 2) (pv 4)) pa_nil))))))) (fun _ _ _ _ _ => pv 4)))), ?_⟩
    refine ⟨_, rfl, _, rfl, (k : Int), 1, rfl, rfl, m, fs, st, k + 1, rfl, hM, g, by omega, fun d H1 s1 ed => ?_⟩
    refine ⟨_, rfl, (k : Int), 1, rfl, rfl, (k : Int) + 1, rfl, by omega, by omega, fun L hL => ?_⟩
    have en : ((k : Int) + 1).toNat = k + 1 := by omega
    rw [en]
    refine lc_range (lo := 0) (n := k + 1) (fun i H' => Same H1 H' ∧ H' L = some (.lst (nats (rowsTo (dv fs st) p u k i)))) ⟨same_upd hL, upd_same⟩ (fun i H' hi h => ?_) (fun H' h => ?_)
    · obtain ⟨sm, e⟩ := h
      have ei : (0 : Int) + (i : Int) = (i : Int) := Int.zero_add _
      rw [ei]
      refine ⟨rfl, ?_⟩
      have es : (k : Int) - (i : Int) = ((k - i : Nat) : Int) := by omega
      refine ⟨_, rfl, _, rfl, _, rfl, _, rfl, _, rfl, (k : Int), (i : Int), rfl, rfl, d, vt, fs, st, p, u, k + 1, i, k - i, (show [V.ref d, V.ref vt, V.int (i : Int), V.int ((k : Int) - (i : Int))] = [V.ref d, V.ref vt, V.int (i : Int), V.int ((k - i : Nat) : Int)] by rw [es]), sm _ _ ed, sm _ _ (s1 _ _ ev), hi, by omega, p1, p2, u1, u2, _, rfl, ?_⟩
      by_cases hf : fair (dv fs st) p u i (k - i) = true
      · rw [hf]
        refine iteT ⟨_, rfl, _, e, ?_, same_set hL sm, ?_⟩
        · rw [List.length_map]
          have := rowsTo_len (dv fs st) p u k i
          exact small1000 (by omega)
        · rw [upd_same, rowsTo_yes hf]
          unfold nats
          rw [List.map_append]
          rfl
      · have hf : fair (dv fs st) p u i (k - i) = false := by
          cases e : fair (dv fs st) p u i (k - i) with
          | true => exact absurd e hf
          | false => rfl
        rw [hf]
        refine iteF ⟨sm, ?_⟩
        rw [rowsTo_no hf]
        exact e
    · obtain ⟨sm, e⟩ := h
      exact q L H' (s1.trans sm) e
/-! ### accepts_telling -/
theorem scAccepts : FnScope ["method", "other", "value", "first", "second", "own"] ["method", "other", "value"] (defScope sAccepts) := ⟨rfl, rfl, rfl, by decide +kernel, rfl, by decide +kernel, by decide +kernel⟩
def spAccepts : Sp := fun vs H Q _ => ∃ (m m2 r v : Addr) (fs gs : List Int) (st tt p u : Int) (k : Nat), vs = [.ref m, .ref m2, .ref r] ∧ Meth H m fs st ∧ Meth H m2 gs tt ∧ Good fs st ∧ Good gs tt ∧ H r = some (.tup [.ref v, .int k]) ∧ H v = some (.tup [.int p, .int u]) ∧
  1 ≤ p ∧ p < 2 ^ 64 ∧ 1 ≤ u ∧ u < 2 ^ 64 ∧ 1 ≤ k ∧ k ≤ 100 ∧ (∀ o, o ∈ rows (dv fs st) p u k → o ∉ rows (dv gs tt) p u k) ∧ ∀ H', Same H H' → Q (.bl true) H'
theorem ok_accepts (D : Def K mg "accepts_telling" sAccepts) (B : Blt mg) (C1 : Cal P w K mg base 4 "check_both" ["method", "other"] spCheckB) (C2 : Cal P w K mg base 3 "is_question" ["value"] spQuestion) (C3 : Cal P w K mg base 3 "divisions" ["method", "votes", "house"] spDivisions) :
    Cal P w K mg base 5 "accepts_telling" ["method", "other", "value"] spAccepts := by
  refine cal_of D scAccepts (fun _ _ _ _ _ _ us hl => match us, hl with | [_, _, _], _ => rfl) (fun vs H Q E h => ?_) (fun f cdv A outer s H vs Q E hr h => ?_)
  · obtain ⟨m, m2, r, v, fs, gs, st, tt, p, u, k, rfl, _⟩ := h
    rfl
  · obtain ⟨m, m2, r, v, fs, gs, st, tt, p, u, k, rfl, hM, hN, g1, g2, er, ev, p1, p2, u1, u2, k1, k9, ap, q⟩ := h
    refine ⟨_, pss_cons (ps_expr (pe_cal C1 hr (pa_cons (pv 0) (pa_cons (pv 1) pa_nil))))
      (pss_cons (ps_if (pt_not (pt_val (pe_cal C2 (hr.mono (by decide)) (pa_cons (pv 2) pa_nil)))) (pss_one (ps_ret pe_bl)) pss_nil)
      (pss_cons (ps_set (i := 3) scAccepts.nd rfl (.inl rfl) (pe_cal C3 (hr.mono (by decide)) (pa_cons (pv 0) (pa_cons (pe_ix ix_tup (pv 2) pe_int (fun _ _ => rfl)) (pa_cons (pe_ix ix_tup (pv 2) pe_int (fun _ _ => rfl)) pa_nil)))))
      (pss_cons (ps_set (i := 4) scAccepts.nd rfl (.inr rfl) (pe_cal C3 (hr.mono (by decide)) (pa_cons (pv 1) (pa_cons (pe_ix ix_tup (pv 2) pe_int (fun _ _ => rfl)) (pa_cons (pe_ix ix_tup (pv 2) pe_int (fun _ _ => rfl)) pa_nil)))))
      (pss_one (ps_ret (pe_not (pe_callB (cr_any rfl) (by rfl) B.any (by decide +kernel) (pa_cons (pe_lc (own := [("own", 5)]) (g := gName 5) (tt := tYes) rfl scAccepts.nd (pi_list (pv 3)) (blkOk_by (own := [("own", 5)]) (N := ["method", "other", "value", "first", "second", "own"]) (sc := defScope sAccepts) (by decide +kernel))
          (fun _ _ _ _ _ => pg_name (i := 5) scAccepts.nd rfl (Or.inl rfl)) (fun _ _ _ _ _ => pts_nil) (fun _ _ _ _ _ => pe_cmpR (opIn (K := K)) (pv 5) (pv 4) (by rfl))) pa_nil)))))))), ?_⟩
    refine ⟨_, rfl, _, rfl, m, m2, fs, gs, st, tt, rfl, hM, hN, g1, g2, fun H1 s1 => ?_⟩
    refine ⟨_, rfl, r, v, p, u, (k : Int), rfl, s1 _ _ er, s1 _ _ ev, p1, u1, by omega, by omega, true, rfl, iteF ?_⟩
    have hR1 : SqT K H1 r [.ref v, .int k] := .of (s1 _ _ er)
    refine ⟨_, rfl, _, rfl, r, _, 0, _, rfl, rfl, hR1, rfl, _, rfl, r, _, 1, _, rfl, rfl, hR1, rfl, m, v, fs, st, p, u, k, rfl, hM.same s1, g1, s1 _ _ ev, by omega, p2, by omega, u2, k9, fun a H2 s2 ea => ?_⟩
    have hR2 : SqT K H2 r [.ref v, .int k] := .of (s2 _ _ (s1 _ _ er))
    refine ⟨_, rfl, _, rfl, r, _, 0, _, rfl, rfl, hR2, rfl, _, rfl, r, _, 1, _, rfl, rfl, hR2, rfl, m2, v, gs, tt, p, u, k, rfl, (hN.same s1).same s2, g2, s2 _ _ (s1 _ _ ev), by omega, p2, by omega, u2, k9, fun b H3 s3 eb => ?_⟩
    have ea3 := s3 _ _ ea
    refine ⟨_, rfl, a, rfl, ⟨_, .of ea3⟩, fun L hL => ?_⟩
    have hlen : (rows (dv fs st) p u k).length ≤ 101 := by
      have z := rowsTo_len (dv fs st) p u k (k + 1)
      have z : (rows (dv fs st) p u k).length ≤ k + 1 := z
      omega
    refine lc_list (K := K) (a := a) (xs := nats (rows (dv fs st) p u k)) (fun i H' => Same H3 H' ∧ ∃ bs : List Bool, H' L = some (.lst (bs.map V.bl)) ∧ bs.any id = false ∧ bs.length ≤ i)
      ⟨same_upd hL, [], upd_same, rfl, Nat.le_refl _⟩ (fun i H' _ h => .of (h.1 _ _ ea3)) (fun i x H' hx h => ?_) (fun H' h => ?_)
    · obtain ⟨sm, bs, e1, e2, e3⟩ := h
      have hi : i < (rows (dv fs st) p u k).length := by
        have z := (List.getElem?_eq_some_iff.mp hx).1
        rw [List.length_map] at z
        exact z
      rw [List.getElem?_map] at hx
      obtain ⟨o, ho, rfl⟩ := Option.map_eq_some_iff.mp hx
      have hn := not_in (ap o (List.mem_of_getElem? ho))
      refine ⟨rfl, ?_⟩
      refine ⟨_, rfl, _, rfl, b, nats (rows (dv gs tt) p u k), rfl, .inl (.of (sm _ _ eb)), rfl, flat_nats _, ?_⟩
      refine ⟨_, e1, ?_, same_set hL sm, bs ++ [inV (.int (o : Int)) (nats (rows (dv gs tt) p u k))], ?_, ?_, ?_⟩
      · rw [List.length_map]
        exact small1000 (by omega)
      · rw [upd_same, List.map_append]
        rfl
      · rw [hn, List.any_append, e2]
        rfl
      · rw [List.length_append]
        show bs.length + 1 ≤ i + 1
        omega
    · obtain ⟨sm, bs, e1, e2, e3⟩ := h
      refine ⟨L, bs, rfl, .of e1, bs.any id, rfl, ?_⟩
      rw [e2]
      exact q H' (s1.trans (s2.trans (s3.trans sm)))
end
end K38
namespace Seat
/-! ### drawn methods -/
structure Rise (fs : List Int) (top : Int) : Prop where
  ne : 1 ≤ fs.length
  pos : ∀ i, i < fs.length → 1 ≤ fs.getD i 0 ∧ fs.getD i 0 ≤ top
  asc : ∀ i, i + 1 < fs.length → fs.getD i 0 ≤ fs.getD (i + 1) 0
theorem rise_one {x top : Int} (h1 : 1 ≤ x) (h2 : x ≤ top) : Rise [x] top := by
  refine ⟨Nat.le_refl _, fun i hi => ?_, fun i hi => ?_⟩
  · have e : i = 0 := by
      rw [List.length_singleton] at hi
      omega
    rw [e]
    exact ⟨h1, h2⟩
  · rw [List.length_singleton] at hi
    omega
theorem rise_snoc {fs : List Int} {x top t2 : Int} (r : Rise fs top) (h1 : fs.getLastD 0 ≤ x) (h2 : x ≤ t2) (h3 : top ≤ t2) : Rise (fs ++ [x]) t2 := by
  have ne := r.ne
  rw [lastD_eq ne] at h1
  have old : ∀ i, i < fs.length → (fs ++ [x]).getD i 0 = fs.getD i 0 := fun i hi => by
    rw [List.getD_eq_getElem?_getD, List.getElem?_append_left hi, ← List.getD_eq_getElem?_getD]
  have new : (fs ++ [x]).getD fs.length 0 = x := by
    rw [List.getD_eq_getElem?_getD, List.getElem?_append_right (Nat.le_refl _), Nat.sub_self]
    rfl
  have hl : (fs ++ [x]).length = fs.length + 1 := by rw [List.length_append]; rfl
  refine ⟨by omega, fun i hi => ?_, fun i hi => ?_⟩
  · by_cases hi2 : i < fs.length
    · rw [old i hi2]
      have := r.pos i hi2
      omega
    · have e : i = fs.length := by omega
      rw [e, new]
      have := r.pos (fs.length - 1) (by omega)
      omega
  · by_cases hi2 : i + 1 < fs.length
    · rw [old i (by omega), old (i + 1) hi2]
      exact r.asc i hi2
    · have e : i = fs.length - 1 := by omega
      have e2 : fs.length - 1 + 1 = fs.length := by omega
      rw [e, e2, old _ (by omega), new]
      exact h1
theorem Rise.last {fs : List Int} {top : Int} (r : Rise fs top) : 1 ≤ fs.getLastD 0 ∧ fs.getLastD 0 ≤ top := by
  have ne := r.ne
  rw [lastD_eq ne]
  exact r.pos _ (by omega)
theorem Rise.good {fs : List Int} {top st : Int} (r : Rise fs top) (h4 : fs.length ≤ 4) (ht : top ≤ 60) (s1 : 1 ≤ st) (s2 : st ≤ 40) : Good fs st ∧ Small fs st := by
  have l := r.last
  exact ⟨⟨r.ne, by omega, fun i hi => by have := r.pos i hi; omega, r.asc, s1, by omega⟩, ⟨h4, by omega, s2⟩⟩
theorem drawn_two {fs gs : List Int} {st tt : Int} (g1 : Good fs st) (s1 : Small fs st) (g2 : Good gs tt) (s2 : Small gs tt) : Two fs st gs tt := by
  have a := s1.len
  have b := s2.len
  exact ⟨g1, g2, by omega, by omega, .inl ⟨s1, s2⟩⟩
theorem rise_two {x y top : Int} (h1 : 1 ≤ x) (h2 : x ≤ y) (h3 : y ≤ top) : Rise [x, y] top := rise_snoc (fs := [x]) (rise_one (top := x) h1 (Int.le_refl _)) h2 h3 (by omega)
end Seat
namespace K38
open PySem PySem.Spec PyProof.Rows L2 Seat LamX
/-! ### the stream of digits -/
def Stream (H : Hp) (S L : Addr) : Prop := ∃ (ns : List Int) (c k : Int), H S = some (.lst [.ref L, .int c, .int k]) ∧ H L = some (.lst (ns.map V.int)) ∧ 0 ≤ c ∧ 0 ≤ k
/-- all but the stream stays -/
def ButS (S : Addr) (H H' : Hp) : Prop := ∀ b o, b ≠ S → H b = some o → H' b = some o
theorem ButS.of {S : Addr} {H H' : Hp} (s : Same H H') : ButS S H H' := fun b o _ e => s b o e
theorem ButS.trans {S : Addr} {H H1 H2 : Hp} (a : ButS S H H1) (b : ButS S H1 H2) : ButS S H H2 := fun c o n e => b c o n (a c o n e)
theorem ButS.meth {S L m : Addr} {H H' : Hp} {fs : List Int} {st : Int} (s : ButS S H H') (hs : Stream H S L) (h : Meth H m fs st) : Meth H' m fs st := by
  obtain ⟨t, a, b⟩ := h
  obtain ⟨ns, c, k, e, _⟩ := hs
  exact ⟨t, s _ _ (ne_of a e (by intro z; cases z)) a, s _ _ (ne_of b e (by intro z; cases z)) b⟩
theorem Stream.same {H H' : Hp} {S L : Addr} (h : Stream H S L) (s : Same H H') : Stream H' S L := by
  obtain ⟨ns, c, k, a, b, r⟩ := h
  exact ⟨ns, c, k, s _ _ a, s _ _ b, r⟩
theorem apartL {H : Hp} {S L : Addr} {ns : List Int} {c k : Int} (a : H S = some (.lst [.ref L, .int c, .int k])) (b : H L = some (.lst (ns.map V.int))) : L ≠ S := ne_of b a (by
  intro z
  cases ns with
  | nil => cases z
  | cons n r => cases z)
theorem Stream.set {H : Hp} {S L : Addr} {ns : List Int} {c k c' k' : Int} (a : H S = some (.lst [.ref L, .int c, .int k])) (b : H L = some (.lst (ns.map V.int))) (h1 : 0 ≤ c') (h2 : 0 ≤ k') : Stream (upd H S (.lst [.ref L, .int c', .int k'])) S L :=
  ⟨ns, c', k', upd_same, by rw [upd_ne (apartL a b)]; exact b, h1, h2⟩
theorem butS_set {H : Hp} {S : Addr} {o : HO} : ButS S H (upd H S o) := fun b u n e => by
  rw [upd_ne n]
  exact e
section
variable {P : Program} {w : World} {K : PySem.W.Frag} {mg : Str → Option Value} {base : Heap}
theorem scStream : FnScope ["_law_script"] ["_law_script"] (defScope lStream) := ⟨rfl, rfl, rfl, by decide +kernel, rfl, by decide +kernel, by decide +kernel⟩
def spStream (K : PySem.W.Frag) : Sp := fun vs H Q _ => ∃ (a : Addr) (ns : List Int), vs = [.ref a] ∧ SqL K H a (ns.map V.int) ∧ ∀ S L H', Same H H' → Stream H' S L → H S = none → Q (.ref S) H'
theorem ok_stream (D : Def K mg "_law_stream" lStream) (B : Blt mg) : Cal P w K mg base 1 "_law_stream" ["_law_script"] (spStream K) := by
  refine cal_of D scStream (fun _ _ _ _ _ _ us hl => match us, hl with | [_], _ => rfl) (fun vs H Q E h => ?_) (fun f cdv A outer s H vs Q E hr h => ?_)
  · obtain ⟨a, ns, rfl, _⟩ := h
    rfl
  · obtain ⟨a, ns, rfl, hS, q⟩ := h
    refine ⟨_, pss_one (ps_ret (pe_lst (pa_cons (pe_callTy call_list_of (by rfl) B.list (by decide +kernel) (pa_cons (pv 0) pa_nil)) (pa_cons pe_int (pa_cons pe_int pa_nil))))), ?_⟩
    refine ⟨_, rfl, a, _, rfl, .inl hS, fun L hL => ⟨(by show 3 ≤ sizeLine; decide), fun S hS2 => ?_⟩⟩
    have s1 := same_upd (o := .lst (ns.map V.int)) hL
    have s2 := same_upd (o := .lst [.ref L, .int 0, .int 0]) hS2
    exact q S L _ (s1.trans s2) ⟨ns, 0, 0, upd_same, s2 _ _ upd_same, Int.le_refl _, Int.le_refl _⟩ (s1.free hS2)
/-! ### the next digit -/
theorem scNext : FnScope ["_law_stream_here", "_law_many", "_law_k", "_law_cell", "_law_digit"] ["_law_stream_here", "_law_many"] (defScope lNext) := ⟨rfl, rfl, rfl, by decide +kernel, rfl, by decide +kernel, by decide +kernel⟩
def spNext : Sp := fun vs H Q _ => ∃ (S L : Addr) (many : Int), vs = [.ref S, .int many] ∧ Stream H S L ∧ 1 ≤ many ∧ many ≤ 100 ∧ ∀ (d : Int) H', 0 ≤ d → d < many → ButS S H H' → Stream H' S L → Q (.int d) H'
theorem ok_next (D : Def K mg "_law_next" lNext) (B : Blt mg) : Cal P w K mg base 1 "_law_next" ["_law_stream_here", "_law_many"] spNext := by
  refine cal_of D scNext (fun _ _ _ _ _ _ us hl => match us, hl with | [_, _], _ => rfl) (fun vs H Q E h => ?_) (fun f cdv A outer s H vs Q E hr h => ?_)
  · obtain ⟨S, L, many, rfl, _⟩ := h
    rfl
  · obtain ⟨S, L, many, rfl, ⟨ns, c, k, eS, eL, c0, k0⟩, m1, m2, q⟩ := h
    refine ⟨_, Evl.pss_cut (ps_if (pt_cmpR op_eq (pe_ix ix_list (pv 0) pe_int (fun _ _ => rfl)) pe_int (nomark _))
        (pss_cons (ps_set (i := 2) scNext.nd rfl (.inl rfl) (pe_ix ix_list (pv 0) pe_int (fun _ _ => rfl)))
        (pss_cons (ps_set (i := 3) scNext.nd rfl (.inl rfl) (pe_op op_add pe_int (pv 2)))
        (Evl.pss_cut (ps_if (pt_cmpR op_lt (pv 2) (pe_callB call_len_seq (by rfl) B.len PySem.boot_len (pa_cons (pe_ix ix_list (pv 0) pe_int (fun _ _ => rfl)) pa_nil)) (nomark _))
            (pss_one (ps_set (i := 3) scNext.nd rfl (.inl rfl) (pe_callB call_abs (by rfl) B.abs (by decide +kernel) (pa_cons (pe_ix ix_list (pe_ix ix_list (pv 0) pe_int (fun _ _ => rfl)) (pv 2) (fun _ _ => rfl)) pa_nil)))) pss_nil)
        (Evl.pss_cut (ps_if (pt_cmpR op_lt (pv 3) (pe_op op_pow pe_int pe_int) (nomark _))
            (pss_cons (ps_set (i := 3) scNext.nd rfl (.inl rfl) (pe_op op_mod (pe_callTy call_int1 (by rfl) B.int (by decide +kernel) (pa_cons (pe_op op_add (pe_op op_add (pe_op op_mul (pv 3) pe_int) (pe_op op_mul (pv 2) pe_int)) pe_int) pa_nil)) pe_int))
            (pss_one (ps_set (i := 3) scNext.nd rfl (.inl rfl) (pe_op op_add (pe_op op_mul (pe_op op_mod (pe_callTy call_int1 (by rfl) B.int (by decide +kernel) (pa_cons (pe_op op_add (pe_op op_mul (pv 3) pe_int) pe_int) pa_nil)) pe_int) pe_int) (pv 3))))) pss_nil)
        (pss_cons (ps_asg (pv 3) (pg_sub (pv 0) pe_int set_list))
        (pss_one (ps_asg (pe_op op_add (pv 2) pe_int) (pg_sub (pv 0) pe_int set_list)))))))) pss_nil)
      (pss_cons (ps_set (i := 4) scNext.nd rfl (.inl rfl) (pe_op op_mod (pe_callTy call_int1 (by rfl) B.int (by decide +kernel) (pa_cons (pe_ix ix_list (pv 0) pe_int (fun _ _ => rfl)) pa_nil)) (pv 1)))
      (pss_cons (ps_asg (pe_op op_fdiv (pe_ix ix_list (pv 0) pe_int (fun _ _ => rfl)) (pv 1)) (pg_sub (pv 0) pe_int set_list))
      (pss_one (ps_ret (pv 4))))), ?_⟩
    refine ⟨fun σ' H' => ∃ (y2 y3 y4 : Option V) (c' k' : Int), σ' = [some (.ref S), some (.int many), y2, y3, y4] ∧ H' S = some (.lst [.ref L, .int c', .int k']) ∧ H' L = some (.lst (ns.map V.int)) ∧ 0 ≤ c' ∧ 0 ≤ k' ∧ ButS S H H', ?_, fun σ' H' hm => ?_⟩
    · have hS : SqL K H S [.ref L, .int c, .int k] := .of eS
      have hL : SqL K H L (ns.map V.int) := .of eL
      refine ⟨_, rfl, S, _, 1, _, rfl, rfl, hS, rfl, rfl, _, rfl, ite2 (fun _ => ?_) (fun _ => ?_)⟩
      · refine ⟨_, rfl, S, _, 2, _, rfl, rfl, hS, rfl, ?_⟩
        refine ⟨_, rfl, 7, k, rfl, rfl, ?_⟩
        refine ⟨fun σ2 H2 => H = H2 ∧ ∃ (cell : Int) (y4 : Option V), σ2 = [some (.ref S), some (.int many), some (.int k), some (.int cell), y4] ∧ 0 ≤ cell, ?_, fun σ2 H2 hm2 => ?_⟩
        · refine ⟨_, rfl, _, rfl, S, _, 0, _, rfl, rfl, hS, rfl, L, _, rfl, .inl hL, k, _, rfl, rfl, _, rfl, ite2 (fun hk => ?_) (fun _ => ?_)⟩
          · have hk : k < (((ns.map V.int).length : Nat) : Int) := of_decide_eq_true hk
            rw [ints_len] at hk
            have hj : k.toNat < ns.length := by omega
            refine ⟨_, rfl, S, _, 0, _, rfl, rfl, hS, rfl, _, rfl, L, _, k, _, rfl, rfl, hL, at_of (j := k.toNat) (by omega) (ints_get (List.getElem?_eq_getElem hj)), _, rfl, rfl, _, _, rfl, ?_⟩
            split <;> omega
          · exact ⟨rfl, _, _, rfl, by omega⟩
        · obtain ⟨rfl, cell, y4, rfl, h0⟩ := hm2
          refine ⟨fun σ3 H3 => H = H3 ∧ ∃ (cell : Int) (y4 : Option V), σ3 = [some (.ref S), some (.int many), some (.int k), some (.int cell), y4] ∧ 0 ≤ cell, ?_, fun σ3 H3 hm3 => ?_⟩
          · refine ⟨_, rfl, 10, 18, rfl, rfl, ⟨by decide, by decide, by decide⟩, cell, _, rfl, rfl, _, rfl, ite2 (fun hc => ?_) (fun _ => ?_)⟩
            · have hc : cell < (10 : Int) ^ (18 : Int).toNat := of_decide_eq_true hc
              have e18 : (10 : Int) ^ (18 : Int).toNat = 1000000000000000000 := by decide +kernel
              rw [e18] at hc
              refine ⟨_, rfl, cell, 48271, rfl, rfl, .inl ⟨by omega, by omega⟩, _, rfl, k, 69621, rfl, rfl, .inr ⟨by decide, by decide⟩, _, _, rfl, rfl, _, 11, rfl, rfl, .inl ⟨_, rfl, ?_⟩⟩
              refine ⟨_, 2147483647, rfl, rfl, (by show (0 : Int) < 2147483647; decide), ?_⟩
              have z1 := Int.emod_nonneg (cell * 48271 + k * 69621 + 11) (show (2147483647 : Int) ≠ 0 by decide)
              have z2 := Int.emod_lt_of_pos (cell * 48271 + k * 69621 + 11) (show (0 : Int) < 2147483647 by decide)
              refine ⟨_, rfl, _, 16807, rfl, rfl, .inr ⟨by decide, by decide⟩, _, 13, rfl, rfl, .inl ⟨_, rfl, ?_⟩⟩
              refine ⟨_, 2147483647, rfl, rfl, (by show (0 : Int) < 2147483647; decide), ?_⟩
              refine ⟨_, 65537, rfl, rfl, .inr ⟨by decide, by decide⟩, _, rfl, _, _, rfl, rfl, rfl, _, _, rfl, ?_⟩
              have z3 := Int.emod_nonneg ((cell * 48271 + k * 69621 + 11) % 2147483647 * 16807 + 13) (show (2147483647 : Int) ≠ 0 by decide)
              omega
            · exact ⟨rfl, _, _, rfl, h0⟩
          · obtain ⟨rfl, cell, y4, rfl, h0⟩ := hm3
            refine ⟨_, rfl, _, rfl, S, _, 1, 1, rfl, rfl, eS, rfl, ?_⟩
            refine ⟨_, rfl, k, 1, rfl, rfl, _, rfl, S, _, 2, 2, rfl, rfl, upd_same, rfl, ?_⟩
            refine ⟨_, _, _, cell, k + 1, rfl, upd_same, ?_, h0, by omega, butS_set.trans butS_set⟩
            rw [upd_ne (apartL eS eL), upd_ne (apartL eS eL)]
            exact eL
      · exact ⟨_, _, _, c, k, rfl, eS, eL, c0, k0, fun _ _ _ e => e⟩
    · obtain ⟨y2, y3, y4, c', k', rfl, eS', eL', c0', k0', bs⟩ := hm
      have hS : SqL K H' S [.ref L, .int c', .int k'] := .of eS'
      refine ⟨_, rfl, S, _, 1, _, rfl, rfl, hS, rfl, .inl ⟨_, rfl, _, rfl, c', many, rfl, rfl, (show (0 : Int) < many by omega), ?_⟩⟩
      refine ⟨_, rfl, S, _, 1, _, rfl, rfl, hS, rfl, _, rfl, c', many, rfl, rfl, ⟨by omega, by omega⟩, _, rfl, S, _, 1, 1, rfl, rfl, eS', rfl, ?_⟩
      have z1 := Int.emod_nonneg c' (show many ≠ 0 by omega)
      have z2 := Int.emod_lt_of_pos c' (show (0 : Int) < many by omega)
      exact ⟨_, rfl, q (c' % many) _ z1 z2 (bs.trans butS_set) (Stream.set eS' eL' (Int.ediv_nonneg c0' (by omega)) k0')⟩
end
end K38
namespace K38
open PySem PySem.Spec PyProof.Rows L2 Seat LamX
theorem butS_new {S p : Addr} {H H' : Hp} {o : HO} (b : ButS S H H') (h : H' p = none) : ButS S H (upd H' p o) := b.trans (.of (same_upd h))
theorem one_line : 1 ≤ sizeLine := by decide
section
variable {P : Program} {w : World} {K : PySem.W.Frag} {mg : Str → Option Value} {base : Heap}
/-! ### _law_method -/
theorem scLMethod : FnScope ["_law_stream_here", "_law_pick", "_law_by", "_law_firsts", "_law_k"] ["_law_stream_here"] (defScope lMethod) := ⟨rfl, rfl, rfl, by decide +kernel, rfl, by decide +kernel, by decide +kernel⟩
def spLMethod : Sp := fun vs H Q _ => ∃ S L : Addr, vs = [.ref S] ∧ Stream H S L ∧ ∀ m fs st H', Good fs st → Small fs st → ButS S H H' → Stream H' S L → Meth H' m fs st → Q (.ref m) H'
theorem ok_lMethod (D : Def K mg "_law_method" lMethod) (B : Blt mg) (C : Cal P w K mg base 1 "_law_next" ["_law_stream_here", "_law_many"] spNext) : Cal P w K mg base 2 "_law_method" ["_law_stream_here"] spLMethod := by
  refine cal_of D scLMethod (fun _ _ _ _ _ _ us hl => match us, hl with | [_], _ => rfl) (fun vs H Q E h => ?_) (fun f cdv A outer s H vs Q E hr h => ?_)
  · obtain ⟨S, L, rfl, _⟩ := h
    rfl
  · obtain ⟨S, L, rfl, hS, q⟩ := h
    refine ⟨_, pss_cons (ps_set (i := 1) scLMethod.nd rfl (.inl rfl) (pe_cal C hr (pa_cons (pv 0) (pa_cons pe_int pa_nil))))
      (pss_cons (ps_set (i := 2) scLMethod.nd rfl (.inl rfl) (pe_op op_add pe_int (pe_cal C hr (pa_cons (pv 0) (pa_cons pe_int pa_nil)))))
      (pss_cons (ps_if (pt_cmpR op_eq (pv 1) pe_int (nomark _)) (pss_one (ps_ret (pe_tup (pa_cons (pe_tup (pa_cons (pv 2) pa_nil)) (pa_cons (pv 2) pa_nil))))) pss_nil)
      (pss_cons (ps_if (pt_cmpR op_eq (pv 1) pe_int (nomark _)) (pss_one (ps_ret (pe_tup (pa_cons (pe_tup (pa_cons (pv 2) pa_nil)) (pa_cons (pe_op op_mul pe_int (pv 2)) pa_nil))))) pss_nil)
      (pss_cons (ps_if (pt_cmpR op_eq (pv 1) pe_int (nomark _)) (pss_one (ps_ret (pe_tup (pa_cons (pe_tup (pa_cons (pe_op op_mul pe_int (pv 2)) (pa_cons (pe_op op_mul pe_int (pv 2)) pa_nil))) (pa_cons (pe_op op_mul pe_int (pv 2)) pa_nil))))) pss_nil)
      (pss_cons (ps_set (i := 3) scLMethod.nd rfl (.inl rfl) (pe_lst (pa_cons (pe_op op_add pe_int (pe_cal C hr (pa_cons (pv 0) (pa_cons pe_int pa_nil)))) pa_nil)))
      (pss_cons (ps_for PassesOwn.never rfl (pi_range1 (by rfl) B.range (pa_cons (pe_cal C hr (pa_cons (pv 0) (pa_cons pe_int pa_nil))) pa_nil)) (pg_name (i := 4) scLMethod.nd rfl (.inl rfl))
          (pss_one (ps_expr (pe_bm PySem.F.plainAttrs_list PySem.F.slot_list_append PySem.F.type_list_append mt_append (pv 3) (pa_cons (pe_op op_add (pe_ix ix_list (pv 3) (pe_un un_neg pe_int) (fun _ _ => rfl)) (pe_cal C hr (pa_cons (pv 0) (pa_cons pe_int pa_nil)))) pa_nil)))))
      (pss_one (ps_ret (pe_tup (pa_cons (pe_callTy call_tuple_of (by rfl) B.tuple (by decide +kernel) (pa_cons (pv 3) pa_nil)) (pa_cons (pe_op op_add pe_int (pe_cal C hr (pa_cons (pv 0) (pa_cons pe_int pa_nil)))) pa_nil))))))))))), ?_⟩
    refine ⟨_, rfl, S, L, 6, rfl, hS, by decide, by decide, fun pick H1 pk0 pk6 b1 hS1 => ?_⟩
    refine ⟨_, rfl, S, L, 4, rfl, hS1, by decide, by decide, fun by_ H2 y0 y4 b2 hS2 => ⟨1, by_, rfl, rfl, ?_⟩⟩
    have b12 := b1.trans b2
    -- two tuples of ints
    have fin : ∀ (fs : List Int) (st : Int), Good fs st → Small fs st → ∀ t, H2 t = none → ∀ m, (upd H2 t (.tup (fs.map V.int))) m = none → Q (.ref m) (upd (upd H2 t (.tup (fs.map V.int))) m (.tup [.ref t, .int st])) := fun fs st g s t ht m hm =>
      q m fs st _ g s (butS_new (butS_new b12 ht) hm) ((hS2.same (same_upd ht)).same (same_upd hm)) ⟨t, upd_same, same_upd hm _ _ upd_same⟩
    refine ⟨_, rfl, rfl, _, rfl, ite2 (fun _ => ?_) (fun n0 => ?_)⟩
    · refine ⟨_, rfl, one_line, fun t ht => ⟨_, rfl, two_line, fun m hm => ?_⟩⟩
      obtain ⟨g, s⟩ := (rise_one (x := 1 + by_) (top := 60) (by omega) (by omega)).good (st := 1 + by_) (by show 1 ≤ 4; decide) (by decide) (by omega) (by omega)
      exact fin [1 + by_] (1 + by_) g s t ht m hm
    refine ⟨_, rfl, rfl, _, rfl, ite2 (fun _ => ?_) (fun n1 => ?_)⟩
    · refine ⟨_, rfl, one_line, fun t ht => ⟨_, rfl, 2, _, rfl, rfl, .inl ⟨by decide, by decide⟩, two_line, fun m hm => ?_⟩⟩
      obtain ⟨g, s⟩ := (rise_one (x := 1 + by_) (top := 60) (by omega) (by omega)).good (st := 2 * (1 + by_)) (by show 1 ≤ 4; decide) (by decide) (by omega) (by omega)
      exact fin [1 + by_] (2 * (1 + by_)) g s t ht m hm
    refine ⟨_, rfl, rfl, _, rfl, ite2 (fun _ => ?_) (fun n2 => ?_)⟩
    · refine ⟨_, rfl, 7, _, rfl, rfl, .inl ⟨by decide, by decide⟩, _, rfl, 15, _, rfl, rfl, .inl ⟨by decide, by decide⟩, two_line, fun t ht => ⟨_, rfl, 10, _, rfl, rfl, .inl ⟨by decide, by decide⟩, two_line, fun m hm => ?_⟩⟩
      obtain ⟨g, s⟩ := (rise_two (x := 7 * (1 + by_)) (y := 15 * (1 + by_)) (top := 60) (by omega) (by omega) (by omega)).good (st := 10 * (1 + by_)) (by show 2 ≤ 4; decide) (by decide) (by omega) (by omega)
      exact fin [7 * (1 + by_), 15 * (1 + by_)] (10 * (1 + by_)) g s t ht m hm
    -- drawn firsts
    refine ⟨_, rfl, S, L, 6, rfl, hS2, by decide, by decide, fun x H3 x0 x6 b3 hS3 => ⟨1, x, rfl, rfl, one_line, fun F hF => ?_⟩⟩
    have nFS : F ≠ S := fun z => by
      obtain ⟨ns, c, k, e, _⟩ := hS3
      rw [z, e] at hF
      cases hF
    have nLF : L ≠ F := fun z => by
      obtain ⟨ns, c, k, _, e, _⟩ := hS3
      rw [z, hF] at e
      cases e
    have sF := same_upd (o := .lst [.int (1 + x)]) hF
    refine ⟨_, rfl, S, L, 4, rfl, hS3.same sF, by decide, by decide, fun n H4 n0' n4 b4 hS4 => ⟨n, rfl, by omega, by omega, ?_⟩⟩
    have b123 := b12.trans b3
    refine for_range (lo := 0) (n := n.toNat) (fun i σ H' => ∃ (fs : List Int) (y4 : Option V), σ = [some (.ref S), some (.int pick), some (.int (1 + by_)), some (.ref F), y4] ∧ H' F = some (.lst (fs.map V.int)) ∧ fs.length = i + 1 ∧ Rise fs (6 + 4 * i) ∧ ButS S H3 H' ∧ Stream H' S L)
      ⟨[1 + x], _, rfl, b4 _ _ nFS upd_same, rfl, rise_one (by omega) (by omega), (butS_new (fun _ _ _ e => e) hF).trans b4, hS4⟩ (fun i σ H' hi h => ?_) (fun σ H' h => ?_)
    · obtain ⟨fs, y4', rfl, eF, hl, ri, bs, hs⟩ := h
      have la := ri.last
      have hFq : SqL K H' F (fs.map V.int) := .of eF
      refine ⟨_, rfl, .inl ⟨rfl, _, hFq⟩, _, rfl, 1, rfl, F, _, -1, _, rfl, rfl, hFq, last_int ri.ne, ?_⟩
      refine ⟨_, rfl, S, L, 5, rfl, hs, by decide, by decide, fun d H5 d0 d5 b5 hs5 => ⟨_, d, rfl, rfl, ?_⟩⟩
      have eF5 := b5 _ _ nFS eF
      refine ⟨F, _, _, rfl, rfl, eF5, ?_, fs ++ [fs.getLastD 0 + d], _, rfl, ?_, ?_, ?_, ?_, ?_⟩
      · rw [List.length_map, hl]
        exact small1000 (by omega)
      · rw [upd_same, List.map_append]
        rfl
      · rw [List.length_append, hl]
        rfl
      · exact rise_snoc ri (by omega) (by omega) (by omega)
      · exact fun b o nb e => by
          rw [upd_ne (ne_of_none e hF)]
          exact (bs.trans b5) b o nb e
      · obtain ⟨ns, c, k, a1, a2, a3, a4⟩ := hs5
        exact ⟨ns, c, k, by rw [upd_ne (Ne.symm nFS)]; exact a1, by rw [upd_ne nLF]; exact a2, a3, a4⟩
    · obtain ⟨fs, y4', rfl, eF, hl, ri, bs, hs⟩ := h
      have hFq : SqL K H' F (fs.map V.int) := .of eF
      refine ⟨_, rfl, F, _, rfl, .inl ⟨hFq, fun t ht => ?_⟩⟩
      have s1 := same_upd (o := .tup (fs.map V.int)) ht
      refine ⟨_, rfl, S, L, 6, rfl, hs.same s1, by decide, by decide, fun d H5 d0 d6 b5 hs5 => ⟨1, d, rfl, rfl, two_line, fun m hm => ?_⟩⟩
      obtain ⟨g, sm⟩ := ri.good (st := 1 + d) (by omega) (by omega) (by omega) (by omega)
      have nTS : t ≠ S := fun z => by
        obtain ⟨ns, c, k, e, _⟩ := hs
        rw [z, e] at ht
        cases ht
      have s2 := same_upd (o := .tup [.ref t, .int (1 + d)]) hm
      exact q m fs (1 + d) _ g sm ((b123.trans ((bs.trans (.of s1)).trans b5)).trans (.of s2)) (hs5.same s2) ⟨t, upd_same, s2 _ _ (b5 _ _ nTS upd_same)⟩
end
end K38
namespace K38
open PySem PySem.Spec PyProof.Rows L2 Seat LamX
theorem cut_to (xs : List V) (n : Nat) : cutV xs none (some (n : Int)) = xs.take n := by
  unfold cutV
  rw [HT.sIx_none, HT.sIx_nat, List.drop_zero, Nat.sub_zero]
  by_cases h : n ≤ xs.length
  · rw [Nat.min_eq_left h]
  · rw [Nat.min_eq_right (by omega), List.take_of_length_le (Nat.le_refl _), List.take_of_length_le (by omega)]
section
variable {P : Program} {w : World} {K : PySem.W.Frag} {mg : Str → Option Value} {base : Heap}
/-! ### _law_divisors -/
theorem scLDivs : FnScope ["_law_method_here", "_law_many", "_law_found", "_law_k"] ["_law_method_here", "_law_many"] (defScope lDivs) := ⟨rfl, rfl, rfl, by decide +kernel, rfl, by decide +kernel, by decide +kernel⟩
def spLDivs : Sp := fun vs H Q _ => ∃ (m : Addr) (fs : List Int) (st : Int) (n : Nat), vs = [.ref m, .int n] ∧ Meth H m fs st ∧ Good fs st ∧ n ≤ 200 ∧ ∀ p H', Same H H' → H' p = some (.lst ((dvs fs st n).map V.int)) → Q (.ref p) H'
theorem ok_lDivs (D : Def K mg "_law_divisors" lDivs) (B : Blt mg) : Cal P w K mg base 1 "_law_divisors" ["_law_method_here", "_law_many"] spLDivs := by
  refine cal_of D scLDivs (fun _ _ _ _ _ _ us hl => match us, hl with | [_, _], _ => rfl) (fun vs H Q E h => ?_) (fun f cdv A outer s H vs Q E hr h => ?_)
  · obtain ⟨m, fs, st, n, rfl, _⟩ := h
    rfl
  · obtain ⟨m, fs, st, n, rfl, ⟨t, hm, ht⟩, g, hn, q⟩ := h
    refine ⟨_, pss_cons (ps_set (i := 2) scLDivs.nd rfl (.inl rfl) (pe_callTy call_list_of (by rfl) B.list (by decide +kernel) (pa_cons (pe_ix ix_tup (pv 0) pe_int (fun _ _ => rfl)) pa_nil)))
      (pss_cons (ps_for PassesOwn.never rfl (pi_range1 (by rfl) B.range (pa_cons (pv 1) pa_nil)) (pg_name (i := 3) scLDivs.nd rfl (.inl rfl))
        (pss_one (ps_expr (pe_bm PySem.F.plainAttrs_list PySem.F.slot_list_append PySem.F.type_list_append mt_append (pv 2) (pa_cons (pe_op op_add (pe_ix ix_list (pv 2) (pe_un un_neg pe_int) (fun _ _ => rfl)) (pe_ix ix_tup (pv 0) pe_int (fun _ _ => rfl))) pa_nil)))))
      (pss_one (ps_ret (pe_slice sl_list (pv 2) po_none (po_some (pv 1)))))), ?_⟩
    have hS : SqT K H m [.ref t, .int st] := .of hm
    refine ⟨_, rfl, m, _, 0, _, rfl, rfl, hS, rfl, t, _, rfl, .inr (.of ht), fun F hF => ?_⟩
    refine ⟨_, rfl, (n : Int), rfl, by omega, by omega, ?_⟩
    rw [Int.toNat_natCast]
    have ne := g.ne
    have le := g.le
    refine for_range (lo := 0) (n := n) (fun i σ H' => ∃ y3, σ = [some (.ref m), some (.int n), some (.ref F), y3] ∧ Same H H' ∧ H' F = some (.lst ((dvs fs st (fs.length + i)).map V.int)))
      ⟨_, rfl, same_upd hF, by rw [upd_same, Nat.add_zero, dvs_firsts]⟩ (fun i σ H' hi h => ?_) (fun σ H' h => ?_)
    · obtain ⟨y3, rfl, sm, eF⟩ := h
      have hFq : SqL K H' F ((dvs fs st (fs.length + i)).map V.int) := .of eF
      have hS' : SqT K H' m [.ref t, .int st] := .of (sm _ _ hm)
      have la : (dvs fs st (fs.length + i)).getLastD 0 = dv fs st (fs.length + i - 1) := by
        rw [lastD_eq (by rw [dvs_length]; omega), dvs_length, dvs_getD (by omega)]
      have lq := last_int (fs := dvs fs st (fs.length + i)) (by rw [dvs_length]; omega)
      rw [la] at lq
      have e1 : dv fs st (fs.length + i) = dv fs st (fs.length + i - 1) + st := by
        have z := dv_succ (st := st) (i := fs.length + i - 1) ne (by omega)
        rw [show fs.length + i - 1 + 1 = fs.length + i by omega] at z
        exact z
      refine ⟨_, rfl, .inl ⟨rfl, _, hFq⟩, _, rfl, 1, rfl, F, _, -1, _, rfl, rfl, hFq, lq, _, rfl, m, _, 1, _, rfl, rfl, hS', rfl, _, _, rfl, rfl, F, _, _, rfl, rfl, eF, ?_, _, rfl, same_set hF sm, ?_⟩
      · rw [List.length_map, dvs_length]
        exact small1000 (by omega)
      · rw [upd_same, ← Nat.add_assoc, dvs_snoc, List.map_append, e1]
        rfl
    · obtain ⟨y3, rfl, sm, eF⟩ := h
      refine ⟨_, rfl, _, rfl, _, rfl, F, _, rfl, .of eF, fun p hp => ?_⟩
      refine q p _ (sm.trans (same_upd hp)) ?_
      rw [upd_same, cut_to, ← List.map_take, dvs_take (by omega)]
/-! ### _law_alike -/
theorem scLAlike : FnScope ["_law_stream_here", "_law_method_here", "_law_by", "_law_longer", "_law_one"] ["_law_stream_here", "_law_method_here"] (defScope lAlike) := ⟨rfl, rfl, rfl, by decide +kernel, rfl, by decide +kernel, by decide +kernel⟩
def spLAlike : Sp := fun vs H Q _ => ∃ (S L m : Addr) (fs : List Int) (st : Int), vs = [.ref S, .ref m] ∧ Stream H S L ∧ Meth H m fs st ∧ Good fs st ∧ Small fs st ∧ ∀ m2 gs tt H', Two fs st gs tt → ButS S H H' → Stream H' S L → Meth H' m2 gs tt → Q (.ref m2) H'
theorem ok_lAlike (D : Def K mg "_law_alike" lAlike) (B : Blt mg) (C1 : Cal P w K mg base 1 "_law_next" ["_law_stream_here", "_law_many"] spNext) (C2 : Cal P w K mg base 1 "_law_divisors" ["_law_method_here", "_law_many"] spLDivs) :
    Cal P w K mg base 2 "_law_alike" ["_law_stream_here", "_law_method_here"] spLAlike := by
  refine cal_of D scLAlike (fun _ _ _ _ _ _ us hl => match us, hl with | [_, _], _ => rfl) (fun vs H Q E h => ?_) (fun f cdv A outer s H vs Q E hr h => ?_)
  · obtain ⟨S, L, m, fs, st, rfl, _⟩ := h
    rfl
  · obtain ⟨S, L, m, fs, st, rfl, hS, hM, g, sl, q⟩ := h
    refine ⟨_, pss_cons (ps_set (i := 2) scLAlike.nd rfl (.inr rfl) (pe_op op_add pe_int (pe_cal C1 hr (pa_cons (pv 0) (pa_cons pe_int pa_nil)))))
      (pss_cons (ps_set (i := 3) scLAlike.nd rfl (.inl rfl) (pe_cal C2 hr (pa_cons (pv 1) (pa_cons (pe_op op_add (pe_callB call_len_seq (by rfl) B.len PySem.boot_len (pa_cons (pe_ix ix_tup (pv 1) pe_int (fun _ _ => rfl)) pa_nil)) (pe_cal C1 hr (pa_cons (pv 0) (pa_cons pe_int pa_nil)))) pa_nil))))
      (pss_one (ps_ret (pe_tup (pa_cons (pe_callTy call_tuple_of (by rfl) B.tuple (by decide +kernel) (pa_cons (pe_lc (own := [("_law_one", 4)]) (g := gName 4) (tt := tYes) rfl scLAlike.nd (pi_list (pv 3)) (blkOk_by (own := [("_law_one", 4)]) (N := ["_law_stream_here", "_law_method_here", "_law_by", "_law_longer", "_law_one"]) (sc := defScope lAlike) (by decide +kernel))
          (fun _ _ _ _ _ => pg_name (i := 4) scLAlike.nd rfl (Or.inl rfl)) (fun _ _ _ _ _ => pts_nil) (fun _ _ _ _ _ => pe_op op_mul (pv 2) (pv 4))) pa_nil)) (pa_cons (pe_op op_mul (pv 2) (pe_ix ix_tup (pv 1) pe_int (fun _ _ => rfl))) pa_nil)))))), ?_⟩
    refine ⟨_, rfl, S, L, 3, rfl, hS, by decide, by decide, fun y H1 y0 y3 b1 hS1 => ⟨1, y, rfl, rfl, ?_⟩⟩
    have hM1 := b1.meth hS hM
    have ⟨t, hm, ht⟩ := hM1
    refine ⟨_, rfl, _, rfl, m, _, 0, _, rfl, rfl, .of hm, rfl, t, _, rfl, .inr (.of ht), _, rfl, S, L, 2, rfl, hS1, by decide, by decide, fun e H2 e0 e2 b2 hS2 => ⟨_, e, rfl, rfl, ?_⟩⟩
    have hM2 := b2.meth hS1 hM1
    have sl4 := sl.len
    have en : (((fs.map V.int).length : Nat) : Int) + e = ((fs.length + e.toNat : Nat) : Int) := by
      rw [ints_len]
      omega
    refine ⟨m, fs, st, fs.length + e.toNat, (show [V.ref m, V.int ((((fs.map V.int).length : Nat) : Int) + e)] = _ by rw [en]), hM2, g, by omega, fun l H3 s3 el => ?_⟩
    have hM3 := hM2.same s3
    have ⟨t3, hm3, ht3⟩ := hM3
    refine ⟨_, rfl, l, rfl, ⟨_, .of el⟩, fun R hR => ?_⟩
    refine lc_list (K := K) (a := l) (xs := (dvs fs st (fs.length + e.toNat)).map V.int) (fun i H' => Same H3 H' ∧ H' R = some (.lst ((((dvs fs st (fs.length + e.toNat)).take i).map ((1 + y) * ·)).map V.int)))
      ⟨same_upd hR, upd_same⟩ (fun i H' _ h => .of (h.1 _ _ el)) (fun i x H' hx h => ?_) (fun H' h => ?_)
    · obtain ⟨sm, eR⟩ := h
      obtain ⟨z, hz, rfl⟩ := of_ints hx
      refine ⟨rfl, ?_⟩
      refine ⟨_, rfl, _, rfl, 1 + y, z, rfl, rfl, .inl ⟨by omega, by omega⟩, _, eR, ?_, same_set hR sm, ?_⟩
      · rw [List.length_map, List.length_map, List.length_take]
        have := dvs_length fs st (fs.length + e.toNat)
        exact small1000 (by omega)
      · rw [upd_same, List.take_add_one, hz, List.map_append, List.map_append]
        rfl
    · obtain ⟨sm, eR⟩ := h
      rw [ints_len, List.take_length] at eR
      refine ⟨R, _, rfl, .inl ⟨.of eR, fun u hu => ?_⟩⟩
      have s4 := same_upd (o := .tup (((dvs fs st (fs.length + e.toNat)).map ((1 + y) * ·)).map V.int)) hu
      refine ⟨_, rfl, _, rfl, m, _, 1, _, rfl, rfl, .of (s4 _ _ (sm _ _ hm3)), rfl, 1 + y, st, rfl, rfl, .inl ⟨by omega, by omega⟩, two_line, fun v hv => ?_⟩
      have s5 := same_upd (o := .tup [.ref u, .int ((1 + y) * st)]) hv
      have s345 := s3.trans (sm.trans (s4.trans s5))
      exact q v _ _ _ (alike_two g sl (by omega) (by omega) (by omega)) ((b1.trans b2).trans (.of s345)) (hS2.same s345) ⟨u, upd_same, s5 _ _ upd_same⟩
/-! ### _law_two -/
theorem scLTwo : FnScope ["_law_stream_here", "_law_method_here"] ["_law_stream_here"] (defScope lTwo) := ⟨rfl, rfl, rfl, by decide +kernel, rfl, by decide +kernel, by decide +kernel⟩
def spLTwo : Sp := fun vs H Q _ => ∃ (S L : Addr), vs = [.ref S] ∧ Stream H S L ∧ ∀ l m m2 fs gs st tt H', Two fs st gs tt → ButS S H H' → H' l = some (.lst [.ref m, .ref m2]) → Meth H' m fs st → Meth H' m2 gs tt → Q (.ref l) H'
theorem ok_lTwo (D : Def K mg "_law_two" lTwo) (C1 : Cal P w K mg base 1 "_law_next" ["_law_stream_here", "_law_many"] spNext) (C2 : Cal P w K mg base 2 "_law_method" ["_law_stream_here"] spLMethod) (C3 : Cal P w K mg base 2 "_law_alike" ["_law_stream_here", "_law_method_here"] spLAlike) :
    Cal P w K mg base 3 "_law_two" ["_law_stream_here"] spLTwo := by
  refine cal_of D scLTwo (fun _ _ _ _ _ _ us hl => match us, hl with | [_], _ => rfl) (fun vs H Q E h => ?_) (fun f cdv A outer s H vs Q E hr h => ?_)
  · obtain ⟨S, L, rfl, _⟩ := h
    rfl
  · obtain ⟨S, L, rfl, hS, q⟩ := h
    refine ⟨_, pss_cons (ps_set (i := 1) scLTwo.nd rfl (.inl rfl) (pe_cal C2 hr (pa_cons (pv 0) pa_nil)))
      (pss_cons (ps_if (pt_cmpR op_eq (pe_cal C1 (hr.mono (by decide)) (pa_cons (pv 0) (pa_cons pe_int pa_nil))) pe_int (nomark _)) (pss_one (ps_ret (pe_lst (pa_cons (pv 1) (pa_cons (pe_cal C3 hr (pa_cons (pv 0) (pa_cons (pv 1) pa_nil))) pa_nil))))) pss_nil)
      (pss_one (ps_ret (pe_lst (pa_cons (pv 1) (pa_cons (pe_cal C2 hr (pa_cons (pv 0) pa_nil)) pa_nil)))))), ?_⟩
    refine ⟨_, rfl, S, L, rfl, hS, fun m fs st H1 g1 s1 b1 hS1 hM1 => ?_⟩
    refine ⟨_, rfl, S, L, 4, rfl, hS1, by decide, by decide, fun d H2 d0 d4 b2 hS2 => ⟨rfl, _, rfl, ?_⟩⟩
    have hM2 := b2.meth hS1 hM1
    refine ite2 (fun _ => ?_) (fun _ => ?_)
    · refine ⟨_, rfl, _, rfl, _, rfl, S, L, m, fs, st, rfl, hS2, hM2, g1, s1, fun m2 gs tt H3 tw b3 hS3 hM3 => ⟨two_line, fun l hl => ?_⟩⟩
      have s4 := same_upd (o := .lst [.ref m, .ref m2]) hl
      exact q l m m2 fs gs st tt _ tw ((b1.trans b2).trans (b3.trans (.of s4))) upd_same ((b3.meth hS2 hM2).same s4) (hM3.same s4)
    · refine ⟨_, rfl, _, rfl, S, L, rfl, hS2, fun m2 gs tt H3 g2 s2 b3 hS3 hM3 => ⟨two_line, fun l hl => ?_⟩⟩
      have s4 := same_upd (o := .lst [.ref m, .ref m2]) hl
      exact q l m m2 fs gs st tt _ (drawn_two g1 s1 g2 s2) ((b1.trans b2).trans (b3.trans (.of s4))) upd_same ((b3.meth hS2 hM2).same s4) (hM3.same s4)
/-! ### _law_span -/
theorem scLSpan : FnScope ["_law_method_here", "_law_other"] ["_law_method_here", "_law_other"] (defScope lSpan) := ⟨rfl, rfl, rfl, by decide +kernel, rfl, by decide +kernel, by decide +kernel⟩
theorem ok_lSpan (D : Def K mg "_law_span" lSpan) (B : Blt mg) : Cal P w K mg base 1 "_law_span" ["_law_method_here", "_law_other"] spSpan := by
  refine cal_of D scLSpan (fun _ _ _ _ _ _ us hl => match us, hl with | [_, _], _ => rfl) (fun vs H Q E h => ?_) (fun f cdv A outer s H vs Q E hr h => ?_)
  · obtain ⟨m, m2, fs, gs, st, tt, rfl, _⟩ := h
    rfl
  · obtain ⟨m, m2, fs, gs, st, tt, rfl, ⟨t, a1, a2⟩, ⟨u, b1, b2⟩, q⟩ := h
    refine ⟨_, pss_one (ps_ret (pe_op op_add pe_int (pe_callB (call_max2 rfl) (by rfl) B.max (by decide +kernel) (pa_cons (pe_callB call_len_seq (by rfl) B.len PySem.boot_len (pa_cons (pe_ix ix_tup (pv 0) pe_int (fun _ _ => rfl)) pa_nil))
      (pa_cons (pe_callB call_len_seq (by rfl) B.len PySem.boot_len (pa_cons (pe_ix ix_tup (pv 1) pe_int (fun _ _ => rfl)) pa_nil)) pa_nil))))), ?_⟩
    refine ⟨_, rfl, m, _, 0, _, rfl, rfl, .of a1, rfl, t, _, rfl, .inr (.of a2), _, rfl, m2, _, 0, _, rfl, rfl, .of b1, rfl, u, _, rfl, .inr (.of b2), _, _, rfl, 1, _, rfl, rfl, ?_⟩
    rw [← max_span] at q
    exact q
end
end K38
namespace Seat
/-! ### the law's pairs, by their sum -/
def diagTo (n t i : Nat) : List (Nat × Nat) := ((List.range i).filter fun i => decide (i < n) && decide (t - i < n)).map fun i => (i, t - i)
theorem diagTo_all (n t : Nat) : diagTo n t (t + 1) = diag n t := rfl
theorem diagTo_nil (n t : Nat) : diagTo n t 0 = [] := rfl
theorem diagTo_yes {n t i : Nat} (h : (decide (i < n) && decide (t - i < n)) = true) : diagTo n t (i + 1) = diagTo n t i ++ [(i, t - i)] := by
  unfold diagTo
  rw [List.range_succ, List.filter_append, List.map_append]
  simp only [List.filter_cons, h, List.filter_nil, if_true]
  rfl
theorem diagTo_no {n t i : Nat} (h : (decide (i < n) && decide (t - i < n)) = false) : diagTo n t (i + 1) = diagTo n t i := by
  unfold diagTo
  rw [List.range_succ, List.filter_append, List.map_append]
  simp [h]
theorem diagTo_len (n t i : Nat) : (diagTo n t i).length ≤ i := by
  unfold diagTo
  rw [List.length_map]
  have h := List.length_filter_le (fun i => decide (i < n) && decide (t - i < n)) (List.range i)
  rw [List.length_range] at h
  exact h
def diags (n t : Nat) : List (Nat × Nat) := (List.range t).flatMap (diag n)
theorem diags_snoc (n t : Nat) : diags n (t + 1) = diags n t ++ diag n t := by
  unfold diags
  rw [List.range_succ, List.flatMap_append]
  simp
theorem diags_len (n t : Nat) : (diags n t).length ≤ t * t := by
  induction t with
  | zero => exact Nat.le_refl _
  | succ t ih =>
    rw [diags_snoc, List.length_append]
    have h := diagTo_len n t (t + 1)
    rw [diagTo_all] at h
    have e : (t + 1) * (t + 1) = t * t + t + (t + 1) := by
      rw [Nat.add_mul, Nat.mul_add]
      omega
    omega
/-! ### the law's fairness, pair by pair -/
def side (v u : Int) (i : Nat) : Int := if i = 0 then v else u
def seat (own more : Nat) (i : Nat) : Nat := if i = 0 then own else more
def bad (D : Nat → Int) (v u : Int) (own more i j : Nat) : Bool :=
  decide (i ≠ j) && (decide (0 < seat own more i) && decide (side v u j * D (seat own more i - 1) > side v u i * D (seat own more j)))
theorem bad_same {D : Nat → Int} {v u : Int} {own more i : Nat} : bad D v u own more i i = false := by simp [bad]
theorem fair_bad (D : Nat → Int) (v u : Int) (own more : Nat) : fair D v u own more = (!bad D v u own more 0 1 && !bad D v u own more 1 0) := by
  unfold fair bad side seat
  have e1 : decide ((0 : Nat) ≠ 1) = true := rfl
  have e2 : decide ((1 : Nat) ≠ 0) = true := rfl
  rw [e1, e2, Bool.true_and, Bool.true_and]
  show _ = (!(decide (0 < own) && decide (u * D (own - 1) > v * D more)) && !(decide (0 < more) && decide (v * D (more - 1) > u * D own)))
  congr 1
  by_cases h0 : more = 0
  · subst h0
    simp
  · rw [decide_eq_false h0, decide_eq_true (show 0 < more by omega), Bool.false_or, Bool.true_and]
    by_cases h1 : v * D (more - 1) ≤ u * D own
    · rw [decide_eq_true h1, decide_eq_false (show ¬ v * D (more - 1) > u * D own by omega)]
      rfl
    · rw [decide_eq_false h1, decide_eq_true (show v * D (more - 1) > u * D own by omega)]
      rfl
theorem fair_yes {D : Nat → Int} {v u : Int} {own more : Nat} (h : ∀ i, i < 2 → ∀ j, j < 2 → bad D v u own more i j = false) : fair D v u own more = true := by
  rw [fair_bad, h 0 (by decide) 1 (by decide), h 1 (by decide) 0 (by decide)]
  rfl
theorem fair_no {D : Nat → Int} {v u : Int} {own more i j : Nat} (hi : i < 2) (hj : j < 2) (h : bad D v u own more i j = true) : fair D v u own more = false := by
  rw [fair_bad]
  have c : (i = 0 ∧ j = 1) ∨ (i = 1 ∧ j = 0) ∨ i = j := by omega
  rcases c with ⟨rfl, rfl⟩ | ⟨rfl, rfl⟩ | rfl
  · rw [h]
    rfl
  · rw [h, Bool.not_true, Bool.and_false]
  · rw [bad_same] at h
    cases h
end Seat
namespace K38
open PySem PySem.Spec PyProof.Rows L2 Seat LamX
theorem PairsAt.app {H : Hp} {ts us : List Addr} {ps qs : List (Nat × Nat)} (h : PairsAt H ts ps) (g : PairsAt H us qs) : PairsAt H (ts ++ us) (ps ++ qs) := by
  refine ⟨by rw [List.length_append, List.length_append, h.len, g.len], fun i t z a b => ?_⟩
  by_cases hi : i < ts.length
  · rw [List.getElem?_append_left hi] at a
    rw [List.getElem?_append_left (by rw [← h.len]; exact hi)] at b
    exact h.at_ i t z a b
  · rw [List.getElem?_append_right (by omega)] at a
    rw [List.getElem?_append_right (by rw [← h.len]; omega), ← h.len] at b
    exact g.at_ _ t z a b
/-- the pairs stay where they are when a list is changed -/
theorem PairsAt.over {H : Hp} {ts : List Addr} {ps : List (Nat × Nat)} {D : Addr} {xs ys : List V} (h : PairsAt H ts ps) (e : H D = some (.lst xs)) : PairsAt (upd H D (.lst ys)) ts ps := ⟨h.len, fun i t q a b => by
  have z := h.at_ i t q a b
  rw [upd_ne (ne_of z e (by intro y; cases y))]
  exact z⟩
section
variable {P : Program} {w : World} {K : PySem.W.Frag} {mg : Str → Option Value} {base : Heap}
/-! ### _law_index_pairs -/
theorem scLPairs : FnScope ["_law_span_here", "_law_pairs", "_law_total", "_law_one"] ["_law_span_here"] (defScope lPairs) := ⟨rfl, rfl, rfl, by decide +kernel, rfl, by decide +kernel, by decide +kernel⟩
def spLPairs : Sp := fun vs H Q _ => ∃ n : Nat, vs = [.int n] ∧ n ≤ 6 ∧ ∀ p us H', Same H H' → H' p = some (.lst (us.map V.ref)) → PairsAt H' us (prs n) → Q (.ref p) H'
theorem ok_lPairs (D : Def K mg "_law_index_pairs" lPairs) (B : Blt mg) : Cal P w K mg base 1 "_law_index_pairs" ["_law_span_here"] spLPairs := by
  refine cal_of D scLPairs (fun _ _ _ _ _ _ us hl => match us, hl with | [_], _ => rfl) (fun vs H Q E h => ?_) (fun f cdv A outer s H vs Q E hr h => ?_)
  · obtain ⟨n, rfl, _⟩ := h
    rfl
  · obtain ⟨n, rfl, n6, q⟩ := h
    refine ⟨_, pss_cons (ps_set (i := 1) scLPairs.nd rfl (.inl rfl) (pe_lst pa_nil))
      (pss_cons (ps_for PassesOwn.never rfl (pi_range1 (by rfl) B.range (pa_cons (pe_op op_mul pe_int (pv 0)) pa_nil)) (pg_name (i := 2) scLPairs.nd rfl (.inr rfl))
        (pss_one (ps_set (i := 1) scLPairs.nd rfl (.inl rfl) (pe_op op_cat (pv 1) (pe_lc (own := [("_law_one", 3)]) (g := gName 3) rfl scLPairs.nd (pi_range1 (by rfl) B.range (pa_cons (pe_op op_add (pv 2) pe_int) pa_nil)) (blkOk_by (own := [("_law_one", 3)]) (N := ["_law_span_here", "_law_pairs", "_law_total", "_law_one"]) (sc := defScope lPairs) (by decide +kernel))
          (fun _ _ _ _ _ => pg_name (i := 3) scLPairs.nd rfl (Or.inl rfl)) (fun _ _ _ _ _ => pts_one (PW.pt (pw_and (pt_cmpR op_lt (pv 3) (pv 0) (nomark _)) (pw_and1 (pt_cmpR op_lt (pe_op op_sub (pv 2) (pv 3)) (pv 0) (nomark _)))))) (fun _ _ _ _ _ => pe_tup (pa_cons (pv 3) (pa_cons (pe_op op_sub (pv 2) (pv 3)) pa_nil))))))))
      (pss_one (ps_ret (pv 1)))), ?_⟩
    refine ⟨Nat.zero_le _, fun p0 hp0 => ?_⟩
    refine ⟨_, rfl, 2, (n : Int), rfl, rfl, .inl ⟨by decide, by decide⟩, 2 * (n : Int), rfl, by omega, by omega, ?_⟩
    have en : (2 * (n : Int)).toNat = 2 * n := by omega
    rw [en]
    refine for_range (lo := 0) (n := 2 * n) (fun t σ H' => ∃ (l : Addr) (us : List Addr) (y2 y3 : Option V), σ = [some (.int n), some (.ref l), y2, y3] ∧ Same H H' ∧ H' l = some (.lst (us.map V.ref)) ∧ PairsAt H' us (diags n t))
      ⟨p0, [], _, _, rfl, same_upd hp0, upd_same, rfl, fun i t z e => by simp at e⟩ (fun t σ H' ht h => ?_) (fun σ H' h => ?_)
    · obtain ⟨l, us, y2, y3, rfl, sm, el, hu⟩ := h
      have e0 : (0 : Int) + (t : Int) = (t : Int) := Int.zero_add _
      rw [e0]
      refine ⟨_, rfl, _, rfl, (t : Int), 1, rfl, rfl, (t : Int) + 1, rfl, by omega, by omega, fun R hR => ?_⟩
      have et : ((t : Int) + 1).toNat = t + 1 := by omega
      rw [et]
      refine lc_range (lo := 0) (n := t + 1) (fun i H2 => Same H' H2 ∧ ∃ vs : List Addr, H2 R = some (.lst (vs.map V.ref)) ∧ PairsAt H2 vs (diagTo n t i)) ⟨same_upd hR, [], upd_same, rfl, fun i t z e => by simp at e⟩ (fun i H2 hi h => ?_) (fun H2 h => ?_)
      · obtain ⟨sm2, vs, eR, hv⟩ := h
        have e1 : (0 : Int) + (i : Int) = (i : Int) := Int.zero_add _
        rw [e1]
        have e2 : (t : Int) - (i : Int) = ((t - i : Nat) : Int) := by omega
        refine ⟨rfl, ?_⟩
        refine ⟨_, rfl, _, rfl, (i : Int), (n : Int), rfl, rfl, _, rfl, ?_⟩
        by_cases h1 : i < n
        · rw [decide_eq_true (show (i : Int) < (n : Int) by omega)]
          refine iteT ⟨_, rfl, _, rfl, (t : Int), (i : Int), rfl, rfl, _, rfl, _, (n : Int), rfl, rfl, _, rfl, ?_⟩
          by_cases h2 : t - i < n
          · rw [decide_eq_true (show (t : Int) - (i : Int) < (n : Int) by omega)]
            refine iteT ⟨_, rfl, _, rfl, _, rfl, (t : Int), (i : Int), rfl, rfl, two_line, fun p hp => ?_⟩
            have s1 := same_upd (o := .tup [.int (i : Int), .int ((t : Int) - (i : Int))]) hp
            have eR1 := s1 _ _ eR
            refine ⟨_, eR1, ?_, same_set hR (sm2.trans s1), vs ++ [p], ?_, ?_⟩
            · rw [List.length_map, hv.len]
              have := diagTo_len n t i
              exact small1000 (by omega)
            · rw [upd_same, List.map_append]
              rfl
            · rw [diagTo_yes (by rw [decide_eq_true h1, decide_eq_true h2]; rfl)]
              have hp2 : PairsAt (upd H2 p (.tup [.int (i : Int), .int ((t : Int) - (i : Int))])) (vs ++ [p]) (diagTo n t i ++ [(i, t - i)]) := PairsAt.snoc (hv.same s1) (by rw [upd_same, e2])
              exact hp2.over eR1
          · rw [decide_eq_false (show ¬ (t : Int) - (i : Int) < (n : Int) by omega)]
            refine iteF ⟨sm2, vs, eR, ?_⟩
            rw [diagTo_no (by rw [decide_eq_false h2, Bool.and_false])]
            exact hv
        · rw [decide_eq_false (show ¬ (i : Int) < (n : Int) by omega)]
          refine iteF (iteF ⟨sm2, vs, eR, ?_⟩)
          rw [diagTo_no (by rw [decide_eq_false h1, Bool.false_and])]
          exact hv
      · obtain ⟨sm2, vs, eR, hv⟩ := h
        rw [diagTo_all] at hv
        have el2 := sm2 _ _ el
        refine ⟨l, R, us.map V.ref, vs.map V.ref, rfl, rfl, el2, eR, ?_, fun p hp => ?_⟩
        · rw [List.length_map, List.length_map, hu.len, hv.len]
          have a1 := diags_len n t
          have a2 : t * t ≤ 12 * 12 := Nat.mul_le_mul (by omega) (by omega)
          have a3 := diagTo_len n t (t + 1)
          rw [diagTo_all] at a3
          exact Nat.le_of_lt (small1000 (by omega))
        · have s3 := same_upd (o := .lst (us.map V.ref ++ vs.map V.ref)) hp
          refine ⟨p, us ++ vs, _, _, rfl, (sm.trans sm2).trans s3, ?_, ?_⟩
          · rw [upd_same, List.map_append]
          · rw [diags_snoc]
            exact ((hu.same sm2).app hv).same s3
    · obtain ⟨l, us, y2, y3, rfl, sm, el, hu⟩ := h
      exact ⟨_, rfl, q l us H' sm el hu⟩
/-! ### _law_simplest -/
theorem scLSimplest : FnScope ["_law_one", "_law_other", "_law_low", "_law_high", "_law_second", "_law_first"] ["_law_one", "_law_other"] (defScope lSimplest) := ⟨rfl, rfl, rfl, by decide +kernel, rfl, by decide +kernel, by decide +kernel⟩
theorem ok_lSimplest (D : Def K mg "_law_simplest" lSimplest) (B : Blt mg) : Cal P w K mg base 1 "_law_simplest" ["_law_one", "_law_other"] spVotes := by
  refine cal_of D scLSimplest (fun _ _ _ _ _ _ us hl => match us, hl with | [_, _], _ => rfl) (fun vs H Q E h => ?_) (fun f cdv A outer s H vs Q E hr h => ?_)
  · obtain ⟨r1, r2, a, b, c, d, rfl, _⟩ := h
    rfl
  · obtain ⟨r1, r2, a, b, c, d, rfl, er1, er2, sd, q⟩ := h
    refine ⟨_, pss_cons (ps_asg (pe_ix ix_list (pe_lst (pa_cons (pe_lst (pa_cons (pv 0) (pa_cons (pv 1) pa_nil))) (pa_cons (pe_lst (pa_cons (pv 1) (pa_cons (pv 0) pa_nil))) pa_nil)))
          (pe_callTy call_int1 (by rfl) B.int (by decide +kernel) (pa_cons (pe_cmpR op_gt (pe_op op_mul (pe_ix ix_tup (pv 0) pe_int (fun _ _ => rfl)) (pe_ix ix_tup (pv 1) pe_int (fun _ _ => rfl))) (pe_op op_mul (pe_ix ix_tup (pv 1) pe_int (fun _ _ => rfl)) (pe_ix ix_tup (pv 0) pe_int (fun _ _ => rfl))) (nomark _)) pa_nil)) (fun _ _ => rfl))
        (pg_unl (by rfl) (pgs_cons (pg_name (i := 2) scLSimplest.nd rfl (.inl rfl)) (pgs_cons (pg_name (i := 3) scLSimplest.nd rfl (.inl rfl)) pgs_nil))))
      (pss_cons (ps_for PassesOwn.never rfl (pi_range2 (by rfl) B.range (pa_cons pe_int (pa_cons pe_int pa_nil))) (pg_name (i := 4) scLSimplest.nd rfl (.inl rfl))
        (pss_cons (ps_set (i := 5) scLSimplest.nd rfl (.inl rfl) (pe_op op_add (pe_op op_fdiv (pe_op op_mul (pe_ix ix_tup (pv 2) pe_int (fun _ _ => rfl)) (pv 4)) (pe_ix ix_tup (pv 2) pe_int (fun _ _ => rfl))) pe_int))
        (pss_one (ps_if (pt_cmpR op_lt (pe_op op_mul (pv 5) (pe_ix ix_tup (pv 3) pe_int (fun _ _ => rfl))) (pe_op op_mul (pe_ix ix_tup (pv 3) pe_int (fun _ _ => rfl)) (pv 4)) (nomark _)) (pss_one (ps_ret (pe_tup (pa_cons (pv 5) (pa_cons (pv 4) pa_nil))))) pss_nil))))
      (pss_one (ps_ret pe_non))), ?_⟩
    have ⟨a0, a9, b0, b9, c0, c9, d0, d9, ne⟩ := sd
    -- the loop, from either order of the two
    have loop : ∀ (H1 : Hp) (lo hi : Addr) (la lb ha hb : Int) (y4 y5 : Option V), Same H H1 → H1 lo = some (.tup [.int la, .int lb]) → H1 hi = some (.tup [.int ha, .int hb]) → Ival la lb ha hb → Deep 19 la lb ha hb → la < 512 → lb < 512 → ha < 512 → hb < 512 → vote a b c d = simp_ 19 la lb ha hb →
        ∀ (σ : L2.St), σ = [some (.ref r1), some (.ref r2), some (.ref lo), some (.ref hi), y4, y5] →
        (tSeq (tFor (iRng2 (tCons (tC (.int 1)) (tCons (tC (.int 2000)) tNil))) (gName 4)
          (tSeq (tAsg (tOp (rI0 fun i j => .int (i + j)) (tOp (rI CDiv fun i j => .int (i / j)) (tOp (rI CMul fun i j => .int (i * j)) (tOp (rIxT K) (tVar 2) (tC (.int 0))) (tVar 4)) (tOp (rIxT K) (tVar 2) (tC (.int 1)))) (tC (.int 1))) (gName 5))
            (tIfS (tTest (tOp (rI0 fun i j => .bl (decide (i < j))) (tOp (rI CMul fun i j => .int (i * j)) (tVar 5) (tOp (rIxT K) (tVar 3) (tC (.int 1)))) (tOp (rI CMul fun i j => .int (i * j)) (tOp (rIxT K) (tVar 3) (tC (.int 0))) (tVar 4)))) (tRet (tTup (tCons (tVar 5) (tCons (tVar 4) tNil)))) tNext))) (tRet (tC .non)))
          { nx := fun _ H' => Q .non H', rt := Q } σ H1 := by
      intro H1 lo hi la lb ha hb y4 y5 sm elo ehi iv dp l1 l2 l3 l4 ev σ hσ
      subst hσ
      have hLo : SqT K H1 lo [.int la, .int lb] := .of elo
      have hHi : SqT K H1 hi [.int ha, .int hb] := .of ehi
      have q0 := (simp_ok 19 iv dp).1.q0
      have qle := (simp_le iv dp).2
      have ⟨la0, lb0, ha0, hb0, _⟩ := iv
      refine ⟨1, 2000, rfl, by decide, ?_⟩
      have en : ((2000 : Int) - 1).toNat = 1999 := by decide
      rw [en]
      refine for_range (lo := 1) (n := 1999) (fun i σ H' => H1 = H' ∧ (∃ y4 y5, σ = [some (.ref r1), some (.ref r2), some (.ref lo), some (.ref hi), y4, y5]) ∧ (i : Int) < (simp_ 19 la lb ha hb).2)
        ⟨rfl, ⟨_, _, rfl⟩, q0⟩ (fun i σ H' hi' h => ?_) (fun σ H' h => ?_)
      · obtain ⟨rfl, ⟨z4, z5, rfl⟩, hq⟩ := h
        refine ⟨_, rfl, lo, _, 0, _, rfl, rfl, hLo, rfl, _, rfl, la, 1 + (i : Int), rfl, rfl, .inl ⟨by omega, by omega⟩, _, rfl, lo, _, 1, _, rfl, rfl, hLo, rfl, _, lb, rfl, rfl, ⟨by omega, by omega⟩, _, 1, rfl, rfl, ?_⟩
        refine ⟨_, rfl, _, rfl, hi, _, 1, _, rfl, rfl, hHi, rfl, _, hb, rfl, rfl, .inr ⟨by omega, by omega⟩, _, rfl, hi, _, 0, _, rfl, rfl, hHi, rfl, _, rfl, ha, 1 + (i : Int), rfl, rfl, .inl ⟨by omega, by omega⟩, _, _, rfl, rfl, _, rfl, ?_⟩
        by_cases he : 1 + (i : Int) = (simp_ 19 la lb ha hb).2
        · obtain ⟨w1, w2⟩ := second_here iv dp
          rw [he, decide_eq_true w2]
          refine iteT ⟨_, rfl, _, rfl, two_line, fun p hp => q p _ (sm.trans (same_upd hp)) ?_⟩
          rw [upd_same, ev]
          show some (HO.tup [.int (la * (simp_ 19 la lb ha hb).2 / lb + 1), .int (simp_ 19 la lb ha hb).2]) = _
          rw [w1]
        · rw [decide_eq_false (second_less iv dp (by omega) (by omega))]
          exact iteF ⟨rfl, ⟨_, _, rfl⟩, by omega⟩
      · obtain ⟨rfl, _, hq⟩ := h
        exfalso
        omega
    refine ⟨_, rfl, _, rfl, two_line, fun x1 hx1 => ?_⟩
    refine ⟨_, rfl, _, rfl, two_line, fun x2 hx2 => ⟨two_line, fun x3 hx3 => ?_⟩⟩
    have s1 := same_upd (o := .lst [.ref r1, .ref r2]) hx1
    have s2 := same_upd (o := .lst [.ref r2, .ref r1]) hx2
    have s3 := same_upd (o := .lst [.ref x1, .ref x2]) hx3
    have s123 := s1.trans (s2.trans s3)
    have h1 : SqT K _ r1 [.int a, .int b] := .of (s123 _ _ er1)
    have h2 : SqT K _ r2 [.int c, .int d] := .of (s123 _ _ er2)
    refine ⟨_, rfl, r1, _, 0, _, rfl, rfl, h1, rfl, _, rfl, r2, _, 1, _, rfl, rfl, h2, rfl, a, d, rfl, rfl, .inl ⟨by omega, by omega⟩, _, rfl, r2, _, 0, _, rfl, rfl, h2, rfl, _, rfl, r1, _, 1, _, rfl, rfl, h1, rfl, c, b, rfl, rfl, .inl ⟨by omega, by omega⟩, _, _, rfl, rfl, .inr ⟨_, rfl, ?_⟩⟩
    by_cases hc : c * b < a * d
    · rw [decide_eq_true hc]
      refine ⟨x3, _, 1, .ref x2, rfl, rfl, .of upd_same, rfl, x2, _, rfl, .of (s3 _ _ upd_same), rfl, .ref r2, [.ref r1], rfl, .ref r1, [], rfl, rfl, ?_⟩
      obtain ⟨iv, dp⟩ := sd.down (by omega)
      refine loop _ r2 r1 c d a b _ _ s123 (s123 _ _ er2) (s123 _ _ er1) iv dp c9 d9 a9 b9 ?_ _ rfl
      unfold vote
      rw [if_neg (by omega)]
    · rw [decide_eq_false hc]
      refine ⟨x3, _, 0, .ref x1, rfl, rfl, .of upd_same, rfl, x1, _, rfl, .of (s3 _ _ (s2 _ _ upd_same)), rfl, .ref r1, [.ref r2], rfl, .ref r2, [], rfl, rfl, ?_⟩
      obtain ⟨iv, dp⟩ := sd.up (by omega)
      refine loop _ r1 r2 a b c d _ _ s123 (s123 _ _ er1) (s123 _ _ er2) iv dp a9 b9 c9 d9 ?_ _ rfl
      unfold vote
      rw [if_pos (by omega)]
end
end K38
namespace K38
open PySem PySem.Spec PyProof.Rows L2 Seat LamX
theorem seat_at {own more i : Nat} (h : i < 2) : atI [V.int (own : Int), V.int (more : Int)] (i : Int) = some (.int (seat own more i : Nat)) := by
  have c : i = 0 ∨ i = 1 := by omega
  rcases c with rfl | rfl
  · rfl
  · rfl
theorem side_at {v u : Int} {i : Nat} (h : i < 2) : atI [V.int v, V.int u] (i : Int) = some (.int (side v u i)) := by
  have c : i = 0 ∨ i = 1 := by omega
  rcases c with rfl | rfl
  · rfl
  · rfl
theorem seat_lt {own more n i : Nat} (h1 : own < n) (h2 : more < n) : seat own more i < n := by
  unfold seat
  split <;> assumption
theorem side_lt {v u : Int} {i : Nat} (p1 : -(2 ^ 64) < v) (p2 : v < 2 ^ 64) (u1 : -(2 ^ 64) < u) (u2 : u < 2 ^ 64) : -(2 ^ 64) < side v u i ∧ side v u i < 2 ^ 64 := by
  unfold side
  split
  · exact ⟨p1, p2⟩
  · exact ⟨u1, u2⟩
theorem ne_no (i : Nat) : (!decide (V.int (i : Int) = V.int (i : Int))) = false := by
  rw [decide_eq_true rfl]
  rfl
theorem ne_yes {i j : Nat} (h : i ≠ j) : (!decide (V.int (i : Int) = V.int (j : Int))) = true := by
  rw [decide_eq_false (fun z => h (by have := V.int.inj z; omega))]
  rfl
section
variable {P : Program} {w : World} {K : PySem.W.Frag} {mg : Str → Option Value} {base : Heap}
/-! ### _law_is_fair -/
theorem scLFair : FnScope ["_law_divisors_here", "_law_votes", "_law_seats", "_law_one", "_law_other"] ["_law_divisors_here", "_law_votes", "_law_seats"] (defScope lFair) := ⟨rfl, rfl, rfl, by decide +kernel, rfl, by decide +kernel, by decide +kernel⟩
def spLFair : Sp := fun vs H Q _ => ∃ (dt vt sa : Addr) (fs : List Int) (st p u : Int) (n own more : Nat), vs = [.ref dt, .ref vt, .ref sa] ∧ H dt = some (.lst ((dvs fs st n).map V.int)) ∧ H vt = some (.tup [.int p, .int u]) ∧ H sa = some (.tup [.int own, .int more]) ∧ own < n ∧ more < n ∧
  -(2 ^ 64) < p ∧ p < 2 ^ 64 ∧ -(2 ^ 64) < u ∧ u < 2 ^ 64 ∧ Q (.bl (fair (dv fs st) p u own more)) H
theorem ok_lFair (D : Def K mg "_law_is_fair" lFair) (B : Blt mg) : Cal P w K mg base 1 "_law_is_fair" ["_law_divisors_here", "_law_votes", "_law_seats"] spLFair := by
  refine cal_of D scLFair (fun _ _ _ _ _ _ us hl => match us, hl with | [_, _, _], _ => rfl) (fun vs H Q E h => ?_) (fun f cdv A outer s H vs Q E hr h => ?_)
  · obtain ⟨dt, vt, sa, fs, st, p, u, n, own, more, rfl, _⟩ := h
    rfl
  · obtain ⟨dt, vt, sa, fs, st, p, u, n, own, more, rfl, ed, ev, es, ho, hm, p1, p2, u1, u2, q⟩ := h
    refine ⟨_, pss_cons (ps_for PassesOwn.never rfl (pi_range1 (by rfl) B.range (pa_cons (pe_callB call_len_seq (by rfl) B.len PySem.boot_len (pa_cons (pv 1) pa_nil)) pa_nil)) (pg_name (i := 3) scLFair.nd rfl (.inl rfl))
        (pss_one (ps_for PassesOwn.never rfl (pi_range1 (by rfl) B.range (pa_cons (pe_callB call_len_seq (by rfl) B.len PySem.boot_len (pa_cons (pv 1) pa_nil)) pa_nil)) (pg_name (i := 4) scLFair.nd rfl (.inl rfl))
          (pss_one (ps_if (PW.pt (pw_and (pt_cmpR op_ne (pv 3) (pv 4) (nomark _)) (pw_and (pt_cmpR op_gt (pe_ix ix_tup (pv 2) (pv 3) (fun _ _ => rfl)) pe_int (nomark _))
            (pw_and1 (pt_cmpR op_gt (pe_op op_mul (pe_ix ix_tup (pv 1) (pv 4) (fun _ _ => rfl)) (pe_ix ix_list (pv 0) (pe_op op_sub (pe_ix ix_tup (pv 2) (pv 3) (fun _ _ => rfl)) pe_int) (fun _ _ => rfl)))
              (pe_op op_mul (pe_ix ix_tup (pv 1) (pv 3) (fun _ _ => rfl)) (pe_ix ix_list (pv 0) (pe_ix ix_tup (pv 2) (pv 4) (fun _ _ => rfl)) (fun _ _ => rfl))) (nomark _)))))) (pss_one (ps_ret pe_bl)) pss_nil)))))
      (pss_one (ps_ret pe_bl)), ?_⟩
    have hD : SqL K H dt ((dvs fs st n).map V.int) := .of ed
    have hV : SqT K H vt [.int p, .int u] := .of ev
    have hS : SqT K H sa [.int own, .int more] := .of es
    refine ⟨_, rfl, vt, _, rfl, .inr hV, 2, rfl, by decide, by decide, ?_⟩
    refine for_range (lo := 0) (n := 2) (fun i σ H' => H = H' ∧ (∃ y3 y4, σ = [some (.ref dt), some (.ref vt), some (.ref sa), y3, y4]) ∧ ∀ i', i' < i → ∀ j, j < 2 → bad (dv fs st) p u own more i' j = false)
      ⟨rfl, ⟨_, _, rfl⟩, fun i' h => absurd h (Nat.not_lt_zero _)⟩ (fun i σ H' hi h => ?_) (fun σ H' h => ?_)
    · obtain ⟨rfl, ⟨y3, y4, rfl⟩, hb⟩ := h
      have e0 : (0 : Int) + (i : Int) = (i : Int) := Int.zero_add _
      rw [e0]
      refine ⟨_, rfl, vt, _, rfl, .inr hV, 2, rfl, by decide, by decide, ?_⟩
      refine for_range (lo := 0) (n := 2) (fun j σ H' => H = H' ∧ (∃ y4, σ = [some (.ref dt), some (.ref vt), some (.ref sa), some (.int (i : Int)), y4]) ∧ ∀ j', j' < j → bad (dv fs st) p u own more i j' = false)
        ⟨rfl, ⟨_, rfl⟩, fun j' h => absurd h (Nat.not_lt_zero _)⟩ (fun j σ H' hj h => ?_) (fun σ H' h => ?_)
      · obtain ⟨rfl, ⟨y4, rfl⟩, hc⟩ := h
        have e1 : (0 : Int) + (j : Int) = (j : Int) := Int.zero_add _
        rw [e1]
        have next : bad (dv fs st) p u own more i j = false → ∀ j', j' < j + 1 → bad (dv fs st) p u own more i j' = false := fun e j' hj' => by
          by_cases z : j' < j
          · exact hc j' z
          · have z : j' = j := by omega
            rw [z]
            exact e
        refine ⟨_, rfl, _, rfl, rfl, _, rfl, ?_⟩
        by_cases hne : i = j
        · subst hne
          rw [ne_no]
          exact iteF (iteF ⟨rfl, ⟨_, rfl⟩, next bad_same⟩)
        · rw [ne_yes hne]
          refine iteT ⟨_, rfl, _, rfl, sa, _, (i : Int), _, rfl, rfl, hS, seat_at hi, _, 0, rfl, rfl, _, rfl, ?_⟩
          by_cases h0 : 0 < seat own more i
          · rw [decide_eq_true (show (0 : Int) < ((seat own more i : Nat) : Int) by omega)]
            have l1 := seat_lt (i := i) ho hm
            have l2 := seat_lt (i := j) ho hm
            have ⟨b1, b2⟩ := side_lt (i := j) p1 p2 u1 u2
            have ⟨b3, b4⟩ := side_lt (i := i) p1 p2 u1 u2
            refine iteT ⟨_, rfl, _, rfl, vt, _, (j : Int), _, rfl, rfl, hV, side_at hj, _, rfl, _, rfl, _, rfl, sa, _, (i : Int), _, rfl, rfl, hS, seat_at hi, _, 1, rfl, rfl, dt, _, ((seat own more i : Nat) : Int) - 1, _, rfl, rfl, hD, at_of (j := seat own more i - 1) (by omega) (ints_get (dvs_get (by omega))), _, _, rfl, rfl, .inl ⟨b1, b2⟩, ?_⟩
            refine ⟨_, rfl, _, rfl, vt, _, (i : Int), _, rfl, rfl, hV, side_at hi, _, rfl, _, rfl, _, rfl, sa, _, (j : Int), _, rfl, rfl, hS, seat_at hj, dt, _, _, _, rfl, rfl, hD, at_int (dvs_get l2), _, _, rfl, rfl, .inl ⟨b3, b4⟩, _, _, rfl, rfl, _, rfl, ?_⟩
            by_cases hg : side p u j * dv fs st (seat own more i - 1) > side p u i * dv fs st (seat own more j)
            · rw [decide_eq_true (show side p u i * dv fs st (seat own more j) < side p u j * dv fs st (seat own more i - 1) from hg)]
              refine iteT ?_
              have hbad : bad (dv fs st) p u own more i j = true := by
                unfold bad
                rw [decide_eq_true hne, decide_eq_true h0, decide_eq_true hg]
                rfl
              rw [fair_no hi hj hbad] at q
              exact q
            · rw [decide_eq_false (show ¬ side p u i * dv fs st (seat own more j) < side p u j * dv fs st (seat own more i - 1) from hg)]
              refine iteF ⟨rfl, ⟨_, rfl⟩, next ?_⟩
              unfold bad
              rw [decide_eq_false hg, Bool.and_false, Bool.and_false]
          · rw [decide_eq_false (show ¬ (0 : Int) < ((seat own more i : Nat) : Int) by omega)]
            refine iteF (iteF ⟨rfl, ⟨_, rfl⟩, next ?_⟩)
            unfold bad
            rw [decide_eq_false h0, Bool.false_and, Bool.and_false]
      · obtain ⟨rfl, ⟨y4, rfl⟩, hc⟩ := h
        refine ⟨rfl, ⟨_, _, rfl⟩, fun i' hi' j hj => ?_⟩
        by_cases z : i' < i
        · exact hb i' z j hj
        · have z : i' = i := by omega
          rw [z]
          exact hc j hj
    · obtain ⟨rfl, ⟨y3, y4, rfl⟩, hb⟩ := h
      rw [fair_yes hb] at q
      exact q
/-! ### _law_divisions -/
theorem scLDivisions : FnScope ["_law_method_here", "_law_votes", "_law_house", "_law_divisors_here", "_law_own"] ["_law_method_here", "_law_votes", "_law_house"] (defScope lDivisions) := ⟨rfl, rfl, rfl, by decide +kernel, rfl, by decide +kernel, by decide +kernel⟩
theorem ok_lDivisions (D : Def K mg "_law_divisions" lDivisions) (B : Blt mg) (C1 : Cal P w K mg base 1 "_law_divisors" ["_law_method_here", "_law_many"] spLDivs) (C2 : Cal P w K mg base 1 "_law_is_fair" ["_law_divisors_here", "_law_votes", "_law_seats"] spLFair) : Cal P w K mg base 2 "_law_divisions" ["_law_method_here", "_law_votes", "_law_house"] spDivisions := by
  refine cal_of D scLDivisions (fun _ _ _ _ _ _ us hl => match us, hl with | [_, _, _], _ => rfl) (fun vs H Q E h => ?_) (fun f cdv A outer s H vs Q E hr h => ?_)
  · obtain ⟨m, vt, fs, st, p, u, k, rfl, _⟩ := h
    rfl
  · obtain ⟨m, vt, fs, st, p, u, k, rfl, hM, g, ev, p1, p2, u1, u2, k9, q⟩ := h
    refine ⟨_, pss_cons (ps_set (i := 3) scLDivisions.nd rfl (.inr rfl) (pe_cal C1 hr (pa_cons (pv 0) (pa_cons (pe_op op_add (pv 2) pe_int) pa_nil))))
      (pss_one (ps_ret (pe_lc (own := [("_law_own", 4)]) (g := gName 4) rfl scLDivisions.nd (pi_range1 (by rfl) B.range (pa_cons (pe_op op_add (pv 2) pe_int) pa_nil)) (blkOk_by (own := [("_law_own", 4)]) (N := ["_law_method_here", "_law_votes", "_law_house", "_law_divisors_here", "_law_own"]) (sc := defScope lDivisions) (by decide +kernel))
          (fun _ _ _ _ _ => pg_name (i := 4) scLDivisions.nd rfl (Or.inl rfl)) (fun _ _ _ _ _ => pts_one (pt_val (pe_cal C2 hr (pa_cons (pv 3) (pa_cons (pv 1) (pa_cons (pe_tup (pa_cons (pv 4) (pa_cons (pe_op op_sub (pv 2) (pv 4)) pa_nil))) pa_nil)))))) (fun _ _ _ _ _ => pv 4)))), ?_⟩
    refine ⟨_, rfl, _, rfl, (k : Int), 1, rfl, rfl, m, fs, st, k + 1, rfl, hM, g, by omega, fun d H1 s1 ed => ?_⟩
    refine ⟨_, rfl, (k : Int), 1, rfl, rfl, (k : Int) + 1, rfl, by omega, by omega, fun L hL => ?_⟩
    have en : ((k : Int) + 1).toNat = k + 1 := by omega
    rw [en]
    refine lc_range (lo := 0) (n := k + 1) (fun i H' => Same H1 H' ∧ H' L = some (.lst (nats (rowsTo (dv fs st) p u k i)))) ⟨same_upd hL, upd_same⟩ (fun i H' hi h => ?_) (fun H' h => ?_)
    · obtain ⟨sm, e⟩ := h
      have ei : (0 : Int) + (i : Int) = (i : Int) := Int.zero_add _
      rw [ei]
      refine ⟨rfl, ?_⟩
      have es : (k : Int) - (i : Int) = ((k - i : Nat) : Int) := by omega
      refine ⟨_, rfl, _, rfl, _, rfl, _, rfl, _, rfl, (k : Int), (i : Int), rfl, rfl, two_line, fun t ht => ?_⟩
      have s2 := same_upd (o := .tup [.int (i : Int), .int ((k : Int) - (i : Int))]) ht
      have eL := s2 _ _ e
      refine ⟨d, vt, t, fs, st, p, u, k + 1, i, k - i, rfl, s2 _ _ (sm _ _ ed), s2 _ _ (sm _ _ (s1 _ _ ev)), (by rw [upd_same, ← es]), hi, by omega, p1, p2, u1, u2, _, rfl, ?_⟩
      by_cases hf : fair (dv fs st) p u i (k - i) = true
      · rw [hf]
        refine iteT ⟨_, rfl, _, eL, ?_, same_set hL (sm.trans s2), ?_⟩
        · rw [List.length_map]
          have := rowsTo_len (dv fs st) p u k i
          exact small1000 (by omega)
        · rw [upd_same, rowsTo_yes hf]
          unfold nats
          rw [List.map_append]
          rfl
      · have hf : fair (dv fs st) p u i (k - i) = false := by
          cases e : fair (dv fs st) p u i (k - i) with
          | true => exact absurd e hf
          | false => rfl
        rw [hf]
        refine iteF ⟨sm.trans s2, ?_⟩
        rw [rowsTo_no hf]
        exact eL
    · obtain ⟨sm, e⟩ := h
      exact q L H' (s1.trans sm) e
end
end K38
namespace Seat
/-! ### what the votes at the first differing pair do -/
structure Told (fs gs : List Int) (st tt : Int) (q : Nat × Nat) (p u : Int) : Prop where
  p1 : 1 ≤ p
  p9 : p < 2 ^ 64
  u1 : 1 ≤ u
  u9 : u < 2 ^ 64
  apart : ∀ o, o ∈ rows (dv fs st) p u (q.1 + q.2 + 1) → o ∉ rows (dv gs tt) p u (q.1 + q.2 + 1)
theorem first_told {fs gs : List Int} {st tt : Int} {q : Nat × Nat} (T : Two fs st gs tt) (h : first fs gs st tt = some q) :
    Told fs gs st tt q (vote (dv fs st q.1) (dv fs st q.2) (dv gs tt q.1) (dv gs tt q.2)).1 (vote (dv fs st q.1) (dv fs st q.2) (dv gs tt q.1) (dv gs tt q.2)).2 := by
  have A := first_apart T h
  have s := A.sides
  have ⟨_, _, a1, b1, c1, d1, _⟩ := A
  have mD : ∀ i j, i ≤ j → dv fs st i ≤ dv fs st j := fun i j => T.one.mono
  have mE : ∀ i j, i ≤ j → dv gs tt i ≤ dv gs tt j := fun i j => T.two.mono
  by_cases c : dv fs st q.1 * dv gs tt q.2 < dv gs tt q.1 * dv fs st q.2
  · obtain ⟨iv, dp⟩ := s.up c
    have ev : vote (dv fs st q.1) (dv fs st q.2) (dv gs tt q.1) (dv gs tt q.2) = simp_ 19 (dv fs st q.1) (dv fs st q.2) (dv gs tt q.1) (dv gs tt q.2) := if_pos c
    rw [ev]
    obtain ⟨p0, q0, lo, hi⟩ := (simp_ok 19 iv dp).1
    obtain ⟨l1, l2⟩ := simp_le iv dp
    refine ⟨by omega, by omega, by omega, by omega, fun o h1 => rows_apart mD mE p0 q0 (.inl ⟨lo, hi⟩) h1⟩
  · obtain ⟨iv, dp⟩ := s.down c
    have ev : vote (dv fs st q.1) (dv fs st q.2) (dv gs tt q.1) (dv gs tt q.2) = simp_ 19 (dv gs tt q.1) (dv gs tt q.2) (dv fs st q.1) (dv fs st q.2) := if_neg c
    rw [ev]
    obtain ⟨p0, q0, lo, hi⟩ := (simp_ok 19 iv dp).1
    obtain ⟨l1, l2⟩ := simp_le iv dp
    refine ⟨by omega, by omega, by omega, by omega, fun o h1 => rows_apart mD mE p0 q0 (.inr ⟨lo, hi⟩) h1⟩
end Seat
namespace K38
open PySem PySem.Spec PyProof.Rows L2 Seat LamX
/-- tables of code objects stay when only the stream changes -/
theorem tabs_but {T : List (Addr × Str)} {H H' : Hp} {S L : Addr} (t : Tabs T H) (hs : Stream H S L) (b : ButS S H H') : Tabs T H' := fun p hp => by
  obtain ⟨ns, c, k, eS, _⟩ := hs
  obtain ⟨ps, h1, h2, h3⟩ := t p hp
  refine ⟨ps, b _ _ (ne_of h1 eS (by intro z; cases z)) h1, h2, fun pos cv hc => ?_⟩
  obtain ⟨d, e1, e2⟩ := h3 pos cv hc
  exact ⟨d, e1, b _ _ (ne_of e2 eS (by intro z; unfold CodeO at z; cases z)) e2⟩
theorem voted (a : Int × Int) (h : Int) : PyData.eqv (.tuple [.tuple [.int a.1, .int a.2], .int h]) (.tuple [.tuple [.int a.1, .int a.2], .int h]) = true := PySem.SeqAt.eqv_refl _ rfl
theorem all_pass {bs : List Bool} (h : ∀ b ∈ bs, b = true) : bs.all id = true := List.all_eq_true.mpr h
section
variable {P : Program} {w : World} {K : PySem.W.Frag} {mg : Str → Option Value} {base : Heap}
abbrev lawN : List Str := ["_law_script", "_law_stream_here", "_law_method_here", "_law_other", "_law_told", "_law_d", "_law_e", "_law_one", "_law_two_here", "_law_votes", "_law_house", "_law_rows", "_law_own", "_law_k"]
theorem scLaw : FnScope lawN ["_law_script"] (defScope sLaw) := ⟨rfl, rfl, rfl, by decide +kernel, rfl, by decide +kernel, by decide +kernel⟩
def spLaw (K : PySem.W.Frag) (T : List (Addr × Str)) : Sp := fun vs H Q _ => ∃ (a : Addr) (ns : List Int), vs = [.ref a] ∧ SqL K H a (ns.map V.int) ∧ Tabs T H ∧ ∀ H', Q (.bl true) H'
theorem ok_law {T : List (Addr × Str)} {f : Addr} {fd : FuncData} (D : Fun K "law" "law" sLaw f fd) (B : Blt mg) (C1 : Cal P w K mg base 1 "_law_stream" ["_law_script"] (spStream K)) (C2 : Cal P w K mg base 3 "_law_two" ["_law_stream_here"] spLTwo)
    (C3 : Cal P w K mg base 21 "telling_votes" ["method", "other"] (spTelling T)) (C4 : Cal P w K mg base 1 "_law_divisors" ["_law_method_here", "_law_many"] spLDivs)
    (C5 : Cal P w K mg base 1 "_law_index_pairs" ["_law_span_here"] spLPairs) (C6 : Cal P w K mg base 1 "_law_span" ["_law_method_here", "_law_other"] spSpan)
    (C7 : Cal P w K mg base 1 "_law_simplest" ["_law_one", "_law_other"] spVotes) (C8 : Cal P w K mg base 5 "accepts_telling" ["method", "other", "value"] spAccepts)
    (C9 : Cal P w K mg base 2 "_law_divisions" ["_law_method_here", "_law_votes", "_law_house"] spDivisions) : FnOk P w K mg base CX0 22 f fd ["_law_script"] (spLaw K T) := by
  refine D.ok scLaw (fun vs H Q E h => ?_) (fun cdv A outer s H vs Q E hr h => ?_)
  · obtain ⟨a, ns, rfl, _⟩ := h
    rfl
  · obtain ⟨a, ns, rfl, hA, hT, q⟩ := h
    refine ⟨_, pss_cons (ps_set (i := 1) scLaw.nd rfl (.inl rfl) (pe_cal C1 (hr.mono (by decide)) (pa_cons (pv 0) pa_nil)))
      (pss_cons (ps_asg (pe_cal C2 (hr.mono (by decide)) (pa_cons (pv 1) pa_nil)) (pg_unl (by rfl) (pgs_cons (pg_name (i := 2) scLaw.nd rfl (.inl rfl)) (pgs_cons (pg_name (i := 3) scLaw.nd rfl (.inl rfl)) pgs_nil))))
      (Evl.pss_cut (ps_set (i := 4) scLaw.nd rfl (.inl rfl) (pe_cal C3 hr (pa_cons (pv 2) (pa_cons (pv 3) pa_nil))))
      (pss_cons (ps_set (i := 5) scLaw.nd rfl (.inr rfl) (pe_cal C4 (hr.mono (by decide)) (pa_cons (pv 2) (pa_cons pe_int pa_nil))))
      (pss_cons (ps_set (i := 6) scLaw.nd rfl (.inr rfl) (pe_cal C4 (hr.mono (by decide)) (pa_cons (pv 3) (pa_cons pe_int pa_nil))))
      (pss_cons (ps_for PassesOwn.never rfl (pi_list (pe_cal C5 (hr.mono (by decide)) (pa_cons (pe_cal C6 (hr.mono (by decide)) (pa_cons (pv 2) (pa_cons (pv 3) pa_nil))) pa_nil))) (pg_tup (by rfl) (pgs_cons (pg_name (i := 7) scLaw.nd rfl (.inl rfl)) (pgs_cons (pg_name (i := 8) scLaw.nd rfl (.inl rfl)) pgs_nil)))
          (pss_one (ps_if (pt_cmpR op_ne (pe_op op_mul (pe_ix ix_list (pv 5) (pv 7) (fun _ _ => rfl)) (pe_ix ix_list (pv 6) (pv 8) (fun _ _ => rfl))) (pe_op op_mul (pe_ix ix_list (pv 6) (pv 7) (fun _ _ => rfl)) (pe_ix ix_list (pv 5) (pv 8) (fun _ _ => rfl))) (nomark _))
            (pss_cons (ps_set (i := 9) scLaw.nd rfl (.inl rfl) (pe_cal C7 (hr.mono (by decide)) (pa_cons (pe_tup (pa_cons (pe_ix ix_list (pv 5) (pv 7) (fun _ _ => rfl)) (pa_cons (pe_ix ix_list (pv 5) (pv 8) (fun _ _ => rfl)) pa_nil))) (pa_cons (pe_tup (pa_cons (pe_ix ix_list (pv 6) (pv 7) (fun _ _ => rfl)) (pa_cons (pe_ix ix_list (pv 6) (pv 8) (fun _ _ => rfl)) pa_nil))) pa_nil))))
            (pss_cons (ps_set (i := 10) scLaw.nd rfl (.inl rfl) (pe_op op_add (pe_op op_add (pv 7) (pv 8)) pe_int))
            (pss_cons (ps_if (PW.pt (pw_or (pt_cmpR (op_neD hr.units) (pv 4) (pe_tup (pa_cons (pv 9) (pa_cons (pv 10) pa_nil))) (nomark _)) (pw_or1 (pt_cmpR op_notBl (pe_cal C8 (hr.mono (by decide)) (pa_cons (pv 2) (pa_cons (pv 3) (pa_cons (pv 4) pa_nil)))) pe_bl (nomark _))))) (pss_one (ps_ret pe_bl)) pss_nil)
            (pss_cons (ps_set (i := 11) scLaw.nd rfl (.inr rfl) (pe_cal C9 (hr.mono (by decide)) (pa_cons (pv 3) (pa_cons (pv 9) (pa_cons (pv 10) pa_nil)))))
            (pss_one (ps_ret (pe_not (pe_callB (cr_any rfl) (by rfl) B.any (by decide +kernel) (pa_cons (pe_lc (own := [("_law_own", 12)]) (g := gName 12) (tt := tYes) rfl scLaw.nd (pi_list (pe_cal C9 (hr.mono (by decide)) (pa_cons (pv 2) (pa_cons (pv 9) (pa_cons (pv 10) pa_nil))))) (blkOk_by (own := [("_law_own", 12)]) (N := lawN) (sc := defScope sLaw) (by decide +kernel))
                (fun _ _ _ _ _ => pg_name (i := 12) scLaw.nd rfl (Or.inl rfl)) (fun _ _ _ _ _ => pts_nil) (fun _ _ _ _ _ => pe_cmpR (opIn (K := K)) (pv 12) (pv 11) (by rfl))) pa_nil))))))))) pss_nil)))
      (pss_one (ps_ret (pe_and (pe_cmpR op_isN (pv 4) pe_non (nomark _)) (pe_one (pe_callB (cr_all rfl) (by rfl) B.all (by decide +kernel) (pa_cons (pe_lc (own := [("_law_k", 13)]) (g := gName 13) (tt := tYes) rfl scLaw.nd (pi_range1 (by rfl) B.range (pa_cons pe_int pa_nil)) (blkOk_by (own := [("_law_k", 13)]) (N := lawN) (sc := defScope sLaw) (by decide +kernel))
                (fun _ _ _ _ _ => pg_name (i := 13) scLaw.nd rfl (Or.inl rfl)) (fun _ _ _ _ _ => pts_nil) (fun _ _ _ _ _ => pe_cmpR op_eq (pe_op op_mul (pe_ix (ixL (K := K)) (pv 5) (pv 13) (fun _ _ => rfl)) (pe_ix (ixL (K := K)) (pv 6) pe_int (fun _ _ => rfl))) (pe_op op_mul (pe_ix (ixL (K := K)) (pv 6) (pv 13) (fun _ _ => rfl)) (pe_ix (ixL (K := K)) (pv 5) pe_int (fun _ _ => rfl))) (nomark _))) pa_nil))))))))))), ?_⟩
    refine ⟨_, rfl, a, ns, rfl, hA, fun S L H1 s1 hS1 hn => ?_⟩
    refine ⟨_, rfl, S, L, rfl, hS1, fun l m m2 fs gs st tt H2 tw b2 el hM hN => ?_⟩
    have hT2 := tabs_but (hT.ext s1) hS1 b2
    obtain ⟨n1, n2⟩ := tw.span_le
    refine ⟨l, [.ref m, .ref m2], rfl, .of el, rfl, .ref m, [.ref m2], rfl, .ref m2, [], rfl, rfl, ?_⟩
    refine ⟨fun σ H3 => ExtN H2 H3 ∧ ∃ tv : V, σ = [some (.ref a), some (.ref S), some (.ref m), some (.ref m2), some tv, none, none, none, none, none, none, none, none, none] ∧
      ((first fs gs st tt = none ∧ tv = .non) ∨ ∃ z r v, first fs gs st tt = some z ∧ tv = .ref r ∧ H3 r = some (.tup [.ref v, .int ((z.1 : Int) + (z.2 : Int) + 1)]) ∧ H3 v = some (.tup [.int (voteAt fs gs st tt z).1, .int (voteAt fs gs st tt z).2])), ?_, fun σ H3 hm => ?_⟩
    · refine ⟨_, rfl, _, rfl, m, m2, fs, gs, st, tt, rfl, hM, hN, tw, hT2, fun hf H3 x3 => ?_, fun z hz r v H3 x3 er ev => ?_⟩
      · exact ⟨x3, _, rfl, .inl ⟨hf, rfl⟩⟩
      · exact ⟨x3, _, rfl, .inr ⟨z, r, v, hz, rfl, er, ev⟩⟩
    obtain ⟨x3, tv, rfl, ht⟩ := hm
    have hM3 := hM.ext x3
    have hN3 := hN.ext x3
    refine ⟨_, rfl, m, fs, st, 30, rfl, hM3, tw.one, by decide, fun d H4 s4 e4 => ?_⟩
    refine ⟨_, rfl, m2, gs, tt, 30, rfl, hN3.same s4, tw.two, by decide, fun e H5 s5 e5 => ?_⟩
    refine ⟨_, rfl, _, rfl, m, m2, fs, gs, st, tt, rfl, (hM3.same s4).same s5, (hN3.same s4).same s5, span fs gs, rfl, n2, fun p us H6 s6 e6 hu => ?_⟩
    have s36 : Same H3 H6 := s4.trans (s5.trans s6)
    have eD : H6 d = some (.lst ((dvs fs st 30).map V.int)) := s6 _ _ (s5 _ _ e4)
    have eE : H6 e = some (.lst ((dvs gs tt 30).map V.int)) := s6 _ _ e5
    have bnd : ∀ (k : Nat), k < 30 → -(2 ^ 64) < dv fs st k ∧ dv fs st k < 2 ^ 64 ∧ -(2 ^ 64) < dv gs tt k ∧ dv gs tt k < 2 ^ 64 := fun k hk => by
      have a1 := tw.one.pos k
      have a2 := tw.one.upper k
      have b1 := tw.two.pos k
      have b2 := tw.two.upper k
      omega
    refine ⟨p, rfl, ⟨_, .of e6⟩, ?_⟩
    refine for_list (K := K) (a := p) (xs := us.map V.ref) (fun i σ H' => H6 = H' ∧ (∃ y7 y8, σ = [some (.ref a), some (.ref S), some (.ref m), some (.ref m2), some tv, some (.ref d), some (.ref e), y7, y8, none, none, none, none, none]) ∧ ∀ z ∈ (prs (span fs gs)).take i, differs (dv fs st) (dv gs tt) z = false)
      ⟨rfl, ⟨_, _, rfl⟩, fun z hz => by simp at hz⟩ (fun i σ H' _ h => by obtain ⟨rfl, _⟩ := h; exact .of e6) (fun i x σ H' hx h => ?_) (fun σ H' h => ?_)
    · obtain ⟨rfl, ⟨y7, y8, rfl⟩, hz⟩ := h
      rw [List.getElem?_map] at hx
      obtain ⟨t, ht2, rfl⟩ := Option.map_eq_some_iff.mp hx
      have hil : i < (prs (span fs gs)).length := by
        rw [← hu.len]
        exact (List.getElem?_eq_some_iff.mp ht2).1
      have hq := List.getElem?_eq_getElem hil
      have et := hu.at_ i t _ ht2 hq
      have hmem := of_mem_prs (List.getElem_mem hil)
      generalize (prs (span fs gs))[i] = z at hq et hmem
      have z1 : z.1 < 30 := by omega
      have z2 : z.2 < 30 := by omega
      have hD : SqL K H6 d ((dvs fs st 30).map V.int) := .of eD
      have hE : SqL K H6 e ((dvs gs tt 30).map V.int) := .of eE
      have bd := bnd z.1 z1
      refine ⟨t, [.int (z.1 : Int), .int (z.2 : Int)], rfl, .of et, rfl, .int (z.1 : Int), [.int (z.2 : Int)], rfl, .int (z.2 : Int), [], rfl, rfl, ?_⟩
      refine ⟨_, rfl, _, rfl, d, _, (z.1 : Int), _, rfl, rfl, hD, at_int (dvs_get z1), _, rfl, _, rfl, e, _, (z.2 : Int), _, rfl, rfl, hE, at_int (dvs_get z2), _, _, rfl, rfl, .inl ⟨bd.1, bd.2.1⟩, ?_⟩
      refine ⟨_, rfl, _, rfl, e, _, (z.1 : Int), _, rfl, rfl, hE, at_int (dvs_get z1), _, rfl, _, rfl, d, _, (z.2 : Int), _, rfl, rfl, hD, at_int (dvs_get z2), _, _, rfl, rfl, .inl ⟨bd.2.2.1, bd.2.2.2⟩, rfl, _, rfl, ?_⟩
      by_cases hd : dv fs st z.1 * dv gs tt z.2 = dv gs tt z.1 * dv fs st z.2
      · rw [decide_eq_true (congrArg V.int hd)]
        refine iteF ⟨rfl, ⟨_, _, rfl⟩, take_snoc hq hz ?_⟩
        unfold differs
        exact decide_eq_false fun c => c hd
      · rw [decide_eq_false (fun c => hd (V.int.inj c))]
        have hf : first fs gs st tt = some z := find_at hq hz (by unfold differs; exact decide_eq_true hd)
        obtain ⟨r, v, rfl, er3, ev3⟩ : ∃ r v, tv = .ref r ∧ H3 r = some (.tup [.ref v, .int ((z.1 : Int) + (z.2 : Int) + 1)]) ∧ H3 v = some (.tup [.int (voteAt fs gs st tt z).1, .int (voteAt fs gs st tt z).2]) := by
          rcases ht with ⟨g, _⟩ | ⟨y, r, v, g, h1, h2, h3⟩
          · rw [hf] at g
            cases g
          · rw [hf] at g
            cases g
            exact ⟨r, v, h1, h2, h3⟩
        have td := first_told tw hf
        have sd := (first_apart tw hf).sides
        have er6 := s36 _ _ er3
        have ev6 := s36 _ _ ev3
        -- the votes
        refine iteT ⟨_, rfl, _, rfl, d, _, (z.1 : Int), _, rfl, rfl, hD, at_int (dvs_get z1), _, rfl, _, rfl, d, _, (z.2 : Int), _, rfl, rfl, hD, at_int (dvs_get z2), two_line, fun r1 hr1 => ?_⟩
        have s7 := same_upd (o := .tup [.int (dv fs st z.1), .int (dv fs st z.2)]) hr1
        have hE7 : SqL K (upd H6 r1 (.tup [.int (dv fs st z.1), .int (dv fs st z.2)])) e ((dvs gs tt 30).map V.int) := .of (s7 _ _ eE)
        refine ⟨_, rfl, _, rfl, e, _, (z.1 : Int), _, rfl, rfl, hE7, at_int (dvs_get z1), _, rfl, _, rfl, e, _, (z.2 : Int), _, rfl, rfl, hE7, at_int (dvs_get z2), two_line, fun r2 hr2 => ?_⟩
        have s8 := same_upd (o := .tup [.int (dv gs tt z.1), .int (dv gs tt z.2)]) hr2
        refine ⟨r1, r2, _, _, _, _, rfl, s8 _ _ upd_same, upd_same, sd, fun vt H8 s9 ev8 => ?_⟩
        have s68 := s7.trans (s8.trans s9)
        -- the house
        refine ⟨_, rfl, _, rfl, (z.1 : Int), (z.2 : Int), rfl, rfl, _, 1, rfl, rfl, ?_⟩
        -- told is the same
        refine ⟨_, rfl, _, rfl, _, rfl, two_line, fun q1 hq1 => ?_⟩
        have s10 := same_upd (o := .tup [.ref vt, .int ((z.1 : Int) + (z.2 : Int) + 1)]) hq1
        have s610 := s68.trans s10
        refine ⟨.tuple [.tuple [.int (voteAt fs gs st tt z).1, .int (voteAt fs gs st tt z).2], .int ((z.1 : Int) + (z.2 : Int) + 1)], .tuple [.tuple [.int (voteAt fs gs st tt z).1, .int (voteAt fs gs st tt z).2], .int ((z.1 : Int) + (z.2 : Int) + 1)],
          .tup (.of (s610 _ _ er6)) (.cons (.tup (.of (s610 _ _ ev6)) (.cons (.int _) (.cons (.int _) .nil))) (.cons (.int _) .nil)),
          .tup (.of upd_same) (.cons (.tup (.of (s10 _ _ ev8)) (.cons (.int _) (.cons (.int _) .nil))) (.cons (.int _) .nil)), rfl, rfl, _, rfl, ?_⟩
        rw [voted]
        refine iteF ?_
        have eh : (z.1 : Int) + (z.2 : Int) + 1 = ((z.1 + z.2 + 1 : Nat) : Int) := by omega
        have s310 := s36.trans s610
        have k9 : z.1 + z.2 + 1 ≤ 100 := by omega
        -- it is taken
        refine ⟨_, rfl, _, rfl, _, rfl, m, m2, r, v, fs, gs, st, tt, _, _, z.1 + z.2 + 1, rfl, hM3.same s310, hN3.same s310, tw.one, tw.two, (by rw [← eh]; exact s610 _ _ er6), s610 _ _ ev6, td.p1, td.p9, td.u1, td.u9, by omega, k9, td.apart, fun H11 s11 => ⟨true, true, rfl, rfl, _, rfl, iteF ?_⟩⟩
        have s611 := s610.trans s11
        have s311 := s36.trans s611
        have ev11 := s11 _ _ (s10 _ _ ev8)
        -- the rows
        have p1 := td.p1
        have u1 := td.u1
        refine ⟨_, rfl, _, rfl, _, rfl, m2, vt, gs, tt, _, _, z.1 + z.2 + 1, (by rw [← eh]; rfl), hN3.same s311, tw.two, ev11, by omega, td.p9, by omega, td.u9, k9, fun b H12 s12 eb => ?_⟩
        refine ⟨_, rfl, _, rfl, _, rfl, m, vt, fs, st, _, _, z.1 + z.2 + 1, (by rw [← eh]; rfl), (hM3.same s311).same s12, tw.one, s12 _ _ ev11, by omega, td.p9, by omega, td.u9, k9, fun c H13 s13 ec => ?_⟩
        have eb13 := s13 _ _ eb
        refine ⟨c, rfl, ⟨_, .of ec⟩, fun R hR => ?_⟩
        have hlen : (rows (dv fs st) (voteAt fs gs st tt z).1 (voteAt fs gs st tt z).2 (z.1 + z.2 + 1)).length ≤ 101 := by
          have w := rowsTo_len (dv fs st) (voteAt fs gs st tt z).1 (voteAt fs gs st tt z).2 (z.1 + z.2 + 1) (z.1 + z.2 + 1 + 1)
          have w : (rows (dv fs st) (voteAt fs gs st tt z).1 (voteAt fs gs st tt z).2 (z.1 + z.2 + 1)).length ≤ z.1 + z.2 + 1 + 1 := w
          omega
        refine lc_list (K := K) (a := c) (xs := nats (rows (dv fs st) (voteAt fs gs st tt z).1 (voteAt fs gs st tt z).2 (z.1 + z.2 + 1))) (fun i H' => Same H13 H' ∧ ∃ bs : List Bool, H' R = some (.lst (bs.map V.bl)) ∧ bs.any id = false ∧ bs.length ≤ i)
          ⟨same_upd hR, [], upd_same, rfl, Nat.le_refl _⟩ (fun i H' _ h => .of (h.1 _ _ ec)) (fun i x H' hx h => ?_) (fun H' h => ?_)
        · obtain ⟨sm, bs, e1, e2, e3⟩ := h
          have hi : i < (rows (dv fs st) (voteAt fs gs st tt z).1 (voteAt fs gs st tt z).2 (z.1 + z.2 + 1)).length := by
            have w := (List.getElem?_eq_some_iff.mp hx).1
            rw [List.length_map] at w
            exact w
          rw [List.getElem?_map] at hx
          obtain ⟨o, ho, rfl⟩ := Option.map_eq_some_iff.mp hx
          have hn := not_in (td.apart o (List.mem_of_getElem? ho))
          refine ⟨rfl, ?_⟩
          refine ⟨_, rfl, _, rfl, b, nats (rows (dv gs tt) (voteAt fs gs st tt z).1 (voteAt fs gs st tt z).2 (z.1 + z.2 + 1)), rfl, .inl (.of (sm _ _ eb13)), rfl, flat_nats _, ?_⟩
          refine ⟨_, e1, ?_, same_set hR sm, bs ++ [inV (.int (o : Int)) (nats (rows (dv gs tt) (voteAt fs gs st tt z).1 (voteAt fs gs st tt z).2 (z.1 + z.2 + 1)))], ?_, ?_, ?_⟩
          · rw [List.length_map]
            exact small1000 (by omega)
          · rw [upd_same, List.map_append]
            rfl
          · unfold voteAt
            rw [hn, List.any_append, e2]
            rfl
          · rw [List.length_append]
            show bs.length + 1 ≤ i + 1
            omega
        · obtain ⟨sm, bs, e1, e2, e3⟩ := h
          refine ⟨R, bs, rfl, .of e1, bs.any id, rfl, ?_⟩
          rw [e2]
          exact q H'
    · obtain ⟨rfl, ⟨y7, y8, rfl⟩, hz⟩ := h
      rw [List.length_map, hu.len] at hz
      have hf : first fs gs st tt = none := find_none hz
      rcases ht with ⟨_, rfl⟩ | ⟨z, r, v, hz2, _⟩
      · refine ⟨_, rfl, rfl, _, rfl, iteT ?_⟩
        refine ⟨30, rfl, by decide, by decide, fun R hR => ?_⟩
        have en : ((30 : Int)).toNat = 30 := by decide
        rw [en]
        rw [List.take_length] at hz
        refine lc_range (lo := 0) (n := 30) (fun i H' => Same H6 H' ∧ ∃ bs : List Bool, H' R = some (.lst (bs.map V.bl)) ∧ (∀ b ∈ bs, b = true) ∧ bs.length ≤ i) ⟨same_upd hR, [], upd_same, fun b hb => by simp at hb, Nat.le_refl _⟩ (fun i H' hi h => ?_) (fun H' h => ?_)
        · obtain ⟨sm, bs, e1, e2, e3⟩ := h
          have ei : (0 : Int) + (i : Int) = (i : Int) := Int.zero_add _
          rw [ei]
          have hD : SqL K H' d ((dvs fs st 30).map V.int) := .of (sm _ _ eD)
          have hE : SqL K H' e ((dvs gs tt 30).map V.int) := .of (sm _ _ eE)
          have bd := bnd i hi
          refine ⟨rfl, ?_⟩
          refine ⟨_, rfl, _, rfl, d, _, (i : Int), _, rfl, rfl, hD, at_int (dvs_get hi), _, rfl, e, _, 0, _, rfl, rfl, hE, at_of (j := 0) rfl (ints_get (dvs_get (by decide))), _, _, rfl, rfl, .inl ⟨bd.1, bd.2.1⟩, ?_⟩
          refine ⟨_, rfl, _, rfl, e, _, (i : Int), _, rfl, rfl, hE, at_int (dvs_get hi), _, rfl, d, _, 0, _, rfl, rfl, hD, at_of (j := 0) rfl (ints_get (dvs_get (by decide))), _, _, rfl, rfl, .inl ⟨bd.2.2.1, bd.2.2.2⟩, rfl, ?_⟩
          rw [decide_eq_true (congrArg V.int (two_same tw hz i))]
          refine ⟨_, e1, ?_, same_set hR sm, bs ++ [true], ?_, ?_, ?_⟩
          · rw [List.length_map]
            exact small1000 (by omega)
          · rw [upd_same, List.map_append]
            rfl
          · intro b hb
            rcases List.mem_append.mp hb with h | h
            · exact e2 b h
            · exact List.mem_singleton.mp h
          · rw [List.length_append]
            show bs.length + 1 ≤ i + 1
            omega
        · obtain ⟨sm, bs, e1, e2, e3⟩ := h
          refine ⟨R, bs, rfl, .of e1, ?_⟩
          rw [all_pass e2]
          exact q H'
      · rw [hf] at hz2
        cases hz2
end
end K38
namespace K38
open PySem PySem.Spec PyProof.Rows L2 Seat LamX
/-- the module as it stands behind the top -/
structure Txt (K : PySem.W.Frag) (mg : Str → Option Value) : Prop where
  b : Blt mg
  m : Con mg
  whole : Def K mg "is_whole" sWhole
  method : Def K mg "is_method" sMethod
  divAt : Def K mg "divisor_at" sDivAt
  divsTo : Def K mg "divisors_to" sDivsTo
  checkM : Def K mg "check_method" sCheckM
  checkB : Def K mg "check_both" sCheckB
  span : Def K mg "span_of" sSpan
  count : Def K mg "is_count" sCount
  pairC : Def K mg "is_pair_of_counts" sPairC
  simplest : Def K mg "simplest" sSimplest
  votes : Def K mg "votes_between" sVotes
  ratios : Def K mg "ratios_at" sRatios
  differ : Def K mg "differing_pair" sDiffer
  telling : Def K mg "telling_votes" sTelling
  question : Def K mg "is_question" sQuestion
  fair : Def K mg "is_fair" sFair
  divisions : Def K mg "divisions" sDivisions
  accepts : Def K mg "accepts_telling" sAccepts
  stream : Def K mg "_law_stream" lStream
  next : Def K mg "_law_next" lNext
  lMethod : Def K mg "_law_method" lMethod
  lDivs : Def K mg "_law_divisors" lDivs
  lAlike : Def K mg "_law_alike" lAlike
  lFair : Def K mg "_law_is_fair" lFair
  lDivisions : Def K mg "_law_divisions" lDivisions
  lTwo : Def K mg "_law_two" lTwo
  lSpan : Def K mg "_law_span" lSpan
  lPairs : Def K mg "_law_index_pairs" lPairs
  lSimplest : Def K mg "_law_simplest" lSimplest
theorem def_mk {K : PySem.W.Frag} {h : Heap} {mg : Str → Option Value} {x : Str} {st : Stmt} {f : Addr} {oc : Value} {od an : Option Addr} {osl : Array (Option Value)} {kV doc pm cdv ct : Value} (X : K.In h) (G : h.Ns mainGlobals mg)
    (a : PySem.W.nsIn K mainGlobals x = some (some (.ref f))) (l : K.lookup f = some ⟨oc, od, .func (PySem.W.fnOf x x (defArgs st) (defBody st) (defScope st) .none kV doc pm an cdv ct), osl⟩)
    (c : PySem.W.codeIn K cdv x = true) (k : PySem.W.keepIn K (.ref f) = true) : Def K mg x st := ⟨f, _, fun_mk l c k, PySem.W.mg_of X G a⟩
/-- the same, the written part told by a fact about it -/
abbrev DefX {K : PySem.W.Frag} {h : Heap} (_X : K.In h) (mg : Str → Option Value) (x : Str) (st : Stmt) : Prop := Def K mg x st
abbrev TxtX {K : PySem.W.Frag} {h : Heap} (_X : K.In h) (mg : Str → Option Value) : Prop := Txt K mg
theorem con_mk {K : PySem.W.Frag} {h : Heap} {mg : Str → Option Value} {x : Str} {v : Value} {i : Int} (X : K.In h) (G : h.Ns mainGlobals mg) (e : PySem.W.nsIn K mainGlobals x = some (some v)) (hv : ∃ t, v = .int i t) : ∃ t, mg x = some (.int i t) := by
  obtain ⟨t, rfl⟩ := hv
  exact ⟨t, PySem.W.mg_of X G e⟩
section
variable {P : Program} {w : World} {K : PySem.W.Frag} {mg : Str → Option Value} {base : Heap}
theorem law_ok (X : Txt K mg) {f c Pt : Addr} {od an : Option Addr} {osl : Array (Option Value)} {oc kV doc pm ct : Value}
    (lk : K.lookup f = some ⟨oc, od, .func (PySem.W.fnOf "index_pairs" "index_pairs" (defArgs sPairs) (defBody sPairs) (defScope sPairs) .none kV doc pm an (.ref c) ct), osl⟩) (hcd : PySem.W.codeIn K (.ref c) "index_pairs" = true)
    (kp : PySem.W.keepIn K (.ref f) = true) (m : mg "index_pairs" = some (.ref f)) (TB : TabB base mg c Pt) {fa : Addr} {fd : FuncData} (F : Fun K "law" "law" sLaw fa fd) : FnOk P w K mg base CX0 22 fa fd ["_law_script"] (spLaw K [(Pt, lamName)]) := by
  have B := X.b
  have M := X.m
  have whole := ok_whole (P := P) (w := w) (base := base) X.whole B
  have method := ok_method X.method B M whole
  have divAt := ok_divAt (P := P) (w := w) (base := base) X.divAt B
  have divsTo := ok_divsTo X.divsTo B divAt
  have checkM := ok_checkM X.checkM method
  have checkB := ok_checkB X.checkB checkM
  have span := ok_span (P := P) (w := w) (base := base) X.span B
  have count := ok_count (P := P) (w := w) (base := base) X.count B
  have pairC := ok_pairC X.pairC B count
  have pairs := ok_pairs (P := P) (w := w) (base := base) lk hcd kp m TB B
  have ratios := ok_ratios X.ratios span divsTo
  have differ := ok_differ X.differ span pairs ratios
  have votes := ok_votes X.votes (ok_simplest (P := P) (w := w) (base := base) X.simplest 19)
  have telling := ok_telling X.telling checkB differ ratios votes
  have question := ok_question X.question B M pairC whole
  have fair := ok_fair (P := P) (w := w) (base := base) X.fair
  have divisions := ok_divisions X.divisions B divsTo fair
  have accepts := ok_accepts X.accepts B checkB question divisions
  have stream := ok_stream (P := P) (w := w) (base := base) X.stream B
  have next := ok_next (P := P) (w := w) (base := base) X.next B
  have lMethod := ok_lMethod X.lMethod B next
  have lDivs := ok_lDivs (P := P) (w := w) (base := base) X.lDivs B
  have lAlike := ok_lAlike X.lAlike B next lDivs
  have lTwo := ok_lTwo X.lTwo next lMethod lAlike
  have lSpan := ok_lSpan (P := P) (w := w) (base := base) X.lSpan B
  have lPairs := ok_lPairs (P := P) (w := w) (base := base) X.lPairs B
  have lSimplest := ok_lSimplest (P := P) (w := w) (base := base) X.lSimplest B
  have lFair := ok_lFair (P := P) (w := w) (base := base) X.lFair B
  have lDivisions := ok_lDivisions X.lDivisions B lDivs lFair
  exact ok_law F B stream lTwo telling lDivs lPairs lSpan lSimplest accepts lDivisions
end
/-- what the end asks of the law -/
theorem law_at {l : PySem.W.OpenLaw} {w : World} {K : PySem.W.Frag} {mg : Str → Option Value} {h : Heap} (KX : K.In h) (G : h.Ns mainGlobals mg) (X : Txt K mg) {f c Pt fa f2 : Addr} {od an od2 an2 : Option Addr} {osl osl2 : Array (Option Value)} {oc kV doc pm ct oc2 kV2 doc2 pm2 cd2 ct2 : Value}
    (a : PySem.W.nsIn K mainGlobals "index_pairs" = some (some (.ref f)))
    (lk : K.lookup f = some ⟨oc, od, .func (PySem.W.fnOf "index_pairs" "index_pairs" (defArgs sPairs) (defBody sPairs) (defScope sPairs) .none kV doc pm an (.ref c) ct), osl⟩) (hcd : PySem.W.codeIn K (.ref c) "index_pairs" = true)
    (kp : PySem.W.keepIn K (.ref f) = true) (hh : PySem.W.codeHdIn K c Pt = true) (hT : h.get? Pt = some { cls := .none, data := .fields #[] }) (nT : K.lookup Pt = none)
    (hfa : mg "law" = some (.ref fa)) (a2 : PySem.W.nsIn K mainGlobals "law" = some (some (.ref f2)))
    (l2 : K.lookup f2 = some ⟨oc2, od2, .func (PySem.W.fnOf "law" "law" (defArgs sLaw) (defBody sLaw) (defScope sLaw) .none kV2 doc2 pm2 an2 cd2 ct2), osl2⟩) (c2 : PySem.W.codeIn K cd2 "law" = true) (k2 : PySem.W.keepIn K (.ref f2) = true) :
    LawAtS l w K CX0 22 63 "_law_script" mg fa h := by
  have e := hfa.symm.trans (PySem.W.mg_of KX G a2)
  cases e
  refine ⟨PySem.W.fnOf "law" "law" (defArgs sLaw) (defBody sLaw) (defScope sLaw) .none kV2 doc2 pm2 an2 cd2 ct2, [(c, Pt)], spLaw K [(Pt, lamName)], ?_, ?_, ?_, fun s u => .of_eq rfl, ?_, fun base _ _ TB => ?_⟩
  · intro p hp
    cases List.mem_singleton.mp hp
    exact hT
  · intro p hp
    cases List.mem_singleton.mp hp
    exact nT
  · intro p hp
    cases List.mem_singleton.mp hp
    exact PySem.W.codeHd_of_K KX hh
  · intro H b ns _ _ hE hS
    refine ⟨b, ns, rfl, hS, fun p hp => ?_, fun _ => rfl⟩
    cases List.mem_singleton.mp hp
    exact TabS.nil (hE (c, Pt) (List.mem_singleton.mpr rfl))
  · exact law_ok X lk hcd kp (PySem.W.mg_of KX G a) (TB (c, Pt) (List.mem_singleton.mpr rfl)) (fun_mk l2 c2 k2)
end K38
open PySem PySem.W PyProof.Rows
set_option maxHeartbeats 0 in
theorem PySem.Challenge.cw_dividedseats_k38_whole_telling_votes_holds : PySem.Challenge.rw_dividedseats_k38_whole_telling_votes.Holds := by
  w_on; o_law; k_head; (case hw => w_witness2)
  k_fill
  refine LamX.walk_ofTs (l := PySem.Challenge.rw_dividedseats_k38_whole_telling_votes) (n := 63) (k := 22) (x := "_law_script") (CX := fun _ => L2.CX0) rfl (by decide) rfl ⟨rfl, by decide, by decide⟩ (fun w h Y => PySem.W.km_in_of Y) ?F (fun _ _ _ _ _ z => z)
  case F =>
    intro w mg fa h Y KX G hmg
    have hTb := PySem.W.km_tabs_of Y
    have b_isinstance : mg "isinstance" = none := by
      refine' PySem.W.mg_none_of KX G ?e
      (case e => k_is)
    have b_tuple : mg "tuple" = none := by
      refine' PySem.W.mg_none_of KX G ?e
      (case e => k_is)
    have b_len : mg "len" = none := by
      refine' PySem.W.mg_none_of KX G ?e
      (case e => k_is)
    have b_all : mg "all" = none := by
      refine' PySem.W.mg_none_of KX G ?e
      (case e => k_is)
    have b_any : mg "any" = none := by
      refine' PySem.W.mg_none_of KX G ?e
      (case e => k_is)
    have b_range : mg "range" = none := by
      refine' PySem.W.mg_none_of KX G ?e
      (case e => k_is)
    have b_list : mg "list" = none := by
      refine' PySem.W.mg_none_of KX G ?e
      (case e => k_is)
    have b_int : mg "int" = none := by
      refine' PySem.W.mg_none_of KX G ?e
      (case e => k_is)
    have b_bool : mg "bool" = none := by
      refine' PySem.W.mg_none_of KX G ?e
      (case e => k_is)
    have b_max : mg "max" = none := by
      refine' PySem.W.mg_none_of KX G ?e
      (case e => k_is)
    have b_abs : mg "abs" = none := by
      refine' PySem.W.mg_none_of KX G ?e
      (case e => k_is)
    have b_sorted : mg "sorted" = none := by
      refine' PySem.W.mg_none_of KX G ?e
      (case e => k_is)
    have m_firsts : ∃ t, mg "MOST_FIRSTS" = some (.int 6 t) := by
      refine' K38.con_mk KX G ?e ?hv
      (case e => k_is); (case hv => exact ⟨_, rfl⟩)
    have m_divisor : ∃ t, mg "MOST_DIVISOR" = some (.int 1000 t) := by
      refine' K38.con_mk KX G ?e ?hv
      (case e => k_is); (case hv => exact ⟨_, rfl⟩)
    have m_house : ∃ t, mg "MOST_HOUSE" = some (.int 100 t) := by
      refine' K38.con_mk KX G ?e ?hv
      (case e => k_is); (case hv => exact ⟨_, rfl⟩)
    have d_whole : K38.DefX KX mg "is_whole" K38.sWhole := by
      refine' K38.def_mk KX G ?a ?l ?c ?k
      (case a => k_is); (case l => k_is); (case c => k_is); (case k => k_is)
    have d_method : K38.DefX KX mg "is_method" K38.sMethod := by
      refine' K38.def_mk KX G ?a ?l ?c ?k
      (case a => k_is); (case l => k_is); (case c => k_is); (case k => k_is)
    have d_divAt : K38.DefX KX mg "divisor_at" K38.sDivAt := by
      refine' K38.def_mk KX G ?a ?l ?c ?k
      (case a => k_is); (case l => k_is); (case c => k_is); (case k => k_is)
    have d_divsTo : K38.DefX KX mg "divisors_to" K38.sDivsTo := by
      refine' K38.def_mk KX G ?a ?l ?c ?k
      (case a => k_is); (case l => k_is); (case c => k_is); (case k => k_is)
    have d_checkM : K38.DefX KX mg "check_method" K38.sCheckM := by
      refine' K38.def_mk KX G ?a ?l ?c ?k
      (case a => k_is); (case l => k_is); (case c => k_is); (case k => k_is)
    have d_checkB : K38.DefX KX mg "check_both" K38.sCheckB := by
      refine' K38.def_mk KX G ?a ?l ?c ?k
      (case a => k_is); (case l => k_is); (case c => k_is); (case k => k_is)
    have d_span : K38.DefX KX mg "span_of" K38.sSpan := by
      refine' K38.def_mk KX G ?a ?l ?c ?k
      (case a => k_is); (case l => k_is); (case c => k_is); (case k => k_is)
    have d_count : K38.DefX KX mg "is_count" K38.sCount := by
      refine' K38.def_mk KX G ?a ?l ?c ?k
      (case a => k_is); (case l => k_is); (case c => k_is); (case k => k_is)
    have d_pairC : K38.DefX KX mg "is_pair_of_counts" K38.sPairC := by
      refine' K38.def_mk KX G ?a ?l ?c ?k
      (case a => k_is); (case l => k_is); (case c => k_is); (case k => k_is)
    have d_simplest : K38.DefX KX mg "simplest" K38.sSimplest := by
      refine' K38.def_mk KX G ?a ?l ?c ?k
      (case a => k_is); (case l => k_is); (case c => k_is); (case k => k_is)
    have d_votes : K38.DefX KX mg "votes_between" K38.sVotes := by
      refine' K38.def_mk KX G ?a ?l ?c ?k
      (case a => k_is); (case l => k_is); (case c => k_is); (case k => k_is)
    have d_ratios : K38.DefX KX mg "ratios_at" K38.sRatios := by
      refine' K38.def_mk KX G ?a ?l ?c ?k
      (case a => k_is); (case l => k_is); (case c => k_is); (case k => k_is)
    have d_differ : K38.DefX KX mg "differing_pair" K38.sDiffer := by
      refine' K38.def_mk KX G ?a ?l ?c ?k
      (case a => k_is); (case l => k_is); (case c => k_is); (case k => k_is)
    have d_telling : K38.DefX KX mg "telling_votes" K38.sTelling := by
      refine' K38.def_mk KX G ?a ?l ?c ?k
      (case a => k_is); (case l => k_is); (case c => k_is); (case k => k_is)
    have d_question : K38.DefX KX mg "is_question" K38.sQuestion := by
      refine' K38.def_mk KX G ?a ?l ?c ?k
      (case a => k_is); (case l => k_is); (case c => k_is); (case k => k_is)
    have d_fair : K38.DefX KX mg "is_fair" K38.sFair := by
      refine' K38.def_mk KX G ?a ?l ?c ?k
      (case a => k_is); (case l => k_is); (case c => k_is); (case k => k_is)
    have d_divisions : K38.DefX KX mg "divisions" K38.sDivisions := by
      refine' K38.def_mk KX G ?a ?l ?c ?k
      (case a => k_is); (case l => k_is); (case c => k_is); (case k => k_is)
    have d_accepts : K38.DefX KX mg "accepts_telling" K38.sAccepts := by
      refine' K38.def_mk KX G ?a ?l ?c ?k
      (case a => k_is); (case l => k_is); (case c => k_is); (case k => k_is)
    have d_stream : K38.DefX KX mg "_law_stream" K38.lStream := by
      refine' K38.def_mk KX G ?a ?l ?c ?k
      (case a => k_is); (case l => k_is); (case c => k_is); (case k => k_is)
    have d_next : K38.DefX KX mg "_law_next" K38.lNext := by
      refine' K38.def_mk KX G ?a ?l ?c ?k
      (case a => k_is); (case l => k_is); (case c => k_is); (case k => k_is)
    have d_lMethod : K38.DefX KX mg "_law_method" K38.lMethod := by
      refine' K38.def_mk KX G ?a ?l ?c ?k
      (case a => k_is); (case l => k_is); (case c => k_is); (case k => k_is)
    have d_lDivs : K38.DefX KX mg "_law_divisors" K38.lDivs := by
      refine' K38.def_mk KX G ?a ?l ?c ?k
      (case a => k_is); (case l => k_is); (case c => k_is); (case k => k_is)
    have d_lAlike : K38.DefX KX mg "_law_alike" K38.lAlike := by
      refine' K38.def_mk KX G ?a ?l ?c ?k
      (case a => k_is); (case l => k_is); (case c => k_is); (case k => k_is)
    have d_lFair : K38.DefX KX mg "_law_is_fair" K38.lFair := by
      refine' K38.def_mk KX G ?a ?l ?c ?k
      (case a => k_is); (case l => k_is); (case c => k_is); (case k => k_is)
    have d_lDivisions : K38.DefX KX mg "_law_divisions" K38.lDivisions := by
      refine' K38.def_mk KX G ?a ?l ?c ?k
      (case a => k_is); (case l => k_is); (case c => k_is); (case k => k_is)
    have d_lTwo : K38.DefX KX mg "_law_two" K38.lTwo := by
      refine' K38.def_mk KX G ?a ?l ?c ?k
      (case a => k_is); (case l => k_is); (case c => k_is); (case k => k_is)
    have d_lSpan : K38.DefX KX mg "_law_span" K38.lSpan := by
      refine' K38.def_mk KX G ?a ?l ?c ?k
      (case a => k_is); (case l => k_is); (case c => k_is); (case k => k_is)
    have d_lPairs : K38.DefX KX mg "_law_index_pairs" K38.lPairs := by
      refine' K38.def_mk KX G ?a ?l ?c ?k
      (case a => k_is); (case l => k_is); (case c => k_is); (case k => k_is)
    have d_lSimplest : K38.DefX KX mg "_law_simplest" K38.lSimplest := by
      refine' K38.def_mk KX G ?a ?l ?c ?k
      (case a => k_is); (case l => k_is); (case c => k_is); (case k => k_is)
    have T : K38.TxtX KX mg := ⟨⟨b_isinstance, b_tuple, b_len, b_all, b_any, b_range, b_list, b_int, b_bool, b_max, b_abs, b_sorted⟩, ⟨m_firsts, m_divisor, m_house⟩, d_whole, d_method, d_divAt, d_divsTo, d_checkM, d_checkB, d_span, d_count, d_pairC, d_simplest, d_votes, d_ratios, d_differ, d_telling, d_question, d_fair, d_divisions, d_accepts, d_stream, d_next, d_lMethod, d_lDivs, d_lAlike, d_lFair, d_lDivisions, d_lTwo, d_lSpan, d_lPairs, d_lSimplest⟩
    refine' K38.law_at KX G T ?a ?lk ?hcd ?kp ?hh ?hT ?nT hmg ?a2 ?l2 ?c2 ?k2
    (case a => k_is); (case lk => k_is); (case hcd => k_is); (case kp => k_is)
    (case hT => exact hTb 93 (List.mem_singleton.mpr rfl))
    (case hh => kernel_rfl)
    (case nT => kernel_rfl)
    (case a2 => k_is); (case l2 => k_is); (case c2 => k_is); (case k2 => k_is)
