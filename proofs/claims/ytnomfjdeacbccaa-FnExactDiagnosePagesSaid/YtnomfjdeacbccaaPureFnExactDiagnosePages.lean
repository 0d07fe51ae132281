/-
  Proved: for every number of stations, every unit and every list of pages, the program's DiagnosePages answers as the reference's does (the law's pure statement: numbers and lists alone), without any condition.
-/
import Derived.Test.YtnomfjdeacbccaaPFnExactDiagnosePagesx10
set_option linter.unusedVariables false
set_option linter.unusedSimpArgs false
namespace Go.Proofs.Ytnomfjdeacbccaa.Pure
open Go.RowKit Go.Proofs.Ytnomfjdeacbccaa.PFnExactDiagnosePages Go.Proofs.YtnomfjdeacbccaaW.PrintWords Go.Proofs.YtnomfjdeacbccaaW.PrintLast

theorem wr {x : Int} (h0 : -9223372036854775808 ≤ x) (h1 : x ≤ 9223372036854775807) : wrap64 x = x := by unfold wrap64; omega
theorem rd_lt {xs : List Int} {i : Int} (h0 : 0 ≤ i) (h : i < xs.length) : rd xs i = xs[i.toNat]'(by omega) := by simp [rd, show i.toNat < xs.length by omega]
theorem drop_cons {xs : List Int} {i : Int} (h0 : 0 ≤ i) (h : i < xs.length) : xs.drop i.toNat = rd xs i :: xs.drop (i + 1).toNat := by
  rw [rd_lt h0 h, show (i + 1).toNat = i.toNat + 1 by omega]
  exact List.drop_eq_getElem_cons (by omega)
theorem wfI {x : Int} (h : (Lit.int .i64 x).wf = true) : -9223372036854775808 ≤ x ∧ x ≤ 9223372036854775807 := by
  simp [Lit.wf, IntKind.min, IntKind.max, IntKind.bits, IntKind.signed] at h
  omega
theorem Ev.go {α β : Type} {g : Nat → Option α} {f : Nat → α → Option β} {a : α} {r : β} (h : Ev g a) (k : Ev (fun n => f n a) r) : Ev (fun n => (g n).bind (f n)) r := Ev.bind h k
theorem Ev.at_ {α : Type} {g : Nat → Option α} {r : α} (K : Nat) (h : ∀ k, K ≤ k → g k = some r) : Ev g r := ⟨K, h⟩
theorem Ev.const {α : Type} {o : Option α} {r : α} (h : o = some r) : Ev (fun _ => o) r := ⟨0, fun _ _ => h⟩

/-! ### units, blocks -/
def unitB (u : Int) : Bool := decide (u = 4 ∨ u = 8 ∨ u = 16 ∨ u = 32 ∨ u = 64 ∨ u = 128)
theorem has_l0 (xs : List Int) (a : Int) (hm : xs.length ≤ 9000000000000000000) : ∀ (d k : Nat) (i : Int), 0 ≤ i → i ≤ xs.length → (xs.length : Int) - i = d → d < k → spec_l01Has.l0 k xs a i = some (decide (a ∈ xs.drop i.toNat)) := by
  intro d
  induction d with
  | zero =>
    intro k i h0 h1 hd hk
    obtain ⟨k, rfl⟩ : ∃ m, k = m + 1 := ⟨k - 1, by omega⟩
    simp only [spec_l01Has.l0]
    rw [if_neg (by omega), List.drop_eq_nil_of_le (by omega)]
    simp
  | succ d ih =>
    intro k i h0 h1 hd hk
    obtain ⟨k, rfl⟩ : ∃ m, k = m + 1 := ⟨k - 1, by omega⟩
    simp only [spec_l01Has.l0]
    rw [if_pos (by omega), if_pos h0, wr (by omega) (by omega), drop_cons h0 (by omega), ih k (i + 1) (by omega) (by omega) (by omega) (by omega)]
    by_cases e : rd xs i = a
    · simp [e]
    · rw [if_neg e]; simp [show ¬ a = rd xs i from fun h => e h.symm]
theorem has_ev (xs : List Int) (a : Int) (hm : xs.length ≤ 9000000000000000000) : Ev (fun k => spec_l01Has.f k xs a) (decide (a ∈ xs)) :=
  Ev.at_ (xs.length + 1) fun k hk => by
    have := has_l0 xs a hm xs.length k 0 (by omega) (by omega) (by omega) (by omega)
    simpa [spec_l01Has.f] using this
theorem index_l0 (xs : List Int) (a : Int) (hm : xs.length ≤ 9000000000000000000) : ∀ (d k : Nat) (i : Int), 0 ≤ i → i ≤ xs.length → (xs.length : Int) - i = d → d < k →
    ∃ r, slices_Index_int64_int64.l0 k xs a (xs.length : Int) i = some r ∧ decide (r ≥ 0) = decide (a ∈ xs.drop i.toNat) := by
  intro d
  induction d with
  | zero =>
    intro k i h0 h1 hd hk
    obtain ⟨k, rfl⟩ : ∃ m, k = m + 1 := ⟨k - 1, by omega⟩
    simp only [slices_Index_int64_int64.l0]
    rw [if_neg (by omega), List.drop_eq_nil_of_le (by omega)]
    exact ⟨-1, rfl, by simp⟩
  | succ d ih =>
    intro k i h0 h1 hd hk
    obtain ⟨k, rfl⟩ : ∃ m, k = m + 1 := ⟨k - 1, by omega⟩
    simp only [slices_Index_int64_int64.l0]
    rw [if_pos (by omega), if_pos h0, if_pos (by omega), wr (by omega) (by omega), drop_cons h0 (by omega)]
    by_cases e : a = rd xs i
    · exact ⟨i, by rw [if_pos e], by simp [e, h0]⟩
    · obtain ⟨r, hr, he⟩ := ih k (i + 1) (by omega) (by omega) (by omega) (by omega)
      refine ⟨r, by rw [if_neg e]; exact hr, ?_⟩
      rw [he]; simp [e]
theorem contains_ev (xs : List Int) (a : Int) (hm : xs.length ≤ 9000000000000000000) : Ev (fun k => slices_Contains_int64_int64.f k xs a) (decide (a ∈ xs)) :=
  Ev.at_ (xs.length + 1) fun k hk => by
    obtain ⟨r, hr, he⟩ := index_l0 xs a hm xs.length k 0 (by omega) (by omega) (by omega) (by omega)
    unfold slices_Contains_int64_int64.f slices_Index_int64_int64.f
    rw [hr]
    simpa using he
theorem specUnit_ev (u : Int) : Ev (fun k => spec_IsUnit.f k u) (unitB u) := by
  unfold spec_IsUnit.f
  refine Ev.go (has_ev [4, 8, 16, 32, 64, 128] u (by simp)) (Ev.const ?_)
  congr 1
  unfold unitB
  simp
theorem inRange_is (a b c : Int) : impl_inRange.f a b c = some (decide (b ≤ a ∧ a ≤ c)) := by
  unfold impl_inRange.f; by_cases h : b ≤ a <;> simp [h]
theorem l01In_is (a b c : Int) : spec_l01In.f a b c = some (decide (b ≤ a ∧ a ≤ c)) := by
  unfold spec_l01In.f; by_cases h : b ≤ a <;> simp [h]
theorem implUnit_is (u : Int) : impl_IsUnit.f u = some (unitB u) := by
  unfold impl_IsUnit.f
  rw [inRange_is]
  simp only [Option.bind_some]
  by_cases h : 4 ≤ u ∧ u ≤ 128
  · rw [if_pos (by simpa using h)]
    congr 1
    obtain ⟨n, rfl⟩ : ∃ n : Nat, u = n := ⟨u.toNat, by omega⟩
    have key : ∀ n : Fin 129, 4 ≤ n.val → ((Go.bits .and .i64 (n.val : Int) (wrap64 ((n.val : Int) - 1))) == 0) = unitB (n.val : Int) := by decide +kernel
    exact key ⟨n, by omega⟩ (show 4 ≤ n by omega)
  · rw [if_neg (by simpa using h)]
    congr 1
    symm
    unfold unitB
    simp only [decide_eq_false_iff_not]
    omega
def lineB (n : Int) : Bool := decide (1 ≤ n ∧ n ≤ 12)
theorem specLine_is (n : Int) : spec_l14Line.f n 0 = some (lineB n) := by
  unfold spec_l14Line.f lineB
  rw [l01In_is, l01In_is]
  simp only [Option.bind_some]
  by_cases h : 1 ≤ n ∧ n ≤ 12 <;> simp [h]
theorem implLine_is (n : Int) : impl_isLine.f n 0 = some (lineB n) := by
  unfold impl_isLine.f lineB
  rw [inRange_is, inRange_is]
  simp only [Option.bind_some]
  by_cases h : 1 ≤ n ∧ n ≤ 12 <;> simp [h]
def blockB (n : Int) (l : List Int) : Bool := decide (1 ≤ n ∧ n ≤ 12 ∧ (l.length : Int) ≤ 2 * n ∧ (∀ x ∈ l, -n ≤ x ∧ x ≤ n) ∧ ¬ (0 : Int) ∈ l)
theorem within_l0 (xs : List Int) (m a b : Int) (hm : xs.length ≤ 9000000000000000000) : ∀ (d k : Nat) (i : Int), 0 ≤ i → i ≤ xs.length → (xs.length : Int) - i = d → d < k → spec_l01Within.l0 k xs m a b i = some (decide ((∀ x ∈ xs.drop i.toNat, a ≤ x ∧ x ≤ b) ∧ (xs.length : Int) ≤ m)) := by
  intro d
  induction d with
  | zero =>
    intro k i h0 h1 hd hk
    obtain ⟨k, rfl⟩ : ∃ m, k = m + 1 := ⟨k - 1, by omega⟩
    simp only [spec_l01Within.l0]
    rw [if_neg (by omega), List.drop_eq_nil_of_le (by omega)]
    simp
  | succ d ih =>
    intro k i h0 h1 hd hk
    obtain ⟨k, rfl⟩ : ∃ m, k = m + 1 := ⟨k - 1, by omega⟩
    simp only [spec_l01Within.l0]
    rw [if_pos (by omega), if_pos h0, l01In_is, wr (by omega) (by omega), drop_cons h0 (by omega), ih k (i + 1) (by omega) (by omega) (by omega) (by omega)]
    simp only [Option.bind_some]
    by_cases e : a ≤ rd xs i ∧ rd xs i ≤ b
    · simp [e]
    · simp [e]
theorem specFits_ev (n : Int) (l : List Int) (hm : l.length ≤ 9000000000000000000) : Ev (fun k => spec_l14Fits.f k n l) (blockB n l) := by
  unfold spec_l14Fits.f
  rw [specLine_is]
  simp only [Option.bind_some]
  by_cases h : 1 ≤ n ∧ n ≤ 12
  · have hl : lineB n = true := by simpa [lineB] using h
    simp only [hl, if_true]
    refine Ev.go (a := decide ((∀ x ∈ l, -n ≤ x ∧ x ≤ n) ∧ (l.length : Int) ≤ 24)) (Ev.at_ (l.length + 1) fun k hk => ?_) ?_
    · rw [wr (by omega) (by omega)]
      have := within_l0 l 24 (-n) n hm l.length k 0 (by omega) (by omega) (by omega) (by omega)
      simpa [spec_l01Within.f] using this
    · rw [wr (by omega) (by omega)]
      by_cases h1 : (∀ x ∈ l, -n ≤ x ∧ x ≤ n) ∧ (l.length : Int) ≤ 24
      · rw [decide_eq_true h1]
        simp only [if_true]
        by_cases h2 : (l.length : Int) ≤ 2 * n
        · simp only [h2, if_true]
          refine Ev.go (f := fun _ t => some (!t)) (has_ev l 0 hm) (Ev.const ?_)
          congr 1
          unfold blockB
          rw [← decide_not, decide_eq_decide]
          exact ⟨fun hh => ⟨h.1, h.2, h2, h1.1, hh⟩, fun hh => hh.2.2.2.2⟩
        · simp only [h2, if_false]
          refine Ev.const ?_
          congr 1
          symm
          unfold blockB
          simp [h2]
      · simp only [h1, decide_false, Bool.false_eq_true, if_false]
        refine Ev.const ?_
        congr 1
        symm
        unfold blockB
        simp only [decide_eq_false_iff_not]
        intro ⟨_, _, h2, h3, _⟩
        exact h1 ⟨h3, by omega⟩
  · have hl : lineB n = false := by simp only [lineB, decide_eq_false_iff_not]; exact h
    simp only [hl, Bool.false_eq_true, if_false]
    refine Ev.const ?_
    congr 1
    symm
    unfold blockB
    simp only [decide_eq_false_iff_not]
    intro ⟨a, b, _⟩
    exact h ⟨a, b⟩
theorem implBlock_ev (n : Int) (l : List Int) (hm : l.length ≤ 9000000000000000000) : Ev (fun k => impl_isBlock.f k n l) (blockB n l) := by
  unfold impl_isBlock.f
  rw [implLine_is]
  simp only [Option.bind_some]
  by_cases h : 1 ≤ n ∧ n ≤ 12
  · have hl : lineB n = true := by simpa [lineB] using h
    simp only [hl, if_true, impl_length_int64.f, Option.bind_some]
    rw [wr (by omega) (by omega), wr (by omega) (by omega)]
    by_cases h2 : (l.length : Int) ≤ 2 * n
    · simp only [h2, if_true, impl_allIn.f, Option.bind_some]
      by_cases h1 : ∀ x ∈ l, -n ≤ x ∧ x ≤ n
      · have e : (!(l.any fun x => !(decide (-n ≤ x) && decide (x ≤ n)))) = true := by
          simp only [Bool.not_eq_true', List.any_eq_false]
          intro x hx
          simp [h1 x hx]
        simp only [e, if_true]
        refine Ev.go (f := fun _ t => some (!t)) (contains_ev l 0 hm) (Ev.const ?_)
        congr 1
        unfold blockB
        rw [← decide_not, decide_eq_decide]
        exact ⟨fun hh => ⟨h.1, h.2, h2, h1, hh⟩, fun hh => hh.2.2.2.2⟩
      · have e : (!(l.any fun x => !(decide (-n ≤ x) && decide (x ≤ n)))) = false := by
          cases hh : (!(l.any fun x => !(decide (-n ≤ x) && decide (x ≤ n)))) with
          | false => rfl
          | true =>
            refine absurd (fun x hx => ?_) h1
            simp only [Bool.not_eq_true', List.any_eq_false] at hh
            have := hh x hx
            simp at this
            omega
        simp only [e, Bool.false_eq_true, if_false]
        refine Ev.const ?_
        congr 1
        symm
        unfold blockB
        simp only [decide_eq_false_iff_not]
        intro ⟨_, _, _, h3, _⟩
        exact h1 h3
    · simp only [h2, if_false]
      refine Ev.const ?_
      congr 1
      symm
      unfold blockB
      simp [h2]
  · have hl : lineB n = false := by simp only [lineB, decide_eq_false_iff_not]; exact h
    simp only [hl, Bool.false_eq_true, if_false]
    refine Ev.const ?_
    congr 1
    symm
    unfold blockB
    simp only [decide_eq_false_iff_not]
    intro ⟨a, b, _⟩
    exact h ⟨a, b⟩

/-! ### pages -/
def pgAt (u s : Int) (k : Nat) : Int := if s > 0 then (s - 1) * u + k + 1 else s * u + k
def pg (u s : Int) : List Int := (List.range u.toNat).map (pgAt u s)
def allP (u : Int) (b : List Int) : List Int := b.flatMap (pg u)
theorem pg_len (u s : Int) : (pg u s).length = u.toNat := by simp [pg]
theorem allP_len (u : Int) (b : List Int) : (allP u b).length = b.length * u.toNat := by
  induction b with
  | nil => simp [allP]
  | cons x r ih => simp only [allP, List.flatMap_cons, List.length_append] at *; rw [ih, pg_len, List.length_cons, Nat.succ_mul]; omega
theorem mul_bd {s u : Int} (hs : -12 ≤ s ∧ s ≤ 12) (hu : 0 ≤ u ∧ u ≤ 128) : -1536 ≤ s * u ∧ s * u ≤ 1536 := by
  obtain ⟨n, rfl⟩ : ∃ n : Nat, u = n := ⟨u.toNat, by omega⟩
  have h1 : s * (n : Int) ≤ 12 * n := Int.mul_le_mul_of_nonneg_right hs.2 (by omega)
  have h2 : (-12) * (n : Int) ≤ s * n := Int.mul_le_mul_of_nonneg_right hs.1 (by omega)
  omega
theorem specPages_l0 (u s : Int) (hu : 0 ≤ u ∧ u ≤ 128) (hs : -12 ≤ s ∧ s ≤ 12) : ∀ (d k : Nat) (acc : List Int) (i : Int), 1 ≤ i → i ≤ u + 1 → u + 1 - i = d → d < k → acc.length ≤ 1000000 + i.toNat →
    spec_l28Pages.l0 k u s acc i = some (acc ++ (List.range' (i.toNat - 1) d).map (pgAt u s)) := by
  intro d
  induction d with
  | zero =>
    intro k acc i h0 h1 hd hk hl
    obtain ⟨k, rfl⟩ : ∃ m, k = m + 1 := ⟨k - 1, by omega⟩
    simp only [spec_l28Pages.l0]
    rw [if_neg (by omega)]
    simp
  | succ d ih =>
    intro k acc i h0 h1 hd hk hl
    obtain ⟨k, rfl⟩ : ∃ m, k = m + 1 := ⟨k - 1, by omega⟩
    have b1 := mul_bd hs hu
    have ei : ((i.toNat - 1 : Nat) : Int) = i - 1 := by omega
    have e2 : List.range' (i.toNat - 1) (d + 1) = (i.toNat - 1) :: List.range' ((i + 1).toNat - 1) d := by
      rw [List.range'_succ, show (i + 1).toNat - 1 = i.toNat - 1 + 1 by omega]
    simp only [spec_l28Pages.l0]
    rw [if_pos (by omega), e2, List.map_cons, wr (x := i + 1) (by omega) (by omega)]
    by_cases hp : s > 0
    · have b2 := mul_bd (s := s - 1) (by omega) hu
      rw [if_pos hp, if_pos (by omega), wr (x := s - 1) (by omega) (by omega), wr (x := (s - 1) * u) (by omega) (by omega), wr (x := (s - 1) * u + i) (by omega) (by omega), ih k _ (i + 1) (by omega) (by omega) (by omega) (by omega) (by simp; omega)]
      have : pgAt u s (i.toNat - 1) = (s - 1) * u + i := by unfold pgAt; rw [if_pos hp, ei]; omega
      rw [this]; simp
    · rw [if_neg hp, if_pos (by omega), wr (x := s * u) (by omega) (by omega), wr (x := s * u + i) (by omega) (by omega), wr (x := s * u + i - 1) (by omega) (by omega), ih k _ (i + 1) (by omega) (by omega) (by omega) (by omega) (by simp; omega)]
      have : pgAt u s (i.toNat - 1) = s * u + i - 1 := by unfold pgAt; rw [if_neg hp, ei]; omega
      rw [this]; simp
theorem specPages_at (u s : Int) (hu : 0 ≤ u ∧ u ≤ 128) (hs : -12 ≤ s ∧ s ≤ 12) (k : Nat) (hk : 129 < k) : spec_l28Pages.f k u s = some (pg u s) := by
  unfold spec_l28Pages.f
  rw [specPages_l0 u s hu hs u.toNat k [] 1 (by omega) (by omega) (by omega) (by omega) (by simp)]
  simp [pg, List.range_eq_range']
theorem implPages_l0 (u s : Int) (hu : 0 ≤ u ∧ u ≤ 128) (hs : -12 ≤ s ∧ s ≤ 12) : ∀ (d k : Nat) (acc : List Int) (i : Int), 0 ≤ i → i ≤ u → u - i = d → d < k → acc.length ≤ 1000000 + i.toNat →
    impl_pagesOf.l0 k u s acc u i = some (acc ++ (List.range' i.toNat d).map (pgAt u s)) := by
  intro d
  induction d with
  | zero =>
    intro k acc i h0 h1 hd hk hl
    obtain ⟨k, rfl⟩ : ∃ m, k = m + 1 := ⟨k - 1, by omega⟩
    simp only [impl_pagesOf.l0]
    rw [if_neg (by omega)]
    simp
  | succ d ih =>
    intro k acc i h0 h1 hd hk hl
    obtain ⟨k, rfl⟩ : ∃ m, k = m + 1 := ⟨k - 1, by omega⟩
    have b1 := mul_bd hs hu
    have ei : ((i.toNat : Nat) : Int) = i := by omega
    have e2 : List.range' i.toNat (d + 1) = i.toNat :: List.range' (i + 1).toNat d := by
      rw [List.range'_succ, show (i + 1).toNat = i.toNat + 1 by omega]
    simp only [impl_pagesOf.l0]
    rw [if_pos (by omega), e2, List.map_cons, wr (x := i + 1) (by omega) (by omega)]
    by_cases hp : s > 0
    · have b2 := mul_bd (s := s - 1) (by omega) hu
      rw [if_pos hp, if_pos (by omega), wr (x := s - 1) (by omega) (by omega), wr (x := (s - 1) * u) (by omega) (by omega), wr (x := (s - 1) * u + i) (by omega) (by omega), wr (x := (s - 1) * u + i + 1) (by omega) (by omega), ih k _ (i + 1) (by omega) (by omega) (by omega) (by omega) (by simp; omega)]
      have : pgAt u s i.toNat = (s - 1) * u + i + 1 := by unfold pgAt; rw [if_pos hp, ei]
      rw [this]; simp
    · rw [if_neg hp, if_pos (by omega), wr (x := s * u) (by omega) (by omega), wr (x := s * u + i) (by omega) (by omega), ih k _ (i + 1) (by omega) (by omega) (by omega) (by omega) (by simp; omega)]
      have : pgAt u s i.toNat = s * u + i := by unfold pgAt; rw [if_neg hp, ei]
      rw [this]; simp
theorem implPages_at (u s : Int) (hu : 0 ≤ u ∧ u ≤ 128) (hs : -12 ≤ s ∧ s ≤ 12) (k : Nat) (hk : 129 < k) : impl_pagesOf.f k u s = some (pg u s) := by
  unfold impl_pagesOf.f
  rw [implPages_l0 u s hu hs u.toNat k [] 0 (by omega) (by omega) (by omega) (by omega) (by simp)]
  simp [pg, List.range_eq_range']
theorem specAll_l0 (u : Int) (b : List Int) (hu : 0 ≤ u ∧ u ≤ 128) (hs : ∀ x ∈ b, -12 ≤ x ∧ x ≤ 12) (hb : b.length ≤ 1000) : ∀ (d k : Nat) (acc : List Int) (i : Int), 0 ≤ i → i ≤ b.length → (b.length : Int) - i = d → d + 200 < k → acc.length ≤ 128 * i.toNat →
    spec_l28All.l0 k u b acc i = some (acc ++ allP u (b.drop i.toNat)) := by
  intro d
  induction d with
  | zero =>
    intro k acc i h0 h1 hd hk hl
    obtain ⟨k, rfl⟩ : ∃ m, k = m + 1 := ⟨k - 1, by omega⟩
    simp only [spec_l28All.l0]
    rw [if_neg (by omega), List.drop_eq_nil_of_le (by omega)]
    simp [allP]
  | succ d ih =>
    intro k acc i h0 h1 hd hk hl
    obtain ⟨k, rfl⟩ : ∃ m, k = m + 1 := ⟨k - 1, by omega⟩
    have hm : rd b i ∈ b := by rw [rd_lt h0 (by omega)]; exact List.getElem_mem _
    have pl := pg_len u (rd b i)
    simp only [spec_l28All.l0]
    rw [if_pos (by omega), if_pos h0, specPages_at u _ hu (hs _ hm) k (by omega)]
    simp only [Option.bind_some]
    rw [if_pos (by omega), wr (x := i + 1) (by omega) (by omega), ih k _ (i + 1) (by omega) (by omega) (by omega) (by omega) (by rw [List.length_append]; omega), drop_cons h0 (by omega)]
    simp [allP, List.flatMap_cons]
theorem implAll_l0 (u : Int) (b : List Int) (hu : 0 ≤ u ∧ u ≤ 128) (hs : ∀ x ∈ b, -12 ≤ x ∧ x ≤ 12) (hb : b.length ≤ 1000) : ∀ (d k : Nat) (acc : List Int) (i : Int), 0 ≤ i → i ≤ b.length → (b.length : Int) - i = d → d + 200 < k → acc.length ≤ 128 * i.toNat →
    impl_pagesOfBlock.l0 k u acc b (b.length : Int) i = some (acc ++ allP u (b.drop i.toNat)) := by
  intro d
  induction d with
  | zero =>
    intro k acc i h0 h1 hd hk hl
    obtain ⟨k, rfl⟩ : ∃ m, k = m + 1 := ⟨k - 1, by omega⟩
    simp only [impl_pagesOfBlock.l0]
    rw [if_neg (by omega), List.drop_eq_nil_of_le (by omega)]
    simp [allP]
  | succ d ih =>
    intro k acc i h0 h1 hd hk hl
    obtain ⟨k, rfl⟩ : ∃ m, k = m + 1 := ⟨k - 1, by omega⟩
    have hm : rd b i ∈ b := by rw [rd_lt h0 (by omega)]; exact List.getElem_mem _
    have pl := pg_len u (rd b i)
    simp only [impl_pagesOfBlock.l0]
    rw [if_pos (by omega), if_pos h0, if_pos (by omega), implPages_at u _ hu (hs _ hm) k (by omega)]
    simp only [Option.bind_some]
    rw [if_pos (by omega), wr (x := i + 1) (by omega) (by omega), ih k _ (i + 1) (by omega) (by omega) (by omega) (by omega) (by rw [List.length_append]; omega), drop_cons h0 (by omega)]
    simp [allP, List.flatMap_cons]
theorem specAll_ev (u : Int) (b : List Int) (hu : 0 ≤ u ∧ u ≤ 128) (hs : ∀ x ∈ b, -12 ≤ x ∧ x ≤ 12) (hb : b.length ≤ 1000) : Ev (fun k => spec_l28All.f k u b) (allP u b) :=
  Ev.at_ 1300 fun k hk => by
    unfold spec_l28All.f
    rw [specAll_l0 u b hu hs hb b.length k [] 0 (by omega) (by omega) (by omega) (by omega) (by simp)]
    simp
theorem implAll_ev (u : Int) (b : List Int) (hu : 0 ≤ u ∧ u ≤ 128) (hs : ∀ x ∈ b, -12 ≤ x ∧ x ≤ 12) (hb : b.length ≤ 1000) : Ev (fun k => impl_pagesOfBlock.f k u b) (allP u b) :=
  Ev.at_ 1300 fun k hk => by
    unfold impl_pagesOfBlock.f
    rw [implAll_l0 u b hu hs hb b.length k [] 0 (by omega) (by omega) (by omega) (by omega) (by simp)]
    simp
/-! ### the same lists -/
theorem same_l0 (xs ys : List Int) (hl : xs.length = ys.length) (hm : xs.length ≤ 9000000000000000000) : ∀ (d k : Nat) (i : Int), 0 ≤ i → i ≤ xs.length → (xs.length : Int) - i = d → d < k → spec_l01Same.l0 k xs ys i = some (decide (xs.drop i.toNat = ys.drop i.toNat)) := by
  intro d
  induction d with
  | zero =>
    intro k i h0 h1 hd hk
    obtain ⟨k, rfl⟩ : ∃ m, k = m + 1 := ⟨k - 1, by omega⟩
    simp only [spec_l01Same.l0]
    rw [if_neg (by omega), List.drop_eq_nil_of_le (by omega), List.drop_eq_nil_of_le (by omega)]
    simp
  | succ d ih =>
    intro k i h0 h1 hd hk
    obtain ⟨k, rfl⟩ : ∃ m, k = m + 1 := ⟨k - 1, by omega⟩
    simp only [spec_l01Same.l0]
    rw [if_pos (by omega), if_pos h0, if_pos (by omega), wr (by omega) (by omega), drop_cons h0 (by omega), drop_cons (xs := ys) h0 (by omega), ih k (i + 1) (by omega) (by omega) (by omega) (by omega)]
    by_cases e : rd xs i = rd ys i
    · simp [e]
    · simp [e]
theorem same_ev (xs ys : List Int) (hm : xs.length ≤ 9000000000000000000) : Ev (fun k => spec_l01Same.f k xs ys) (decide (xs = ys)) :=
  Ev.at_ (xs.length + 1) fun k hk => by
    unfold spec_l01Same.f
    by_cases hl : xs.length = ys.length
    · rw [if_pos (by omega), same_l0 xs ys hl hm xs.length k 0 (by omega) (by omega) (by omega) (by omega)]
      simp
    · rw [if_neg (by omega)]
      congr 1
      symm
      simp only [decide_eq_false_iff_not]
      intro h
      exact hl (by rw [h])
theorem equal_ev (xs ys : List Int) (hm : xs.length ≤ 9000000000000000000) : Ev (fun k => slices_Equal_int64_int64.f k xs ys) (decide (xs = ys)) := Ev.of (fun k => slices_Equal_int64_int64.mono _ _ k) (impl_ExplainBlock.equal_is xs ys (by omega))
theorem eq_l0 (xs ys : List Int) (hl : xs.length = ys.length) (hm : xs.length ≤ 9000000000000000000) : ∀ (d k : Nat) (i : Int), 0 ≤ i → i ≤ xs.length → (xs.length : Int) - i = d → d < k → laws_eqInt64S.l0 k xs ys i = some (decide (xs.drop i.toNat = ys.drop i.toNat)) := by
  intro d
  induction d with
  | zero =>
    intro k i h0 h1 hd hk
    obtain ⟨k, rfl⟩ : ∃ m, k = m + 1 := ⟨k - 1, by omega⟩
    simp only [laws_eqInt64S.l0]
    rw [if_neg (by omega), List.drop_eq_nil_of_le (by omega), List.drop_eq_nil_of_le (by omega)]
    simp
  | succ d ih =>
    intro k i h0 h1 hd hk
    obtain ⟨k, rfl⟩ : ∃ m, k = m + 1 := ⟨k - 1, by omega⟩
    simp only [laws_eqInt64S.l0]
    rw [if_pos (by omega), if_pos h0, if_pos (by omega), wr (by omega) (by omega), drop_cons h0 (by omega), drop_cons (xs := ys) h0 (by omega), ih k (i + 1) (by omega) (by omega) (by omega) (by omega)]
    by_cases e : rd xs i = rd ys i
    · simp [e]
    · simp [e]
theorem eq_ev (xs ys : List Int) (hm : xs.length ≤ 9000000000000000000) : Ev (fun k => laws_eqInt64S.f k xs ys) (decide (xs = ys)) :=
  Ev.at_ (xs.length + 1) fun k hk => by
    unfold laws_eqInt64S.f
    by_cases hl : xs.length = ys.length
    · rw [if_pos (by omega), eq_l0 xs ys hl hm xs.length k 0 (by omega) (by omega) (by omega) (by omega)]
      simp
    · rw [if_neg (by omega)]
      congr 1
      symm
      simp only [decide_eq_false_iff_not]
      intro h
      exact hl (by rw [h])

/-! ### the block of pages -/
def sgI (u x : Int) : Int := if x < 0 then Int.tdiv x u else Int.tdiv (x - 1) u + 1
def sgS (n u x : Int) : Int := if 1 ≤ -x ∧ -x ≤ n * u then -(Int.tdiv (-x - 1) u + 1) else if 1 ≤ x ∧ x ≤ n * u then Int.tdiv (x - 1) u + 1 else 0
/-- Every u-th element from i on, turned by f. -/
def heads (f : Int → Int) (u : Nat) (xs : List Int) : Nat → Nat → List Int
  | 0, _ => []
  | m + 1, i => if i < xs.length then f (rd xs i) :: heads f u xs m (i + u) else []
def fin (n u : Int) (pages b : List Int) : List Int × Int := if blockB n b = true ∧ allP u b = pages then (b, 0) else ([], 4)

theorem heads_done (f : Int → Int) (u : Nat) (xs : List Int) (m i : Nat) (h : xs.length ≤ i) : heads f u xs m i = [] := by
  cases m with
  | zero => rfl
  | succ m => unfold heads; rw [if_neg (by omega)]
theorem heads_len (f : Int → Int) (u : Nat) (xs : List Int) : ∀ (m i : Nat), (heads f u xs m i).length ≤ m
  | 0, _ => by simp [heads]
  | m + 1, i => by
    unfold heads
    split
    · simp only [List.length_cons]
      have := heads_len f u xs m (i + u)
      omega
    · simp

/-- The end of either loop: is it a block, and are its pages those. -/
theorem finS_ev (n u : Int) (pages b : List Int) (hu : 0 ≤ u ∧ u ≤ 128) (hb : b.length ≤ 2000000) (hp : pages.length ≤ 2000000) :
    Ev (fun k => (spec_l14Fits.f k n b).bind fun t161 => (if t161 = true then ((spec_l28All.f k u b).bind fun t162 => ((spec_l01Same.f k t162 pages).bind fun t165 => (if t165 = true then (some (b, 0)) else (some (([] : List Int), 4))))) else (some (([] : List Int), 4)))) (fin n u pages b) := by
  refine Ev.go (specFits_ev n b (by omega)) ?_
  by_cases h : blockB n b = true
  · simp only [h, if_true]
    have hB := h
    unfold blockB at hB
    simp only [decide_eq_true_eq] at hB
    obtain ⟨h1, h2, h3, h4, h5⟩ := hB
    have hlen := allP_len u b
    have hpl : (allP u b).length ≤ 9000000000000000000 := by
      rw [hlen]
      have : b.length * u.toNat ≤ 24 * 128 := Nat.mul_le_mul (by omega) (by omega)
      omega
    refine Ev.go (specAll_ev u b hu (fun x hx => by have := h4 x hx; omega) (by omega)) ?_
    refine Ev.go (same_ev _ _ hpl) ?_
    by_cases e : allP u b = pages
    · simp only [e, decide_true, if_true]
      exact Ev.const (by unfold fin; rw [if_pos ⟨h, e⟩])
    · simp only [e, decide_false, Bool.false_eq_true, if_false]
      exact Ev.const (by unfold fin; rw [if_neg (fun hh => e hh.2)])
  · have h0 : blockB n b = false := by simpa using h
    simp only [h0, Bool.false_eq_true, if_false]
    exact Ev.const (by unfold fin; rw [if_neg (fun hh => h hh.1)])
theorem finI_ev (n u : Int) (pages b : List Int) (hu : 0 ≤ u ∧ u ≤ 128) (hb : b.length ≤ 2000000) (hp : pages.length ≤ 2000000) :
    Ev (fun k => (impl_isBlock.f k n b).bind fun t277 => (if t277 = true then ((impl_pagesOfBlock.f k u b).bind fun t278 => ((slices_Equal_int64_int64.f k t278 pages).bind fun t281 => (if t281 = true then (some (b, 0)) else (some (([] : List Int), 4))))) else (some (([] : List Int), 4)))) (fin n u pages b) := by
  refine Ev.go (implBlock_ev n b (by omega)) ?_
  by_cases h : blockB n b = true
  · simp only [h, if_true]
    have hB := h
    unfold blockB at hB
    simp only [decide_eq_true_eq] at hB
    obtain ⟨h1, h2, h3, h4, h5⟩ := hB
    have hlen := allP_len u b
    have hpl : (allP u b).length ≤ 9000000000000000000 := by
      rw [hlen]
      have : b.length * u.toNat ≤ 24 * 128 := Nat.mul_le_mul (by omega) (by omega)
      omega
    refine Ev.go (implAll_ev u b hu (fun x hx => by have := h4 x hx; omega) (by omega)) ?_
    refine Ev.go (equal_ev _ _ hpl) ?_
    by_cases e : allP u b = pages
    · simp only [e, decide_true, if_true]
      exact Ev.const (by unfold fin; rw [if_pos ⟨h, e⟩])
    · simp only [e, decide_false, Bool.false_eq_true, if_false]
      exact Ev.const (by unfold fin; rw [if_neg (fun hh => e hh.2)])
  · have h0 : blockB n b = false := by simpa using h
    simp only [h0, Bool.false_eq_true, if_false]
    exact Ev.const (by unfold fin; rw [if_neg (fun hh => h hh.1)])

theorem tdiv_bd {x u : Int} (hu : 4 ≤ u) (hx : -9223372036854775808 ≤ x ∧ x ≤ 9223372036854775807) : -2305843009213693952 ≤ Int.tdiv x u ∧ Int.tdiv x u ≤ 2305843009213693952 := by
  have key : ∀ y : Int, 0 ≤ y → y ≤ 9223372036854775808 → 0 ≤ Int.tdiv y u ∧ Int.tdiv y u ≤ 2305843009213693952 := by
    intro y h0 h1
    rw [Int.tdiv_eq_ediv_of_nonneg h0]
    refine ⟨Int.ediv_nonneg h0 (by omega), ?_⟩
    have h2 := Int.ediv_nonneg (a := y) (b := u) h0 (by omega)
    have h3 := Int.mul_ediv_self_le (x := y) (k := u) (by omega)
    have h4 : 4 * (y / u) ≤ u * (y / u) := Int.mul_le_mul_of_nonneg_right hu h2
    omega
  by_cases h : 0 ≤ x
  · have := key x h (by omega)
    omega
  · have h2 := key (-x) (by omega) (by omega)
    rw [Int.neg_tdiv] at h2
    omega
theorem implBlk_l0 (n u : Int) (pages : List Int) (hn : lineB n = true) (hu : unitB u = true) (hw : ∀ x ∈ pages, -9223372036854775808 ≤ x ∧ x ≤ 9223372036854775807) (hp : pages.length ≤ 1048576) : ∀ (m : Nat) (acc : List Int) (i : Nat), pages.length ≤ i + m → i ≤ pages.length + 128 → acc.length ≤ i →
    Ev (fun k => impl_blockOfPages.l0 k n u pages acc (i : Int)) (fin n u pages (acc ++ heads (sgI u) u.toNat pages m i)) := by
  have hu' := hu
  unfold unitB at hu'
  simp only [decide_eq_true_eq] at hu'
  have hub : 4 ≤ u ∧ u ≤ 128 := by omega
  intro m
  induction m with
  | zero =>
    intro acc i h1 h2 h3
    refine Ev.step (f := fun k => (impl_isBlock.f k n acc).bind fun t277 => (if t277 = true then ((impl_pagesOfBlock.f k u acc).bind fun t278 => ((slices_Equal_int64_int64.f k t278 pages).bind fun t281 => (if t281 = true then (some (acc, 0)) else (some (([] : List Int), 4))))) else (some (([] : List Int), 4)))) (fun k => ?_) ?_
    · simp only [impl_blockOfPages.l0]
      rw [if_neg (by omega)]
    · have := finI_ev n u pages acc ⟨by omega, by omega⟩ (by omega) (by omega)
      simpa [heads] using this
  | succ m ih =>
    intro acc i h1 h2 h3
    by_cases hi : i < pages.length
    · have hx : -9223372036854775808 ≤ rd pages (i : Int) ∧ rd pages (i : Int) ≤ 9223372036854775807 := hw _ (by rw [rd_lt (by omega) (by omega)]; exact List.getElem_mem _)
      have ei : wrap64 ((i : Int) + u) = ((i + u.toNat : Nat) : Int) := by rw [wr (by omega) (by omega)]; omega
      have ih' := ih (acc ++ [sgI u (rd pages i)]) (i + u.toNat) (by omega) (by omega) (by simp; omega)
      have eh : acc ++ heads (sgI u) u.toNat pages (m + 1) i = acc ++ [sgI u (rd pages i)] ++ heads (sgI u) u.toNat pages m (i + u.toNat) := by
        conv => lhs; unfold heads
        rw [if_pos hi]
        simp
      rw [eh]
      refine Ev.step (f := fun k => impl_blockOfPages.l0 k n u pages (acc ++ [sgI u (rd pages i)]) ((i + u.toNat : Nat) : Int)) (fun k => ?_) ih'
      simp only [impl_blockOfPages.l0]
      rw [if_pos (by omega), if_pos (by omega), if_neg (show ¬ u = 0 by omega), ei]
      by_cases hneg : rd pages (i : Int) < 0
      · have e : wrap64 (Int.tdiv (rd pages (i : Int)) u) = sgI u (rd pages i) := by
          have := tdiv_bd hub.1 hx
          rw [wr (by omega) (by omega)]
          unfold sgI
          rw [if_pos hneg]
        rw [if_pos hneg, if_pos (by omega), e]
      · have e : wrap64 ((wrap64 (Int.tdiv (wrap64 ((rd pages (i : Int)) - 1)) u)) + 1) = sgI u (rd pages i) := by
          rw [wr (x := rd pages (i : Int) - 1) (by omega) (by omega)]
          have := tdiv_bd (x := rd pages (i : Int) - 1) hub.1 ⟨by omega, by omega⟩
          rw [wr (x := Int.tdiv (rd pages (i : Int) - 1) u) (by omega) (by omega), wr (by omega) (by omega)]
          unfold sgI
          rw [if_neg hneg]
        rw [if_neg hneg, if_pos (by omega), e]
    · rw [heads_done _ _ _ _ _ (by omega), List.append_nil]
      refine Ev.step (f := fun k => (impl_isBlock.f k n acc).bind fun t277 => (if t277 = true then ((impl_pagesOfBlock.f k u acc).bind fun t278 => ((slices_Equal_int64_int64.f k t278 pages).bind fun t281 => (if t281 = true then (some (acc, 0)) else (some (([] : List Int), 4))))) else (some (([] : List Int), 4)))) (fun k => ?_) (finI_ev n u pages acc ⟨by omega, by omega⟩ (by omega) (by omega))
      simp only [impl_blockOfPages.l0]
      rw [if_neg (by omega)]
theorem specBlk_l0 (n u : Int) (pages : List Int) (hn : lineB n = true) (hu : unitB u = true) (hw : ∀ x ∈ pages, -9223372036854775808 ≤ x ∧ x ≤ 9223372036854775807) (hp : pages.length ≤ 1048576) : ∀ (m : Nat) (acc : List Int) (i : Nat), pages.length ≤ i + m → i ≤ pages.length + 128 → acc.length ≤ i →
    Ev (fun k => spec_l28Block.l0 k n u pages acc (i : Int)) (fin n u pages (acc ++ heads (sgS n u) u.toNat pages m i)) := by
  have hu' := hu
  unfold unitB at hu'
  simp only [decide_eq_true_eq] at hu'
  have hub : 4 ≤ u ∧ u ≤ 128 := by omega
  have hn' : 1 ≤ n ∧ n ≤ 12 := by simpa [lineB] using hn
  have hnu := mul_bd (s := n) (u := u) ⟨by omega, by omega⟩ ⟨by omega, by omega⟩
  intro m
  induction m with
  | zero =>
    intro acc i h1 h2 h3
    refine Ev.step (f := fun k => (spec_l14Fits.f k n acc).bind fun t161 => (if t161 = true then ((spec_l28All.f k u acc).bind fun t162 => ((spec_l01Same.f k t162 pages).bind fun t165 => (if t165 = true then (some (acc, 0)) else (some (([] : List Int), 4))))) else (some (([] : List Int), 4)))) (fun k => ?_) ?_
    · simp only [spec_l28Block.l0]
      rw [if_neg (by omega)]
    · have := finS_ev n u pages acc ⟨by omega, by omega⟩ (by omega) (by omega)
      simpa [heads] using this
  | succ m ih =>
    intro acc i h1 h2 h3
    by_cases hi : i < pages.length
    · have hx : -9223372036854775808 ≤ rd pages (i : Int) ∧ rd pages (i : Int) ≤ 9223372036854775807 := hw _ (by rw [rd_lt (by omega) (by omega)]; exact List.getElem_mem _)
      have ei : wrap64 ((i : Int) + u) = ((i + u.toNat : Nat) : Int) := by rw [wr (by omega) (by omega)]; omega
      have ih' := ih (acc ++ [sgS n u (rd pages i)]) (i + u.toNat) (by omega) (by omega) (by simp; omega)
      have eh : acc ++ heads (sgS n u) u.toNat pages (m + 1) i = acc ++ [sgS n u (rd pages i)] ++ heads (sgS n u) u.toNat pages m (i + u.toNat) := by
        conv => lhs; unfold heads
        rw [if_pos hi]
        simp
      rw [eh]
      refine Ev.step (f := fun k => spec_l28Block.l0 k n u pages (acc ++ [sgS n u (rd pages i)]) ((i + u.toNat : Nat) : Int)) (fun k => ?_) ih'
      obtain ⟨x, hxx⟩ : ∃ x, rd pages (i : Int) = x := ⟨_, rfl⟩
      simp only [spec_l28Block.l0]
      rw [if_pos (by omega), if_pos (by omega), wr (x := n * u) (by omega) (by omega), hxx, ei]
      rw [hxx] at hx
      have hneg : decide (1 ≤ wrap64 (-x) ∧ wrap64 (-x) ≤ n * u) = decide (1 ≤ -x ∧ -x ≤ n * u) := by
        rw [decide_eq_decide]
        unfold wrap64
        omega
      rw [l01In_is, l01In_is, hneg]
      simp only [Option.bind_some]
      have d1 := tdiv_bd (x := x - 1) hub.1
      have d2 := tdiv_bd (x := -x - 1) hub.1
      by_cases c1 : 1 ≤ x ∧ x ≤ n * u
      · have c2 : ¬ (1 ≤ -x ∧ -x ≤ n * u) := by omega
        have d1' := d1 ⟨by omega, by omega⟩
        simp only [c1, c2, and_self, decide_true, decide_false, if_true, if_false, Bool.false_eq_true]
        rw [if_neg (show ¬ u = 0 by omega), if_pos (by omega), wr (x := x - 1) (by omega) (by omega), wr (x := Int.tdiv (x - 1) u) (by omega) (by omega), wr (x := Int.tdiv (x - 1) u + 1) (by omega) (by omega)]
        unfold sgS
        rw [if_neg c2, if_pos c1]
      · by_cases c2 : 1 ≤ -x ∧ -x ≤ n * u
        · have d2' := d2 ⟨by omega, by omega⟩
          simp only [c1, c2, and_self, decide_true, decide_false, if_true, if_false, Bool.false_eq_true]
          rw [if_neg (show ¬ u = 0 by omega), if_pos (by omega), wr (x := -x) (by omega) (by omega), wr (x := -x - 1) (by omega) (by omega), wr (x := Int.tdiv (-x - 1) u) (by omega) (by omega), wr (x := Int.tdiv (-x - 1) u + 1) (by omega) (by omega), wr (x := -(Int.tdiv (-x - 1) u + 1)) (by omega) (by omega)]
          unfold sgS
          rw [if_pos c2]
        · simp only [c1, c2, decide_false, if_false, Bool.false_eq_true]
          rw [if_pos (by omega)]
          unfold sgS
          rw [if_neg c2, if_neg c1]
    · rw [heads_done _ _ _ _ _ (by omega), List.append_nil]
      refine Ev.step (f := fun k => (spec_l14Fits.f k n acc).bind fun t161 => (if t161 = true then ((spec_l28All.f k u acc).bind fun t162 => ((spec_l01Same.f k t162 pages).bind fun t165 => (if t165 = true then (some (acc, 0)) else (some (([] : List Int), 4))))) else (some (([] : List Int), 4)))) (fun k => ?_) (finS_ev n u pages acc ⟨by omega, by omega⟩ (by omega) (by omega))
      simp only [spec_l28Block.l0]
      rw [if_neg (by omega)]

theorem heads_all (f : Int → Int) (u : Int) (hu : 4 ≤ u) : ∀ (b : List Int) (m i : Nat) (xs : List Int), xs.drop i = allP u b → b.length ≤ m → (∀ s ∈ b, f (pgAt u s 0) = s) → heads f u.toNat xs m i = b := by
  intro b
  induction b with
  | nil =>
    intro m i xs h1 _ _
    have : xs.length ≤ i := by
      have := congrArg List.length h1
      simp [allP] at this
      omega
    exact heads_done _ _ _ _ _ this
  | cons s r ih =>
    intro m i xs h1 h2 h3
    obtain ⟨m, rfl⟩ : ∃ m', m = m' + 1 := ⟨m - 1, by simp at h2; omega⟩
    have pl := pg_len u s
    have e1 : xs.drop i = pg u s ++ allP u r := h1
    have hlen : i < xs.length := by
      have := congrArg List.length e1
      simp only [List.length_drop, List.length_append, pl] at this
      omega
    have hr : rd xs (i : Int) = pgAt u s 0 := by
      have h5 := drop_cons (xs := xs) (i := (i : Int)) (by omega) (by omega)
      rw [Int.toNat_natCast, e1] at h5
      have h6 : (pg u s ++ allP u r).head? = some (rd xs i) := by rw [h5]; rfl
      unfold pg at h6
      rw [List.range_eq_range', show u.toNat = (u.toNat - 1) + 1 by omega, List.range'_succ] at h6
      simp at h6
      exact h6.symm
    unfold heads
    rw [if_pos hlen, hr, h3 s (by simp)]
    congr 1
    refine ih m (i + u.toNat) xs ?_ (by simpa using h2) (fun x hx => h3 x (by simp [hx]))
    rw [← List.drop_drop, e1]
    have := List.drop_left (l₁ := pg u s) (l₂ := allP u r)
    rw [pl] at this
    exact this
theorem sgI_first (u s : Int) (hu : 4 ≤ u ∧ u ≤ 128) (hs : -12 ≤ s ∧ s ≤ 12 ∧ s ≠ 0) : sgI u (pgAt u s 0) = s := by
  have b := mul_bd (s := s) (u := u) ⟨by omega, by omega⟩ ⟨by omega, by omega⟩
  have b2 := mul_bd (s := s - 1) (u := u) 
  unfold sgI pgAt
  by_cases h : s > 0
  · have h0 : 0 ≤ (s - 1) * u := Int.mul_nonneg (by omega) (by omega)
    rw [if_pos h, if_neg (by omega)]
    have e : (s - 1) * u + ((0 : Nat) : Int) + 1 - 1 = (s - 1) * u := by omega
    rw [e, Int.mul_tdiv_cancel _ (by omega)]
    omega
  · have h0 : s * u < 0 := Int.mul_neg_of_neg_of_pos (by omega) (by omega)
    rw [if_neg h, if_pos (by omega)]
    have e : s * u + ((0 : Nat) : Int) = s * u := by omega
    rw [e, Int.mul_tdiv_cancel _ (by omega)]
theorem sgS_first (n u s : Int) (hu : 4 ≤ u ∧ u ≤ 128) (hn : 1 ≤ n ∧ n ≤ 12) (hs : -n ≤ s ∧ s ≤ n ∧ s ≠ 0) : sgS n u (pgAt u s 0) = s := by
  unfold sgS pgAt
  by_cases h : s > 0
  · have h0 : 0 ≤ (s - 1) * u := Int.mul_nonneg (by omega) (by omega)
    have h1 : (s - 1) * u ≤ (n - 1) * u := Int.mul_le_mul_of_nonneg_right (by omega) (by omega)
    have h2 : (n - 1) * u = n * u - u := by rw [Int.sub_mul]; omega
    rw [if_pos h, if_neg (by omega), if_pos (by omega)]
    have e : (s - 1) * u + ((0 : Nat) : Int) + 1 - 1 = (s - 1) * u := by omega
    rw [e, Int.mul_tdiv_cancel _ (by omega)]
    omega
  · have h0 : u ≤ (-s) * u := by
      have := Int.mul_le_mul_of_nonneg_right (show 1 ≤ -s by omega) (show (0 : Int) ≤ u by omega)
      omega
    have h1 : (-s) * u ≤ n * u := Int.mul_le_mul_of_nonneg_right (by omega) (by omega)
    have h3 : (-s) * u = -(s * u) := by rw [Int.neg_mul]
    rw [if_neg h, if_pos (by omega)]
    have e : -(s * u + ((0 : Nat) : Int)) - 1 = (u - 1) + (-s - 1) * u := by
      rw [Int.sub_mul, Int.neg_mul]; omega
    have h4 : 0 ≤ (-s - 1) * u := Int.mul_nonneg (by omega) (by omega)
    rw [e, Int.tdiv_eq_ediv_of_nonneg (by omega), Int.add_mul_ediv_right _ _ (by omega), Int.ediv_eq_zero_of_lt (by omega) (by omega)]
    omega
theorem block_parts {n : Int} {b : List Int} (h : blockB n b = true) : 1 ≤ n ∧ n ≤ 12 ∧ (b.length : Int) ≤ 2 * n ∧ ∀ s ∈ b, -n ≤ s ∧ s ≤ n ∧ s ≠ 0 := by
  unfold blockB at h
  simp only [decide_eq_true_eq] at h
  obtain ⟨h1, h2, h3, h4, h5⟩ := h
  exact ⟨h1, h2, h3, fun s hs => ⟨(h4 s hs).1, (h4 s hs).2, fun e => h5 (e ▸ hs)⟩⟩
/-- What either program tells of pages: the block, or code 4. -/
def blk (n u : Int) (pages : List Int) : List Int × Int := fin n u pages (heads (sgS n u) u.toNat pages pages.length 0)
theorem heads_fit {f : Int → Int} {n u : Int} {pages b : List Int} (hu : 4 ≤ u ∧ u ≤ 128) (hb : blockB n b = true) (ha : allP u b = pages) (hf : ∀ s, -n ≤ s ∧ s ≤ n ∧ s ≠ 0 → f (pgAt u s 0) = s) : heads f u.toNat pages pages.length 0 = b := by
  obtain ⟨h1, h2, h3, h4⟩ := block_parts hb
  refine heads_all f u hu.1 b pages.length 0 pages (by simp [ha]) ?_ (fun s hs => hf s (h4 s hs))
  rw [← ha, allP_len]
  exact Nat.le_mul_of_pos_right _ (by omega)
theorem blk_len {n u : Int} {pages b : List Int} (hu : 4 ≤ u ∧ u ≤ 128) (hb : blockB n b = true) (ha : allP u b = pages) : Int.tmod (pages.length : Int) u = 0 ∧ (pages.length : Int) ≤ 2 * n * u := by
  obtain ⟨h1, h2, h3, h4⟩ := block_parts hb
  have e : (pages.length : Int) = (b.length : Int) * u := by
    rw [← ha, allP_len, Int.natCast_mul]
    congr 1
    omega
  rw [e]
  exact ⟨Int.mul_tmod_left _ _, Int.mul_le_mul_of_nonneg_right h3 (by omega)⟩
theorem blk_impl (n u : Int) (pages : List Int) (hu : 4 ≤ u ∧ u ≤ 128) : fin n u pages (heads (sgI u) u.toNat pages pages.length 0) = blk n u pages := by
  unfold blk
  by_cases h : blockB n (heads (sgI u) u.toNat pages pages.length 0) = true ∧ allP u (heads (sgI u) u.toNat pages pages.length 0) = pages
  · obtain ⟨h1, h2⟩ := h
    obtain ⟨n1, n2, _, _⟩ := block_parts h1
    have e := heads_fit (f := sgS n u) hu h1 h2 (fun s hs => sgS_first n u s hu ⟨n1, n2⟩ hs)
    rw [e]
  · by_cases h' : blockB n (heads (sgS n u) u.toNat pages pages.length 0) = true ∧ allP u (heads (sgS n u) u.toNat pages pages.length 0) = pages
    · obtain ⟨h1, h2⟩ := h'
      obtain ⟨n1, n2, _, _⟩ := block_parts h1
      have e := heads_fit (f := sgI u) hu h1 h2 (fun s hs => sgI_first u s hu ⟨by omega, by omega, hs.2.2⟩)
      rw [e]
    · unfold fin
      rw [if_neg h, if_neg h']
/-- The code of a line and a unit, then the block of pages. -/
def blkAll (n u : Int) (pages : List Int) : List Int × Int := if lineB n = true ∧ unitB u = true then blk n u pages else ([], 2)
theorem specBlock_ev (n u : Int) (pages : List Int) (hw : ∀ x ∈ pages, -9223372036854775808 ≤ x ∧ x ≤ 9223372036854775807) (hp : pages.length ≤ 1048576) : Ev (fun k => spec_l28Block.f k n u pages) (blkAll n u pages) := by
  unfold spec_l28Block.f
  refine Ev.go (a := decide (lineB n = true ∧ unitB u = true)) ?_ ?_
  · unfold spec_l28Fits.f
    rw [l01In_is]
    simp only [Option.bind_some]
    by_cases h : 1 ≤ n ∧ n ≤ 12
    · simp only [h, and_self, decide_true, if_true]
      refine Ev.go (specUnit_ev u) (Ev.const ?_)
      simp [lineB, h]
    · simp only [h, decide_false, Bool.false_eq_true, if_false]
      exact Ev.const (by simp [lineB, h])
  · by_cases h : lineB n = true ∧ unitB u = true
    · simp only [h, and_self, decide_true, if_true]
      unfold blkAll
      rw [if_pos h]
      have := specBlk_l0 n u pages h.1 h.2 hw hp pages.length [] 0 (by omega) (by omega) (by simp)
      simpa [blk] using this
    · simp only [h, decide_false, Bool.false_eq_true, if_false]
      exact Ev.const (by unfold blkAll; rw [if_neg h])
theorem implBlock2_ev (n u : Int) (pages : List Int) (hw : ∀ x ∈ pages, -9223372036854775808 ≤ x ∧ x ≤ 9223372036854775807) (hp : pages.length ≤ 1048576) : Ev (fun k => impl_blockOfPages.f k n u pages) (blkAll n u pages) := by
  unfold impl_blockOfPages.f impl_isUnitLine.f
  rw [implLine_is, implUnit_is]
  simp only [Option.bind_some, impl_length_int64.f]
  by_cases h : lineB n = true ∧ unitB u = true
  · obtain ⟨h1, h2⟩ := h
    simp only [h1, h2, if_true, Option.bind_some]
    unfold blkAll
    rw [if_pos ⟨h1, h2⟩]
    have hu' := h2
    unfold unitB at hu'
    simp only [decide_eq_true_eq] at hu'
    have hub : 4 ≤ u ∧ u ≤ 128 := by omega
    have hn' : 1 ≤ n ∧ n ≤ 12 := by simpa [lineB] using h1
    have hnu := mul_bd (s := n) (u := u) ⟨by omega, by omega⟩ ⟨by omega, by omega⟩
    have e2 : wrap64 (wrap64 (2 * n) * u) = 2 * n * u := by
      rw [wr (x := 2 * n) (by omega) (by omega), Int.mul_assoc, wr (by omega) (by omega)]
    rw [e2]
    have u0 : ¬ u = 0 := by omega
    simp only [u0, if_false]
    by_cases c1 : Int.tmod (pages.length : Int) u = 0
    · simp only [c1, if_true]
      by_cases c2 : (pages.length : Int) > 2 * n * u
      · simp only [c2, if_true]
        refine Ev.const ?_
        unfold blk fin
        rw [if_neg (fun hh => by have := (blk_len hub hh.1 hh.2).2; omega)]
      · simp only [c2, if_false]
        rw [← blk_impl n u pages hub]
        have := implBlk_l0 n u pages h1 h2 hw hp pages.length [] 0 (by omega) (by omega) (by simp)
        simpa using this
    · simp only [c1, if_false]
      refine Ev.const ?_
      unfold blk fin
      rw [if_neg (fun hh => c1 (blk_len hub hh.1 hh.2).1)]
  · have h0 : (if lineB n = true then some (unitB u) else some false) = some false := by
      by_cases h1 : lineB n = true
      · rw [if_pos h1]
        have : unitB u = false := by
          cases hh : unitB u with
          | false => rfl
          | true => exact absurd ⟨h1, hh⟩ h
        rw [this]
      · rw [if_neg h1]
    rw [h0]
    simp only [Option.bind_some, Bool.false_eq_true, if_false]
    exact Ev.const (by unfold blkAll; rw [if_neg h])

/-! ### the explanation -/
/-- One kind at a station: what is left of the block, or nothing. -/
def restK (s : Int) (k : Nat) (bl : List Int) : Option (List Int) :=
  if (k : Int) = 4 then (match bl with
    | [] => none
    | x :: r => if 0 < x ∧ x ≠ s + 1 then some r else none)
  else let l := impl_ExplainBlock.lf s k 0
    if l.length ≤ bl.length ∧ l = bl.take l.length then some (bl.drop l.length) else none
def kindsN (l : List Int) : Int := (l.map fun x => mn 1 x).sum
/-- The better of the best till now and a candidate. -/
def better (best : Option (List Int)) (c : Option (List Int)) : Option (List Int) := match c with
  | none => best
  | some l => match best with
    | none => some l
    | some b => if kindsN l < kindsN b then some l else some b
def ex : Nat → Int → List Int → Option (List Int)
  | 0, _, bl => if bl = [] then some [] else none
  | d + 1, s, bl => (List.range 5).foldl (fun best k => better best ((restK s k bl).bind fun r => (ex d (s + 1) r).map fun l => (k : Int) :: l)) none


/-! ### what an explanation is like -/
def OkL (d : Nat) (l : List Int) : Prop := l.length = d ∧ ∀ x ∈ l, 0 ≤ x ∧ x ≤ 4
def OkB (d : Nat) (o : Option (List Int)) : Prop := ∀ l, o = some l → OkL d l
theorem better_cases (b c : Option (List Int)) : better b c = b ∨ better b c = c := by
  unfold better
  cases c with
  | none => exact .inl rfl
  | some l =>
    cases b with
    | none => exact .inr rfl
    | some b =>
      simp only
      split
      · exact .inr rfl
      · exact .inl rfl
theorem OkB.better {d : Nat} {b c : Option (List Int)} (hb : OkB d b) (hc : OkB d c) : OkB d (better b c) := by
  rcases better_cases b c with h | h <;> rw [h]
  · exact hb
  · exact hc
def cand (d : Nat) (s : Int) (bl : List Int) (k : Nat) : Option (List Int) := (restK s k bl).bind fun r => (ex d (s + 1) r).map fun l => (k : Int) :: l
theorem ex_succ (d : Nat) (s : Int) (bl : List Int) : ex (d + 1) s bl = (List.range 5).foldl (fun best k => better best (cand d s bl k)) none := rfl
theorem fold_ok {d : Nat} (f : Nat → Option (List Int)) : ∀ (ks : List Nat) (b : Option (List Int)), OkB d b → (∀ k ∈ ks, OkB d (f k)) → OkB d (ks.foldl (fun best k => better best (f k)) b)
  | [], b, hb, _ => hb
  | k :: r, b, hb, hf => fold_ok f r _ (hb.better (hf k (by simp))) (fun k' hk => hf k' (by simp [hk]))
theorem ex_ok : ∀ (d : Nat) (s : Int) (bl : List Int), OkB d (ex d s bl)
  | 0, s, bl => by
    intro l h
    unfold ex at h
    split at h
    · injection h with h; subst h; exact ⟨rfl, by simp⟩
    · cases h
  | d + 1, s, bl => by
    rw [ex_succ]
    refine fold_ok _ _ _ (fun l h => by cases h) (fun k hk l h => ?_)
    unfold cand at h
    obtain ⟨r, _, h⟩ := Option.bind_eq_some_iff.1 h
    obtain ⟨l', hl', rfl⟩ := Option.map_eq_some_iff.1 h
    have := ex_ok d (s + 1) r l' hl'
    simp only [List.mem_range] at hk
    refine ⟨by simp [this.1], fun x hx => ?_⟩
    rcases List.mem_cons.1 hx with rfl | hx
    · omega
    · exact this.2 x hx
theorem cand_ok {d : Nat} {s : Int} {bl : List Int} {k : Nat} (hk : k < 5) : OkB (d + 1) (cand d s bl k) := by
  intro l h
  unfold cand at h
  obtain ⟨r, _, h⟩ := Option.bind_eq_some_iff.1 h
  obtain ⟨l', hl', rfl⟩ := Option.map_eq_some_iff.1 h
  have := ex_ok d (s + 1) r l' hl'
  refine ⟨by simp [this.1], fun x hx => ?_⟩
  rcases List.mem_cons.1 hx with rfl | hx
  · omega
  · exact this.2 x hx
theorem fold_some (f : Nat → Option (List Int)) : ∀ (ks : List Nat) (b : Option (List Int)) (l : List Int), ks.foldl (fun best k => better best (f k)) b = some l → b = some l ∨ ∃ k ∈ ks, f k = some l
  | [], b, l, h => .inl h
  | k :: r, b, l, h => by
    rcases fold_some f r _ l h with h | ⟨k', hk, h⟩
    · rcases better_cases b (f k) with e | e
      · exact .inl (e ▸ h)
      · exact .inr ⟨k, by simp, e ▸ h⟩
    · exact .inr ⟨k', by simp [hk], h⟩
theorem rest_len {s : Int} {k : Nat} {bl r : List Int} (h : restK s k bl = some r) : bl.length ≤ r.length + 2 := by
  unfold restK at h
  split at h
  · cases bl with
    | nil => simp
    | cons x t =>
      simp only at h
      split at h
      · injection h with h; subst h; simp
      · cases h
  · simp only at h
    split at h
    · injection h with h
      subst h
      have := impl_ExplainBlock.lf_len s k 0
      simp
      omega
    · cases h
/-- A block that is too long has none. -/
theorem ex_len : ∀ (d : Nat) (s : Int) (bl l : List Int), ex d s bl = some l → bl.length ≤ 2 * d
  | 0, s, bl, l, h => by
    unfold ex at h
    split at h
    · rename_i e; simp [e]
    · cases h
  | d + 1, s, bl, l, h => by
    rw [ex_succ] at h
    rcases fold_some _ _ _ _ h with h | ⟨k, _, h⟩
    · cases h
    · unfold cand at h
      obtain ⟨r, hr, h⟩ := Option.bind_eq_some_iff.1 h
      obtain ⟨l', hl', _⟩ := Option.map_eq_some_iff.1 h
      have h1 := ex_len d (s + 1) r l' hl'
      have h2 := rest_len hr
      omega

/-! ### the reference's explanation -/
theorem kindsN_bd : ∀ (l : List Int), (∀ x ∈ l, 0 ≤ x ∧ x ≤ 4) → 0 ≤ kindsN l ∧ kindsN l ≤ l.length
  | [], _ => by simp [kindsN]
  | x :: r, h => by
    have h1 := kindsN_bd r (fun y hy => h y (by simp [hy]))
    have h2 := h x (by simp)
    unfold kindsN at h1 ⊢
    simp only [List.map_cons, List.sum_cons, List.length_cons]
    have : 0 ≤ mn 1 x ∧ mn 1 x ≤ 1 := by unfold mn; split <;> omega
    omega
theorem kinds_l0 (xs : List Int) (hx : ∀ x ∈ xs, 0 ≤ x ∧ x ≤ 4) (hm : xs.length ≤ 1000) : ∀ (d k : Nat) (a i : Int), 0 ≤ i → i ≤ xs.length → (xs.length : Int) - i = d → d < k → 0 ≤ a → a ≤ i → spec_l14Kinds.l0 k xs a i = some (a + kindsN (xs.drop i.toNat)) := by
  intro d
  induction d with
  | zero =>
    intro k a i h0 h1 hd hk _ _
    obtain ⟨k, rfl⟩ : ∃ m, k = m + 1 := ⟨k - 1, by omega⟩
    simp only [spec_l14Kinds.l0]
    rw [if_neg (by omega), List.drop_eq_nil_of_le (by omega)]
    simp [kindsN]
  | succ d ih =>
    intro k a i h0 h1 hd hk ha0 ha1
    obtain ⟨k, rfl⟩ : ∃ m, k = m + 1 := ⟨k - 1, by omega⟩
    have hr := hx (rd xs i) (by rw [rd_lt h0 (by omega)]; exact List.getElem_mem _)
    have hm1 : 0 ≤ mn 1 (rd xs i) ∧ mn 1 (rd xs i) ≤ 1 := by unfold mn; split <;> omega
    simp only [spec_l14Kinds.l0]
    rw [if_pos (by omega), if_pos h0, wr (x := i + 1) (by omega) (by omega), wr (x := a + mn 1 (rd xs i)) (by omega) (by omega), drop_cons h0 (by omega), ih k _ (i + 1) (by omega) (by omega) (by omega) (by omega) (by omega) (by omega)]
    unfold kindsN
    simp only [List.map_cons, List.sum_cons]
    congr 1
    omega
theorem kinds_ev (xs : List Int) (hx : ∀ x ∈ xs, 0 ≤ x ∧ x ≤ 4) (hm : xs.length ≤ 1000) : Ev (fun k => spec_l14Kinds.f k xs) (kindsN xs) :=
  Ev.at_ (xs.length + 1) fun k hk => by
    unfold spec_l14Kinds.f
    rw [kinds_l0 xs hx hm xs.length k 0 0 (by omega) (by omega) (by omega) (by omega) (by omega) (by omega)]
    simp
def pr (o : Option (List Int)) : List Int × Bool := (o.getD [], o.isSome)
theorem part_is (s : Int) (k : Nat) (hs : 0 ≤ s ∧ s ≤ 12) : spec_l14Part.f s k 0 = some (impl_ExplainBlock.lf s k 0) := impl_ExplainBlock.lf_is s k 0 hs (by omega)

section
variable (n s : Int) (bl : List Int) (d : Nat) (hn : n ≤ 12) (hs : 0 ≤ s) (hd : n - s = ((d + 1 : Nat) : Int)) (hl : bl.length ≤ 24)
  (ihd : ∀ r : List Int, r.length ≤ 24 → Ev (fun k => spec_l14Explain.f k n (s + 1) r) (pr (ex d (s + 1) r)))
include hn hs hd hl ihd
theorem spec_j3 (j : Nat) (hj : j < 5) (part : List Int) (hp : part.length ≤ bl.length) (F : Option (List Int) → Option (List Int)) (hF : ∀ b, OkB (d + 1) b → Ev (fun k => spec_l14Explain.l0 k n s bl (b.getD []) b.isSome ((j : Int) + 1)) (pr (F b)))
    (best : Option (List Int)) (hb : OkB (d + 1) best) : Ev (fun k => spec_l14Explain.j3 k n s bl (best.getD []) best.isSome j part false) (pr (F (better best ((ex d (s + 1) (bl.drop part.length)).map fun l => (j : Int) :: l)))) := by
  have ew : wrap64 (s + 1) = s + 1 := wr (by omega) (by omega)
  have ej : wrap64 ((j : Int) + 1) = (j : Int) + 1 := wr (by omega) (by omega)
  cases hex : ex d (s + 1) (bl.drop part.length) with
  | none =>
    have h1 := ihd (bl.drop part.length) (by simp; omega)
    rw [hex] at h1
    have key : Ev (fun k => (spec_l14Explain.f k n (s + 1) (bl.drop part.length)).bind fun bt200 => (if bt200.2 = true then ((some (([(j : Int)] : List Int) : List Int)).bind fun y204 => (if y204.length + bt200.1.length < 17592186044416 then ((some (y204 ++ bt200.1 : List Int)).bind fun y207 => (if best.isSome = true then ((spec_l14Kinds.f k y207).bind fun t210 => ((spec_l14Kinds.f k (best.getD [])).bind fun t211 => (if t210 < t211 then (spec_l14Explain.l0 k n s bl y207 true ((j : Int) + 1)) else (spec_l14Explain.l0 k n s bl (best.getD []) best.isSome ((j : Int) + 1))))) else (spec_l14Explain.l0 k n s bl y207 true ((j : Int) + 1)))) else (none))) else (spec_l14Explain.l0 k n s bl (best.getD []) best.isSome ((j : Int) + 1)))) (pr (F best)) := by
      refine Ev.go h1 ?_
      simp only [pr, Option.isSome_none, Bool.false_eq_true, if_false]
      exact hF best hb
    refine Ev.step (fun k => ?_) key
    simp only [spec_l14Explain.j3]
    rw [if_neg (by decide), if_pos (by omega), if_pos (by omega), ew, ej]
    rfl
  | some l =>
    have h1 := ihd (bl.drop part.length) (by simp; omega)
    rw [hex] at h1
    have okl := ex_ok d (s + 1) _ l hex
    have okc : OkL (d + 1) ((j : Int) :: l) := ⟨by simp [okl.1], fun x hx => by
      rcases List.mem_cons.1 hx with rfl | hx
      · omega
      · exact okl.2 x hx⟩
    have hfc := hF (some ((j : Int) :: l)) (fun l' e => by injection e with e; exact e ▸ okc)
    have key : Ev (fun k => (spec_l14Explain.f k n (s + 1) (bl.drop part.length)).bind fun bt200 => (if bt200.2 = true then ((some (([(j : Int)] : List Int) : List Int)).bind fun y204 => (if y204.length + bt200.1.length < 17592186044416 then ((some (y204 ++ bt200.1 : List Int)).bind fun y207 => (if best.isSome = true then ((spec_l14Kinds.f k y207).bind fun t210 => ((spec_l14Kinds.f k (best.getD [])).bind fun t211 => (if t210 < t211 then (spec_l14Explain.l0 k n s bl y207 true ((j : Int) + 1)) else (spec_l14Explain.l0 k n s bl (best.getD []) best.isSome ((j : Int) + 1))))) else (spec_l14Explain.l0 k n s bl y207 true ((j : Int) + 1)))) else (none))) else (spec_l14Explain.l0 k n s bl (best.getD []) best.isSome ((j : Int) + 1)))) (pr (F (better best (some ((j : Int) :: l))))) := by
      refine Ev.go h1 ?_
      simp only [pr, Option.isSome_some, if_true, Option.getD_some, Option.bind_some]
      have hlen : ([(j : Int)] : List Int).length + l.length < 17592186044416 := by simp [okl.1]; omega
      simp only [hlen, if_true, List.cons_append, List.nil_append]
      cases best with
      | none =>
        simp only [Option.isSome_none, Bool.false_eq_true, if_false]
        exact hfc
      | some b =>
        have okb := hb b rfl
        simp only [Option.isSome_some, if_true, Option.getD_some]
        refine Ev.go (kinds_ev _ okc.2 (by rw [okc.1]; omega)) ?_
        refine Ev.go (kinds_ev _ okb.2 (by rw [okb.1]; omega)) ?_
        by_cases hlt : kindsN ((j : Int) :: l) < kindsN b
        · simp only [hlt, if_true]
          have e : better (some b) (some ((j : Int) :: l)) = some ((j : Int) :: l) := by simp [better, hlt]
          rw [e]
          exact hfc
        · simp only [hlt, if_false]
          have e : better (some b) (some ((j : Int) :: l)) = some b := by simp [better, hlt]
          rw [e]
          exact hF (some b) hb
    refine Ev.step (fun k => ?_) key
    simp only [spec_l14Explain.j3]
    rw [if_neg (by decide), if_pos (by omega), if_pos (by omega), ew, ej]
    rfl
end

theorem spec_j3t (n s : Int) (bl : List Int) (d : Nat) (j : Nat) (hj : j < 5) (part : List Int) (F : Option (List Int) → Option (List Int)) (hF : ∀ b, OkB (d + 1) b → Ev (fun k => spec_l14Explain.l0 k n s bl (b.getD []) b.isSome ((j : Int) + 1)) (pr (F b)))
    (best : Option (List Int)) (hb : OkB (d + 1) best) : Ev (fun k => spec_l14Explain.j3 k n s bl (best.getD []) best.isSome j part true) (pr (F best)) := by
  have ej : wrap64 ((j : Int) + 1) = (j : Int) + 1 := wr (by omega) (by omega)
  refine Ev.step (f := fun k => spec_l14Explain.l0 k n s bl (best.getD []) best.isSome ((j : Int) + 1)) (fun k => ?_) (hF best hb)
  simp only [spec_l14Explain.j3]
  rw [if_pos trivial, ej]
theorem cand_plain (s : Int) (bl : List Int) (d : Nat) (j : Nat) (hj : j < 4) : cand d s bl j = if (impl_ExplainBlock.lf s j 0).length ≤ bl.length ∧ impl_ExplainBlock.lf s j 0 = bl.take (impl_ExplainBlock.lf s j 0).length then (ex d (s + 1) (bl.drop (impl_ExplainBlock.lf s j 0).length)).map fun l => (j : Int) :: l else none := by
  unfold cand restK
  rw [if_neg (by omega)]
  simp only
  split <;> rfl
section
variable (n s : Int) (bl : List Int) (d : Nat) (hn : n ≤ 12) (hs : 0 ≤ s) (hd : n - s = ((d + 1 : Nat) : Int)) (hl : bl.length ≤ 24)
  (ihd : ∀ r : List Int, r.length ≤ 24 → Ev (fun k => spec_l14Explain.f k n (s + 1) r) (pr (ex d (s + 1) r)))
include hn hs hd hl ihd
theorem spec_j2 (j : Nat) (hj : j < 5) (part : List Int) (F : Option (List Int) → Option (List Int)) (hF : ∀ b, OkB (d + 1) b → Ev (fun k => spec_l14Explain.l0 k n s bl (b.getD []) b.isSome ((j : Int) + 1)) (pr (F b)))
    (best : Option (List Int)) (hb : OkB (d + 1) best) : Ev (fun k => spec_l14Explain.j2 k n s bl (best.getD []) best.isSome j part)
      (pr (F (better best (if part.length ≤ bl.length ∧ part = bl.take part.length then (ex d (s + 1) (bl.drop part.length)).map fun l => (j : Int) :: l else none)))) := by
  by_cases h1 : part.length ≤ bl.length
  · have key : Ev (fun k => (spec_l01Same.f k part (bl.take ((part.length : Int) : Int).toNat)).bind fun t198 => (spec_l14Explain.j3 k n s bl (best.getD []) best.isSome j part (!t198))) (pr (F (better best (if part.length ≤ bl.length ∧ part = bl.take part.length then (ex d (s + 1) (bl.drop part.length)).map fun l => (j : Int) :: l else none)))) := by
      refine Ev.go (same_ev _ _ (by omega)) ?_
      rw [Int.toNat_natCast]
      by_cases h2 : part = bl.take part.length
      · rw [if_pos ⟨h1, h2⟩, decide_eq_true h2]
        exact spec_j3 n s bl d hn hs hd hl ihd j hj part h1 F hF best hb
      · rw [if_neg (fun h => h2 h.2), decide_eq_false h2]
        exact spec_j3t n s bl d j hj part F hF best hb
    refine Ev.step (fun k => ?_) key
    simp only [spec_l14Explain.j2]
    rw [if_neg (by omega), if_pos (by omega), if_pos (by omega)]
  · rw [if_neg (fun h => h1 h.1)]
    refine Ev.step (fun k => ?_) (spec_j3t n s bl d j hj part F hF best hb)
    simp only [spec_l14Explain.j2]
    rw [if_pos (by omega)]
theorem spec_l0 : ∀ (m j : Nat) (best : Option (List Int)), j + m = 5 → OkB (d + 1) best → Ev (fun k => spec_l14Explain.l0 k n s bl (best.getD []) best.isSome (j : Int)) (pr ((List.range' j m).foldl (fun best k => better best (cand d s bl k)) best)) := by
  intro m
  induction m with
  | zero =>
    intro j best hj hb
    refine Ev.step (f := fun _ => some (best.getD [], best.isSome)) (fun k => ?_) (Ev.const rfl)
    simp only [spec_l14Explain.l0]
    rw [if_neg (by omega)]
  | succ m ih =>
    intro j best hj hb
    have hj5 : j < 5 := by omega
    have ej : wrap64 ((j : Int) + 1) = (j : Int) + 1 := wr (by omega) (by omega)
    have hF : ∀ b, OkB (d + 1) b → Ev (fun k => spec_l14Explain.l0 k n s bl (b.getD []) b.isSome ((j : Int) + 1)) (pr ((List.range' (j + 1) m).foldl (fun best k => better best (cand d s bl k)) b)) := by
      intro b hb'
      have := ih (j + 1) b (by omega) hb'
      simpa using this
    rw [List.range'_succ, List.foldl_cons]
    by_cases h4 : j = 4
    · subst h4
      have es : wrap64 (s + 1) = s + 1 := wr (by omega) (by omega)
      cases bl with
      | nil =>
        have ec : better best (cand d s ([] : List Int) 4) = best := by
          simp [cand, restK, better]
        rw [ec]
        have h1 : Ev (fun k => spec_l14Explain.j1 k n s [] (best.getD []) best.isSome ((4 : Nat) : Int) (impl_ExplainBlock.lf s ((4 : Nat) : Int) 0) false) (pr ((List.range' (4 + 1) m).foldl (fun best k => better best (cand d s [] k)) best)) := by
          refine Ev.step (fun k => ?_) (hF best hb)
          simp only [spec_l14Explain.j1]
          rw [if_neg (by decide), if_pos (by decide), ej]
        refine Ev.step (fun k => ?_) h1
        simp only [spec_l14Explain.l0]
        rw [if_pos (by omega), part_is s 4 ⟨hs, by omega⟩]
        simp
      | cons x t =>
        have hr0 : rd (x :: t) 0 = x := by simp [rd]
        have hlen : 0 < (((x :: t).length : Nat) : Int) := by rw [List.length_cons]; omega
        by_cases hx : 0 < x ∧ x ≠ s + 1
        · have ec : cand d s (x :: t) 4 = (if ([x] : List Int).length ≤ (x :: t).length ∧ [x] = (x :: t).take ([x] : List Int).length then (ex d (s + 1) ((x :: t).drop ([x] : List Int).length)).map fun l => ((4 : Nat) : Int) :: l else none) := by
            simp [cand, restK, hx]
          rw [ec]
          have h2 := spec_j2 n s (x :: t) d hn hs hd hl ihd 4 (by omega) [x] _ hF best hb
          refine Ev.step (f := fun k => spec_l14Explain.j1 k n s (x :: t) (best.getD []) best.isSome ((4 : Nat) : Int) (impl_ExplainBlock.lf s ((4 : Nat) : Int) 0) true) (fun k => ?_) (Ev.step (fun k => ?_) h2)
          · simp only [spec_l14Explain.l0]
            rw [if_pos (by omega), part_is s 4 ⟨hs, by omega⟩]
            simp only [Option.bind_some]
            rw [if_pos (by decide), if_pos hlen, if_pos hlen, hr0, if_pos (show x > 0 from hx.1), es]
            congr 1
            simpa using hx.2
          · simp only [spec_l14Explain.j1]
            rw [if_pos trivial, if_pos hlen, hr0]
        · have ec : better best (cand d s (x :: t) 4) = best := by
            have hx' : ¬ (0 < x ∧ ¬ x = s + 1) := hx
            simp [cand, restK, better, hx']
          rw [ec]
          have h1 : Ev (fun k => spec_l14Explain.j1 k n s (x :: t) (best.getD []) best.isSome ((4 : Nat) : Int) (impl_ExplainBlock.lf s ((4 : Nat) : Int) 0) false) (pr ((List.range' (4 + 1) m).foldl (fun best k => better best (cand d s (x :: t) k)) best)) := by
            refine Ev.step (fun k => ?_) (hF best hb)
            simp only [spec_l14Explain.j1]
            rw [if_neg (by decide), if_pos (by decide), ej]
          refine Ev.step (fun k => ?_) h1
          simp only [spec_l14Explain.l0]
          rw [if_pos (by omega), part_is s 4 ⟨hs, by omega⟩]
          simp only [Option.bind_some]
          rw [if_pos (by decide), if_pos hlen, if_pos hlen, hr0, es]
          by_cases h0 : x > 0
          · have h1 : x = s + 1 := Classical.byContradiction fun h => hx ⟨h0, h⟩
            rw [if_pos h0]
            congr 1
            simp [h1]
          · rw [if_neg h0]
    · rw [cand_plain s bl d j (by omega)]
      have h2 := spec_j2 n s bl d hn hs hd hl ihd j hj5 (impl_ExplainBlock.lf s j 0) _ hF best hb
      refine Ev.step (f := fun k => spec_l14Explain.j1 k n s bl (best.getD []) best.isSome (j : Int) (impl_ExplainBlock.lf s (j : Int) 0) false) (fun k => ?_) (Ev.step (fun k => ?_) h2)
      · simp only [spec_l14Explain.l0]
        rw [if_pos (by omega), part_is s j ⟨hs, by omega⟩]
        simp only [Option.bind_some]
        rw [if_neg (by omega)]
      · simp only [spec_l14Explain.j1]
        rw [if_neg (by decide), if_neg (by omega)]
end
theorem specEx_ev (n : Int) (hn : n ≤ 12) : ∀ (d : Nat) (s : Int) (bl : List Int), 0 ≤ s → n - s = d → bl.length ≤ 24 → Ev (fun k => spec_l14Explain.f k n s bl) (pr (ex d s bl)) := by
  intro d
  induction d with
  | zero =>
    intro s bl hs hd hl
    refine Ev.step (f := fun _ => some (([] : List Int), ((bl.length : Int) == 0))) (fun k => ?_) (Ev.const ?_)
    · simp only [spec_l14Explain.f]
      rw [if_pos (by omega)]
    · unfold ex pr
      cases bl with
      | nil => rfl
      | cons x t => simp; omega
  | succ d ih =>
    intro s bl hs hd hl
    by_cases hlong : bl.length > 2 * (d + 1)
    · have e : ex (d + 1) s bl = none := by
        cases h : ex (d + 1) s bl with
        | none => rfl
        | some l => have := ex_len (d + 1) s bl l h; omega
      rw [e]
      refine Ev.step (f := fun _ => some (([] : List Int), false)) (fun k => ?_) (Ev.const rfl)
      simp only [spec_l14Explain.f]
      rw [if_neg (by omega), wr (x := n - s) (by omega) (by omega), wr (by omega) (by omega), if_pos (by omega)]
    · have h := spec_l0 n s bl d hn hs hd hl (fun r hr => ih (s + 1) r (by omega) (by omega) hr) 5 0 none rfl (fun l h => by cases h)
      rw [ex_succ, List.range_eq_range']
      refine Ev.step (fun k => ?_) h
      simp only [spec_l14Explain.f]
      rw [if_neg (by omega), wr (x := n - s) (by omega) (by omega), wr (by omega) (by omega), if_neg (by omega)]
      rfl

/-! ### the program's explanation -/
open impl_ExplainBlock in
theorem nx_rest (bl : List Int) (s p : Int) (k : Nat) (hp : 0 ≤ p ∧ p ≤ bl.length) : restK s k (bl.drop p.toNat) = if 0 ≤ nx bl s p k then some (bl.drop (nx bl s p k).toNat) else none := by
  have hdl : (bl.drop p.toNat).length = bl.length - p.toNat := by simp
  have hnn : ¬ (0 : Int) ≤ -1 := by omega
  unfold restK
  by_cases h4 : (k : Int) = 4
  · rw [if_pos h4]
    by_cases hlt : p < bl.length
    · rw [drop_cons hp.1 hlt]
      simp only
      by_cases hx : 0 < rd bl p ∧ rd bl p ≠ s + 1
      · have hb : ¬ bad bl s p k := by
          unfold bad
          intro ⟨_, h⟩
          rcases h with h | h | h
          · omega
          · omega
          · exact hx.2 h
        have hlf : lf s k (ot bl p k) = [rd bl p] := by
          unfold lf ot
          rw [h4]
          simp
        have hf : fits bl p (lf s k (ot bl p k)) := by
          rw [hlf]
          unfold fits
          refine ⟨by simp; omega, ?_⟩
          have e : (p + (([rd bl p] : List Int).length : Int)).toNat = p.toNat + 1 := by simp; omega
          rw [e, List.drop_take, drop_cons hp.1 hlt]
          simp
        have hv : nx bl s p k = p + 1 := by
          unfold nx
          rw [if_neg hb, if_pos hf, hlf]
          simp
        rw [if_pos hx, hv, if_pos (by omega)]
      · have hb : bad bl s p k := by
          unfold bad
          refine ⟨h4, ?_⟩
          by_cases h0 : rd bl p < 1
          · exact .inr (.inl h0)
          · exact .inr (.inr (Classical.byContradiction fun h => hx ⟨by omega, h⟩))
        have hv : nx bl s p k = -1 := by unfold nx; rw [if_pos hb]
        rw [if_neg hx, hv, if_neg hnn]
    · have hb : bad bl s p k := ⟨h4, .inl (by omega)⟩
      have hv : nx bl s p k = -1 := by unfold nx; rw [if_pos hb]
      rw [List.drop_eq_nil_of_le (by omega), hv, if_neg hnn]
  · rw [if_neg h4]
    have hb : ¬ bad bl s p k := fun h => h4 h.1
    have hlf : lf s k (ot bl p k) = lf s k 0 := by
      unfold lf ot
      simp [h4]
    obtain ⟨L, hL⟩ : ∃ L, lf s k 0 = L := ⟨_, rfl⟩
    have hv : nx bl s p k = if fits bl p L then p + L.length else -1 := by
      unfold nx
      rw [if_neg hb, hlf, hL]
    rw [hv, hL]
    simp only
    by_cases hf : fits bl p L
    · have hf' := hf
      unfold fits at hf'
      obtain ⟨f1, f2⟩ := hf'
      have e : (p + (L.length : Int)).toNat = p.toNat + L.length := by omega
      rw [e, List.drop_take, Nat.add_sub_cancel_left] at f2
      rw [if_pos hf, if_pos ⟨by omega, f2⟩, if_pos (by omega), List.drop_drop, e]
    · rw [if_neg hf, if_neg hnn, if_neg]
      intro ⟨g1, g2⟩
      apply hf
      unfold fits
      have e : (p + (L.length : Int)).toNat = p.toNat + L.length := by omega
      refine ⟨by omega, ?_⟩
      rw [e, List.drop_take, Nat.add_sub_cancel_left]
      exact g2
def costN (o : Option (List Int)) : Int := match o with
  | none => 1000000000
  | some l => kindsN l
open impl_ExplainBlock in
theorem kindsN_cons (k : Nat) (l : List Int) : kindsN ((k : Int) :: l) = kindsN l + t01 k := by
  unfold kindsN t01 mn
  simp only [List.map_cons, List.sum_cons]
  by_cases h : 0 < (k : Int)
  · rw [if_pos h]
    split <;> omega
  · have : k = 0 := by omega
    subst this
    simp
theorem cost_bd {d : Nat} {o : Option (List Int)} (h : OkB d o) (hd : d ≤ 1000) : 0 ≤ costN o ∧ costN o ≤ 1000000000 ∧ (o.isSome = true → costN o ≤ 1000) := by
  cases o with
  | none => simp [costN]
  | some l =>
    have h1 := h l rfl
    have := kindsN_bd l h1.2
    have h2 := h1.1
    simp only [costN]
    omega
theorem cost_better {d : Nat} {b c : Option (List Int)} (hb : OkB d b) (hc : OkB d c) (hd : d ≤ 1000) : costN (better b c) = mn (costN b) (costN c) := by
  have b1 := cost_bd hb hd
  have c1 := cost_bd hc hd
  have e1 : costN none = 1000000000 := rfl
  cases c with
  | none =>
    have e : better b none = b := rfl
    rw [e, e1]
    unfold mn
    rw [if_neg (by omega)]
  | some l =>
    cases b with
    | none =>
      have e : better none (some l) = some l := rfl
      have := c1.2.2 rfl
      rw [e, e1]
      unfold mn
      rw [if_pos (by omega)]
    | some b =>
      by_cases h : kindsN l < kindsN b
      · have e : better (some b) (some l) = some l := by simp [better, h]
        have h' : costN (some l) < costN (some b) := h
        rw [e]
        unfold mn
        rw [if_pos h']
      · have e : better (some b) (some l) = some b := by simp [better, h]
        have h' : ¬ costN (some l) < costN (some b) := h
        rw [e]
        unfold mn
        rw [if_neg h']
open impl_ExplainBlock in
/-- The fewest faults are the reference's explanation's. -/
theorem few_cost (bl : List Int) : ∀ (d : Nat) (s p : Int), d ≤ 12 → 0 ≤ p → p ≤ bl.length → few bl d s p = costN (ex d s (bl.drop p.toNat)) := by
  intro d
  induction d with
  | zero =>
    intro s p _ h0 h1
    unfold few ex
    by_cases h : p = bl.length
    · rw [if_pos h, if_pos (List.drop_eq_nil_of_le (by omega))]
      rfl
    · rw [if_neg h, if_neg]
      · rfl
      · intro e
        have := congrArg List.length e
        simp at this
        omega
  | succ d ih =>
    intro s p hd h0 h1
    rw [ex_succ]
    unfold few
    have gen : ∀ (ks : List Nat) (b : Int) (o : Option (List Int)), (∀ k ∈ ks, k < 5) → OkB (d + 1) o → b = costN o →
        ks.foldl (stp bl (few bl d (s + 1)) s p) b = costN (ks.foldl (fun best k => better best (cand d s (bl.drop p.toNat) k)) o) := by
      intro ks
      induction ks with
      | nil => intro b o _ _ h; exact h
      | cons k r ihk =>
        intro b o hk ho hb
        rw [List.foldl_cons, List.foldl_cons]
        have hk5 := hk k (by simp)
        refine ihk _ _ (fun k' hk' => hk k' (by simp [hk'])) (ho.better (cand_ok hk5)) ?_
        rw [cost_better ho (cand_ok hk5) (by omega), ← hb]
        unfold stp
        have hnr := nx_rest bl s p k ⟨h0, h1⟩
        have hb0 := cost_bd ho (by omega)
        rw [← hb] at hb0
        by_cases hn : 0 ≤ nx bl s p k
        · rw [if_pos hn]
          rw [if_pos hn] at hnr
          have hle := nx_le bl s p k h0
          rw [ih (s + 1) _ (by omega) hn hle.2.2]
          unfold cand
          rw [hnr]
          simp only [Option.bind_some]
          cases he : ex d (s + 1) (bl.drop (nx bl s p k).toNat) with
          | none =>
            have e1 : costN none = 1000000000 := rfl
            simp only [Option.map_none]
            rw [e1]
            unfold mn t01
            split
            · rw [if_neg (by omega), if_neg (by omega)]
            · rw [if_neg (by omega), if_neg (by omega)]
          | some l =>
            have e2 : costN (some l) = kindsN l := rfl
            have e3 : costN (some ((k : Int) :: l)) = kindsN ((k : Int) :: l) := rfl
            simp only [Option.map_some]
            rw [e2, e3, kindsN_cons]
        · rw [if_neg hn]
          rw [if_neg hn] at hnr
          unfold cand
          rw [hnr]
          have e1 : costN none = 1000000000 := rfl
          simp only [Option.bind_none]
          rw [e1]
          unfold mn
          rw [if_neg (by omega)]
    exact gen (List.range 5) 1000000000 none (fun k hk => by simpa using hk) (fun l h => by cases h) rfl

/-- The best of candidates: the first one with the least number of kinds. -/
theorem fold_first (f : Nat → Option (List Int)) : ∀ (m j : Nat) (b : Option (List Int)) (l : List Int), (List.range' j m).foldl (fun best k => better best (f k)) b = some l →
    (b = some l ∧ ∀ k, j ≤ k → k < j + m → ∀ c, f k = some c → kindsN l ≤ kindsN c) ∨
    (∃ k, j ≤ k ∧ k < j + m ∧ f k = some l ∧ (∀ b', b = some b' → kindsN l < kindsN b') ∧ (∀ k', j ≤ k' → k' < k → ∀ c, f k' = some c → kindsN l < kindsN c) ∧ ∀ k', j ≤ k' → k' < j + m → ∀ c, f k' = some c → kindsN l ≤ kindsN c) := by
  intro m
  induction m with
  | zero => intro j b l h; exact .inl ⟨h, fun k h1 h2 => by omega⟩
  | succ m ih =>
    intro j b l h
    rw [List.range'_succ, List.foldl_cons] at h
    rcases ih (j + 1) _ l h with ⟨hb, hall⟩ | ⟨k, hk1, hk2, hfk, hlt, hfirst, hall⟩
    · cases hf : f j with
      | none =>
        rw [hf] at hb
        have e : better b none = b := rfl
        rw [e] at hb
        refine .inl ⟨hb, fun k h1 h2 c hc => ?_⟩
        by_cases hkj : k = j
        · subst hkj; rw [hf] at hc; cases hc
        · exact hall k (by omega) (by omega) c hc
      | some c0 =>
        rw [hf] at hb
        cases b with
        | none =>
          have e : better none (some c0) = some c0 := rfl
          rw [e] at hb
          injection hb with hb
          subst hb
          refine .inr ⟨j, by omega, by omega, hf, (fun b' h => by cases h), (fun k' h1 h2 => by omega), fun k' h1 h2 c hc => ?_⟩
          by_cases hkj : k' = j
          · subst hkj; rw [hf] at hc; injection hc with hc; subst hc; exact Int.le_refl _
          · exact hall k' (by omega) (by omega) c hc
        | some b0 =>
          by_cases hlt : kindsN c0 < kindsN b0
          · have e : better (some b0) (some c0) = some c0 := by simp [better, hlt]
            rw [e] at hb
            injection hb with hb
            subst hb
            refine .inr ⟨j, by omega, by omega, hf, (fun b' h => by injection h with h; subst h; exact hlt), (fun k' h1 h2 => by omega), fun k' h1 h2 c hc => ?_⟩
            by_cases hkj : k' = j
            · subst hkj; rw [hf] at hc; injection hc with hc; subst hc; exact Int.le_refl _
            · exact hall k' (by omega) (by omega) c hc
          · have e : better (some b0) (some c0) = some b0 := by simp [better, hlt]
            rw [e] at hb
            injection hb with hb
            subst hb
            refine .inl ⟨rfl, fun k h1 h2 c hc => ?_⟩
            by_cases hkj : k = j
            · subst hkj; rw [hf] at hc; injection hc with hc; subst hc; omega
            · exact hall k (by omega) (by omega) c hc
    · have hbb : ∀ b', better b (f j) = some b' → kindsN l < kindsN b' := hlt
      have hj' : ∀ c, f j = some c → kindsN l < kindsN c := by
        intro c hc
        rw [hc] at hbb
        cases b with
        | none => exact hbb c rfl
        | some b0 =>
          by_cases hlt0 : kindsN c < kindsN b0
          · exact hbb c (by simp [better, hlt0])
          · have := hbb b0 (by simp [better, hlt0])
            omega
      have hb' : ∀ b', b = some b' → kindsN l < kindsN b' := by
        intro b' e
        subst e
        cases hf : f j with
        | none => exact hbb b' (by rw [hf]; rfl)
        | some c =>
          rw [hf] at hbb
          by_cases hlt0 : kindsN c < kindsN b'
          · have := hbb c (by simp [better, hlt0])
            omega
          · exact hbb b' (by simp [better, hlt0])
      refine .inr ⟨k, by omega, by omega, hfk, hb', fun k' h1 h2 c hc => ?_, fun k' h1 h2 c hc => ?_⟩
      · by_cases hkj : k' = j
        · subst hkj; exact hj' c hc
        · exact hfirst k' (by omega) h2 c hc
      · by_cases hkj : k' = j
        · subst hkj; have := hj' c hc; omega
        · exact hall k' (by omega) (by omega) c hc
open impl_ExplainBlock in
theorem pk_first (bl : List Int) (d : Nat) (s p lf : Int) (k : Nat) (h1 : 0 ≤ nx bl s p k ∧ few bl d (s + 1) (nx bl s p k) + t01 k = lf) : ∀ (m j : Nat), j ≤ k → k < j + m →
    (∀ k', j ≤ k' → k' < k → ¬ (0 ≤ nx bl s p k' ∧ few bl d (s + 1) (nx bl s p k') + t01 k' = lf)) → pk bl d s p lf m j = some k := by
  intro m
  induction m with
  | zero => intro j h2 h3; omega
  | succ m ih =>
    intro j h2 h3 h4
    unfold pk
    by_cases hj : j = k
    · subst hj
      rw [if_pos h1]
    · rw [if_neg (h4 j (by omega) (by omega))]
      exact ih (j + 1) (by omega) (by omega) (fun k' h5 h6 => h4 k' (by omega) h6)
open impl_ExplainBlock in
theorem bld_ex (bl : List Int) : ∀ (d : Nat) (s p : Int) (l : List Int), d ≤ 12 → 0 ≤ p → p ≤ bl.length → ex d s (bl.drop p.toNat) = some l → bld bl d s p (kindsN l) = l := by
  intro d
  induction d with
  | zero =>
    intro s p l _ h0 h1 h
    have := (ex_ok 0 s _ l h).1
    unfold bld
    exact (List.length_eq_zero_iff.1 this).symm
  | succ d ih =>
    intro s p l hd h0 h1 h
    have hx := h
    rw [ex_succ, List.range_eq_range'] at hx
    rcases fold_first _ 5 0 none l hx with ⟨h2, _⟩ | ⟨k, _, hk5, hck, _, hfirst, _⟩
    · cases h2
    · have hc := hck
      unfold cand at hc
      rw [nx_rest bl s p k ⟨h0, h1⟩] at hc
      by_cases hn : 0 ≤ nx bl s p k
      · rw [if_pos hn] at hc
        simp only [Option.bind_some] at hc
        obtain ⟨l', hl', rfl⟩ := Option.map_eq_some_iff.1 hc
        have hle := nx_le bl s p k h0
        have hpk : pk bl d s p (kindsN ((k : Int) :: l')) 5 0 = some k := by
          refine pk_first bl d s p _ k ⟨hn, ?_⟩ 5 0 (by omega) (by omega) (fun k' _ hk' hbad => ?_)
          · rw [few_cost bl d (s + 1) _ (by omega) hn hle.2.2, hl', kindsN_cons]
            rfl
          · obtain ⟨hn', he'⟩ := hbad
            have hle' := nx_le bl s p k' h0
            rw [few_cost bl d (s + 1) _ (by omega) hn' hle'.2.2] at he'
            have hlen := ex_ok (d + 1) s _ _ h
            have hbd := kindsN_bd _ hlen.2
            have hl1 := hlen.1
            cases hx' : ex d (s + 1) (bl.drop (nx bl s p k').toNat) with
            | none =>
              rw [hx'] at he'
              have e1 : costN none = 1000000000 := rfl
              rw [e1] at he'
              unfold t01 at he'
              split at he' <;> omega
            | some c =>
              rw [hx'] at he'
              have e2 : costN (some c) = kindsN c := rfl
              rw [e2] at he'
              have hcand : cand d s (bl.drop p.toNat) k' = some ((k' : Int) :: c) := by
                unfold cand
                rw [nx_rest bl s p k' ⟨h0, h1⟩, if_pos hn']
                simp [hx']
              have := hfirst k' (by omega) hk' _ hcand
              rw [kindsN_cons k' c] at this
              omega
        unfold bld
        rw [hpk]
        simp only
        rw [kindsN_cons, show kindsN l' + t01 (k : Int) - t01 (k : Int) = kindsN l' by omega, ih (s + 1) _ l' (by omega) hn hle.2.2 hl']
      · rw [if_neg hn] at hc
        cases hc
/-- What either program explains. -/
def expl (n : Int) (bl : List Int) : List Int × Int := if blockB n bl = true then (match ex n.toNat 0 bl with
  | some l => (l, 0)
  | none => ([], 4)) else ([], 2)
theorem specExplain_ev (n : Int) (bl : List Int) (hm : bl.length ≤ 2000000) : Ev (fun k => spec_ExplainBlock.f k n bl) (expl n bl) := by
  unfold spec_ExplainBlock.f
  refine Ev.go (specFits_ev n bl (by omega)) ?_
  by_cases h : blockB n bl = true
  · obtain ⟨h1, h2, h3, h4⟩ := block_parts h
    simp only [h, if_true]
    refine Ev.go (specEx_ev n h2 n.toNat 0 bl (by omega) (by omega) (by omega)) ?_
    unfold expl pr
    rw [if_pos h]
    cases ex n.toNat 0 bl with
    | none => exact Ev.const rfl
    | some l => exact Ev.const rfl
  · have h0 : blockB n bl = false := by simpa using h
    simp only [h0, Bool.false_eq_true, if_false]
    exact Ev.const (by unfold expl; rw [if_neg h])
open impl_ExplainBlock in
theorem implExplain_ev (n : Int) (bl : List Int) (hm : bl.length ≤ 2000000) : Ev (fun k => impl_ExplainBlock.f k n bl) (expl n bl) := by
  unfold impl_ExplainBlock.f
  refine Ev.go (implBlock_ev n bl (by omega)) ?_
  by_cases h : blockB n bl = true
  · obtain ⟨h1, h2, h3, h4⟩ := block_parts h
    simp only [h, if_true]
    have hf := few_cost bl n.toNat 0 0 (by omega) (by omega) (by omega)
    unfold expl
    rw [if_pos h]
    have e0 : bl.drop (0 : Int).toNat = bl := by simp
    rw [e0] at hf
    cases hx : ex n.toNat 0 bl with
    | none =>
      rw [hx] at hf
      have e1 : costN none = 1000000000 := rfl
      rw [e1] at hf
      rw [hf]
      exact Ev.const rfl
    | some l =>
      rw [hx] at hf
      have e2 : costN (some l) = kindsN l := rfl
      rw [e2] at hf
      have hok := ex_ok n.toNat 0 bl l hx
      have hbd := kindsN_bd l hok.2
      have hl1 := hok.1
      rw [hf]
      refine Ev.const ?_
      rw [if_neg (by omega), bld_ex bl n.toNat 0 0 l (by omega) (by omega) (by omega) (by rw [e0]; exact hx)]
  · have h0 : blockB n bl = false := by simpa using h
    simp only [h0, Bool.false_eq_true, if_false]
    exact Ev.const (by unfold expl; rw [if_neg h])


/-! ### the law -/
theorem blk_small (n u : Int) (pages : List Int) : (blkAll n u pages).1.length ≤ 24 := by
  unfold blkAll
  split
  · unfold blk fin
    split
    · rename_i h
      obtain ⟨h1, h2, h3, _⟩ := block_parts h.1
      simp only
      omega
    · simp
  · simp
def diag (n u : Int) (pages : List Int) : List Int × Int := if (blkAll n u pages).2 = 0 then (if (expl n (blkAll n u pages).1).2 = 0 then ((expl n (blkAll n u pages).1).1, 0) else ([], 5)) else ([], (blkAll n u pages).2)
theorem specDiag_ev (n u : Int) (pages : List Int) (hw : ∀ x ∈ pages, -9223372036854775808 ≤ x ∧ x ≤ 9223372036854775807) (hp : pages.length ≤ 1048576) : Ev (fun k => spec_DiagnosePages.f k n u pages) (diag n u pages) := by
  unfold spec_DiagnosePages.f diag
  refine Ev.go (specBlock_ev n u pages hw hp) ?_
  by_cases h : (blkAll n u pages).2 = 0
  · simp only [h, if_true]
    refine Ev.go (specExplain_ev n _ (by have := blk_small n u pages; omega)) ?_
    by_cases h2 : (expl n (blkAll n u pages).1).2 = 0
    · simp only [h2, if_true]; exact Ev.const rfl
    · simp only [h2, if_false]; exact Ev.const rfl
  · simp only [h, if_false]; exact Ev.const rfl
theorem implDiag_ev (n u : Int) (pages : List Int) (hw : ∀ x ∈ pages, -9223372036854775808 ≤ x ∧ x ≤ 9223372036854775807) (hp : pages.length ≤ 1048576) : Ev (fun k => impl_DiagnosePages.f k n u pages) (diag n u pages) := by
  unfold impl_DiagnosePages.f diag
  refine Ev.go (implBlock2_ev n u pages hw hp) ?_
  by_cases h : (blkAll n u pages).2 = 0
  · simp only [h, if_true]
    refine Ev.go (implExplain_ev n _ (by have := blk_small n u pages; omega)) ?_
    by_cases h2 : (expl n (blkAll n u pages).1).2 = 0
    · simp only [h2, if_true]; exact Ev.const rfl
    · simp only [h2, if_false]; exact Ev.const rfl
  · simp only [h, if_false]; exact Ev.const rfl
theorem diag_small (n u : Int) (pages : List Int) : (diag n u pages).1.length ≤ 12 := by
  unfold diag
  split
  · split
    · rename_i h1 h2
      unfold expl
      split
      · rename_i hb
        obtain ⟨b1, b2, _, _⟩ := block_parts hb
        cases hx : ex n.toNat 0 (blkAll n u pages).1 with
        | none => simp
        | some l =>
          have := (ex_ok _ _ _ l hx).1
          simp only
          omega
      · simp
    · simp
  · simp
theorem copy_l0 (xs : List Int) (hm : xs.length ≤ 9000000000000000000) : ∀ (d k : Nat) (ys : List Int) (i : Int), 0 ≤ i → i ≤ xs.length → (xs.length : Int) - i = d → d < k → ys.length = xs.length → ys.take i.toNat = xs.take i.toNat → laws_toInt64S.l0 k xs ys i = some xs := by
  intro d
  induction d with
  | zero =>
    intro k ys i h0 h1 hd hk hl ht
    obtain ⟨k, rfl⟩ : ∃ m, k = m + 1 := ⟨k - 1, by omega⟩
    simp only [laws_toInt64S.l0]
    rw [if_neg (by omega)]
    rw [List.take_of_length_le (by omega), List.take_of_length_le (by omega)] at ht
    rw [ht]
  | succ d ih =>
    intro k ys i h0 h1 hd hk hl ht
    obtain ⟨k, rfl⟩ : ∃ m, k = m + 1 := ⟨k - 1, by omega⟩
    simp only [laws_toInt64S.l0]
    rw [if_pos (by omega), if_pos h0, if_pos (by omega), wr (by omega) (by omega)]
    refine ih k _ (i + 1) (by omega) (by omega) (by omega) (by omega) (by simpa using hl) ?_
    have e : (i + 1).toNat = i.toNat + 1 := by omega
    rw [e, List.take_succ_eq_append_getElem (by simp; omega), List.take_succ_eq_append_getElem (by omega), rd_lt h0 (by omega)]
    rw [List.take_set_of_le (by omega), ht]
    simp
theorem copy_ev (xs : List Int) (hm : xs.length ≤ 1048576) : Ev (fun k => laws_toInt64S.f k xs) xs :=
  Ev.at_ (xs.length + 1) fun k hk => by
    unfold laws_toInt64S.f
    rw [if_pos (by omega), if_pos (by omega)]
    exact copy_l0 xs (by omega) xs.length k _ 0 (by omega) (by omega) (by omega) (by omega) (by simp) (by simp)
/-- Numbers from a on. -/
def marks : Int → Nat → List Int
  | _, 0 => []
  | a, m + 1 => a :: marks (a + 1) m
theorem marks_len : ∀ (m : Nat) (a : Int), (marks a m).length = m
  | 0, _ => rfl
  | m + 1, a => by unfold marks; rw [List.length_cons, marks_len m]
theorem mark_l0 : ∀ (d k : Nat) (xs : List Int) (a i : Int), xs.length ≤ 5000000 → 0 ≤ i → i ≤ xs.length → (xs.length : Int) - i = d → d < k → 0 ≤ a → a + d ≤ 5000000 →
    laws_markInt64S.l0 k xs a i = some (a + d, xs.take i.toNat ++ marks a d) := by
  intro d
  induction d with
  | zero =>
    intro k xs a i hm h0 h1 hd hk ha0 ha1
    obtain ⟨k, rfl⟩ : ∃ m, k = m + 1 := ⟨k - 1, by omega⟩
    simp only [laws_markInt64S.l0]
    rw [if_neg (by omega), List.take_of_length_le (by omega)]
    simp [marks]
  | succ d ih =>
    intro k xs a i hm h0 h1 hd hk ha0 ha1
    obtain ⟨k, rfl⟩ : ∃ m, k = m + 1 := ⟨k - 1, by omega⟩
    simp only [laws_markInt64S.l0]
    rw [if_pos (by omega), if_pos h0, wr (x := a + 1) (by omega) (by omega), wr (x := i + 1) (by omega) (by omega), ih k _ (a + 1) (i + 1) (by rw [List.length_set]; omega) (by omega) (by rw [List.length_set]; omega) (by rw [List.length_set]; omega) (by omega) (by omega) (by omega)]
    have e : (i + 1).toNat = i.toNat + 1 := by omega
    rw [e, List.take_succ_eq_append_getElem (by simp; omega), List.take_set_of_le (by omega)]
    simp only [List.getElem_set_self]
    conv => rhs; unfold marks
    simp
    omega
theorem mark_ev (xs : List Int) (hm : xs.length ≤ 2000000) : Ev (fun k => laws_markInt64S.f k xs 1) (1 + (xs.length : Int), marks 1 xs.length) :=
  Ev.at_ (xs.length + 1) fun k hk => by
    unfold laws_markInt64S.f
    rw [mark_l0 xs.length k xs 1 0 (by omega) (by omega) (by omega) (by omega) (by omega) (by omega) (by omega)]
    simp
theorem held_l0 : ∀ (d k : Nat) (xs : List Int) (a i : Int), xs.length ≤ 5000000 → 0 ≤ i → i ≤ xs.length → (xs.length : Int) - i = d → d < k → 0 ≤ a → a + d ≤ 5000000 → xs.drop i.toNat = marks a d →
    laws_heldInt64S.l0 k xs a i = some (a + d) := by
  intro d
  induction d with
  | zero =>
    intro k xs a i hm h0 h1 hd hk ha0 ha1 hx
    obtain ⟨k, rfl⟩ : ∃ m, k = m + 1 := ⟨k - 1, by omega⟩
    simp only [laws_heldInt64S.l0]
    rw [if_neg (by omega)]
    simp
  | succ d ih =>
    intro k xs a i hm h0 h1 hd hk ha0 ha1 hx
    obtain ⟨k, rfl⟩ : ∃ m, k = m + 1 := ⟨k - 1, by omega⟩
    rw [drop_cons h0 (by omega)] at hx
    unfold marks at hx
    injection hx with hx1 hx2
    simp only [laws_heldInt64S.l0]
    rw [if_pos (by omega), if_pos h0, if_pos hx1, wr (x := a + 1) (by omega) (by omega), wr (x := i + 1) (by omega) (by omega), ih k xs (a + 1) (i + 1) hm (by omega) (by omega) (by omega) (by omega) (by omega) (by omega) hx2]
    congr 1
    omega
theorem held_ev (m : Nat) (hm : m ≤ 2000000) : Ev (fun k => laws_heldInt64S.f k (marks 1 m) 1) (1 + (m : Int)) :=
  Ev.at_ (m + 1) fun k hk => by
    unfold laws_heldInt64S.f
    have hl := marks_len m 1
    exact held_l0 m k (marks 1 m) 1 0 (by omega) (by omega) (by omega) (by omega) (by omega) (by omega) (by omega) (by simp)
theorem FnExactDiagnosePages : laws_FnExactDiagnosePages.Pure := by
  intro a0 a1 l2 _ _ _ _ hw
  refine Ev.rounds ?_
  unfold laws_FnExactDiagnosePages.f
  by_cases hlong : (l2.length : Int) > 1048576
  · simp only [hlong, if_true]; exact Ev.const rfl
  · simp only [hlong, if_false]
    have hp : l2.length ≤ 1048576 := by omega
    have hw' : ∀ x ∈ l2, -9223372036854775808 ≤ x ∧ x ≤ 9223372036854775807 := fun x hx => wfI (hw x hx)
    have hc := copy_ev l2 hp
    have hS := specDiag_ev a0 a1 l2 hw' hp
    have hI := implDiag_ev a0 a1 l2 hw' hp
    have hsm := diag_small a0 a1 l2
    obtain ⟨D, hD⟩ : ∃ D, diag a0 a1 l2 = D := ⟨_, rfl⟩
    rw [hD] at hS hI hsm
    refine Ev.go hc (Ev.go hS (Ev.go hc (Ev.go hI (Ev.go (eq_ev D.1 D.1 (by omega)) ?_))))
    simp only [decide_true, if_true, bne_self_eq_false]
    -- the first comparison's rest
    have h2 : Ev (fun k => laws_FnExactDiagnosePages.j2 k (marks 1 D.1.length) (1 + (D.1.length : Int)) false) true := by
      refine Ev.step (f := fun k => (laws_heldInt64S.f k (marks 1 D.1.length) 1).bind fun t339 => (if t339 < 0 then (some false) else (if t339 = 1 + (D.1.length : Int) then (some true) else (some false)))) (fun k => ?_) ?_
      · simp only [laws_FnExactDiagnosePages.j2]
        rw [if_neg (by decide)]
      · refine Ev.go (held_ev D.1.length (by omega)) (Ev.const ?_)
        rw [if_neg (by omega), if_pos rfl]
    have h1 : Ev (fun k => laws_FnExactDiagnosePages.j1 k a0 a1 l2 D.1 D.2 D.1 false) true := by
      refine Ev.step (f := fun k => (laws_markInt64S.f k D.1 1).bind fun bt328 => ((laws_heldInt64S.f k bt328.2 1).bind fun t330 => (if t330 < 0 then (some false) else (if t330 = bt328.1 then ((laws_toInt64S.f k l2).bind fun t331 => ((impl_DiagnosePages.f k a0 a1 t331).bind fun bt334 => ((laws_eqInt64S.f k bt334.1 D.1).bind fun t338 => (if t338 = true then (laws_FnExactDiagnosePages.j2 k bt328.2 bt328.1 (bt334.2 != D.2)) else (laws_FnExactDiagnosePages.j2 k bt328.2 bt328.1 true))))) else (some false))))) (fun k => ?_) ?_
      · simp only [laws_FnExactDiagnosePages.j1]
        rw [if_neg (by decide)]
      · refine Ev.go (mark_ev D.1 (by omega)) (Ev.go (held_ev D.1.length (by omega)) ?_)
        have hn : ¬ (1 + (D.1.length : Int) < 0) := by omega
        simp only [hn, if_false, if_true]
        refine Ev.go hc (Ev.go hI (Ev.go (eq_ev D.1 D.1 (by omega)) ?_))
        simp only [decide_true, if_true, bne_self_eq_false]
        exact h2
    refine Ev.step (f := fun k => (laws_toInt64S.f k l2).bind fun t321 => ((laws_eqInt64S.f k l2 t321).bind fun t324 => (if t324 = true then ((laws_markInt64S.f k l2 1).bind fun bt325 => (if bt325.1 < 0 then (laws_FnExactDiagnosePages.j1 k a0 a1 l2 D.1 D.2 D.1 true) else ((laws_eqInt64S.f k D.1 D.1).bind fun t327 => (if t327 = true then (laws_FnExactDiagnosePages.j1 k a0 a1 l2 D.1 D.2 D.1 (D.2 != D.2)) else (laws_FnExactDiagnosePages.j1 k a0 a1 l2 D.1 D.2 D.1 true))))) else (some false)))) (fun k => ?_) ?_
    · simp only [laws_FnExactDiagnosePages.j0]
      rw [if_neg (by decide)]
    · refine Ev.go hc (Ev.go (eq_ev l2 l2 (by omega)) ?_)
      simp only [decide_true, if_true]
      refine Ev.go (mark_ev l2 (by omega)) ?_
      have hn : ¬ (1 + (l2.length : Int) < 0) := by omega
      simp only [hn, if_false]
      refine Ev.go (eq_ev D.1 D.1 (by omega)) ?_
      simp only [decide_true, if_true, bne_self_eq_false]
      exact h1

end Go.Proofs.Ytnomfjdeacbccaa.Pure
