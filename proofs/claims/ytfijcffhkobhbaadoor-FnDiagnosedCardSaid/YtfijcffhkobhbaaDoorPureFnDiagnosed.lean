/-
  FnDiagnosed: the diagnosis, the first bad page and the text of kinds are what the reference tells, for every code; no condition.
-/
import Derived.Test.YtfijcffhkobhbaaDoorPFnDiagnosedx14
set_option linter.unusedVariables false
set_option linter.unusedSimpArgs false
namespace Go.Proofs.YtfijcffhkobhbaaDoor.Pure
open Go.RowKit Go.Proofs.YtfijcffhkobhbaaDoor.PFnDiagnosed Go.Proofs.YtfijcffhkobhbaaDoorW.PrintWords Go.Proofs.YtfijcffhkobhbaaDoorW.PrintLast

theorem wr {x : Int} (h0 : -9223372036854775808 ≤ x) (h1 : x ≤ 9223372036854775807) : wrap64 x = x := by unfold wrap64; omega
theorem rd_lt {xs : List Int} {i : Int} (h0 : 0 ≤ i) (h : i < xs.length) : rd xs i = xs[i.toNat]'(by omega) := by simp [rd, show i.toNat < xs.length by omega]
theorem drop_cons {xs : List Int} {i : Int} (h0 : 0 ≤ i) (h : i < xs.length) : xs.drop i.toNat = rd xs i :: xs.drop (i + 1).toNat := by
  rw [rd_lt h0 h, show (i + 1).toNat = i.toNat + 1 by omega]
  exact List.drop_eq_getElem_cons (by omega)
theorem wfI {x : Int} (h : (Lit.int .i64 x).wf = true) : -9223372036854775808 ≤ x ∧ x ≤ 9223372036854775807 := by
  simp [Lit.wf, IntKind.min, IntKind.max, IntKind.bits, IntKind.signed] at h
  omega
theorem Ev.go {α β : Type} {g : Nat → Option α} {f : Nat → α → Option β} {a : α} {r : β} (h : Ev g a) (k : Ev (fun n => f n a) r) : Ev (fun n => (g n).bind (f n)) r := Ev.bind h k
theorem Ev.at_ {α : Type} {g : Nat → Option α} {r : α} (K : Nat) (h : ∀ k, K ≤ k → g k = some r) : Ev g r := ⟨K, h⟩
theorem Ev.const {α : Type} {o : Option α} {r : α} (h : o = some r) : Ev (fun _ => o) r := ⟨0, fun _ _ => h⟩

/-! ### texts -/
def mkB (l : List UInt8) : ByteArray := ⟨l.toArray⟩
theorem mkB_data (l : List UInt8) : (mkB l).data.toList = l := by simp [mkB]
theorem mkB_size (l : List UInt8) : (mkB l).size = l.length := by simp [mkB, ByteArray.size]
theorem mkB_toList (l : List UInt8) : (mkB l).toList = l := ByteArray.toList_mk l
theorem mkB_self (s : ByteArray) : mkB s.data.toList = s := by
  obtain ⟨⟨l⟩⟩ := s
  rfl
theorem mkB_app (a b : List UInt8) : mkB a ++ mkB b = mkB (a ++ b) := by
  apply ByteArray.ext
  rw [ByteArray.data_append]
  simp [mkB]
theorem bt_mkB (l : List UInt8) (p : Nat) (h : p < l.length) : bt (mkB l) (p : Int) = (l[p].toNat : Int) := by
  unfold bt
  rw [dif_pos (by rw [mkB_size]; simpa using h)]
  simp only [Int.toNat_natCast]
  rfl
theorem extract_mkB (l : List UInt8) (a b : Nat) : (mkB l).extract a b = mkB ((l.drop a).take (b - a)) := by
  apply ByteArray.ext
  rw [ByteArray.data_extract]
  simp [mkB]
theorem rdOf_mkB (L : List (List UInt8)) (p : Nat) : rdOf ByteArray.empty (L.map mkB) (p : Int) = mkB (L.getD p []) := by
  unfold rdOf
  simp only [Int.toNat_natCast]
  simp only [List.getD_eq_getElem?_getD, List.getElem?_map]
  cases L[p]? <;> rfl

/-! #### numerals -/
theorem dec_len : ∀ (k n : Nat), 1 ≤ k → n < 10 ^ k → (Lib.decDigits n).length ≤ k
  | 0, _, h, _ => by omega
  | k + 1, n, _, hn => by
    rw [Lib.decDigits]
    split
    · simp
    · rename_i h
      have hk : 1 ≤ k := by
        rcases Nat.eq_zero_or_pos k with rfl | h'
        · simp at hn; omega
        · exact h'
      have := dec_len k (n / 10) hk (by rw [Nat.pow_succ] at hn; omega)
      simp; omega
theorem dec_ne (n : Nat) : Lib.decDigits n ≠ [] := by
  rw [Lib.decDigits]
  split <;> simp
theorem dec_digs (n : Nat) : ∀ b ∈ Lib.decDigits n, 48 ≤ b.toNat ∧ b.toNat ≤ 57 := by
  induction n using Nat.strongRecOn with
  | _ n ih =>
    rw [Lib.decDigits]
    split
    · rename_i h
      intro b hb
      rw [List.mem_singleton.1 hb]
      simp; omega
    · rename_i h
      intro b hb
      rcases List.mem_append.1 hb with hb | hb
      · exact ih (n / 10) (by omega) b hb
      · rw [List.mem_singleton.1 hb]
        simp; omega
/-- What digits spell. -/
def val (l : List UInt8) : Nat := l.foldl (fun a b => 10 * a + (b.toNat - 48)) 0
theorem val_app (l : List UInt8) (b : UInt8) : val (l ++ [b]) = 10 * val l + (b.toNat - 48) := by simp [val]
theorem dec_val (n : Nat) : val (Lib.decDigits n) = n := by
  induction n using Nat.strongRecOn with
  | _ n ih =>
    rw [Lib.decDigits]
    split
    · rename_i h
      simp [val]; omega
    · rename_i h
      rw [val_app, ih (n / 10) (by omega)]
      simp; omega
theorem val_lt : ∀ (m : Nat) (l : List UInt8), l.length = m → (∀ b ∈ l, 48 ≤ b.toNat ∧ b.toNat ≤ 57) → val l < 10 ^ m := by
  intro m
  induction m with
  | zero =>
    intro l hl _
    rw [List.length_eq_zero_iff.1 hl]
    simp [val]
  | succ m ih =>
    intro l hl hd
    have hne : l ≠ [] := by intro e; simp [e] at hl
    have e := List.dropLast_concat_getLast hne
    have h1 := ih l.dropLast (by simp; omega) (fun b hb => hd b ((List.dropLast_sublist l).subset hb))
    have h2 := hd (l.getLast hne) (List.getLast_mem hne)
    rw [← e, val_app, Nat.pow_succ]
    omega
theorem specDec_ev : ∀ (n : Nat), n ≤ 9223372036854775807 → Ev (fun k => spec_l01Dec.f k (n : Int)) (mkB (Lib.decDigits n)) := by
  intro n
  induction n using Nat.strongRecOn with
  | _ n ih =>
    intro hn
    by_cases h : n < 10
    · refine Ev.step (f := fun _ => some (mkB (Lib.decDigits n))) (fun k => ?_) (Ev.const rfl)
      simp only [spec_l01Dec.f]
      rw [if_pos (by omega), wr (by omega) (by omega), Lib.decDigits, dif_pos h]
      simp only [strOfNums, List.map_cons, List.map_nil, mkB]
      rw [show ((48 + (n : Int)) % 256).toNat = 48 + n by omega]
    · have h1 := ih (n / 10) (by omega) (by omega)
      have hl := dec_len 19 (n / 10) (by omega) (by omega)
      refine Ev.step (fun k => ?_) (Ev.go h1 (f := fun _ t => some (mkB (Lib.decDigits n))) (Ev.const rfl))
      simp only [spec_l01Dec.f]
      rw [if_neg (by omega), Int.tdiv_eq_ediv_of_nonneg (by omega), wr (x := (n : Int) / 10) (by omega) (by omega), show ((n : Int) / 10) = ((n / 10 : Nat) : Int) by omega]
      cases hf : spec_l01Dec.f k ((n / 10 : Nat) : Int) with
      | none => rfl
      | some t =>
        have ht : t = mkB (Lib.decDigits (n / 10)) := by
          obtain ⟨K, hK⟩ := h1
          have a := hK (K + k) (by omega)
          have b : spec_l01Dec.f (K + k) ((n / 10 : Nat) : Int) = some t := at_rounds (g := fun k => spec_l01Dec.f k ((n / 10 : Nat) : Int)) (fun k => spec_l01Dec.mono _ k) (by omega) hf
          exact Option.some.inj (b.symm.trans a)
        subst ht
        have hm : Int.tmod (n : Int) 10 = ((n % 10 : Nat) : Int) := by rw [Int.tmod_eq_emod_of_nonneg (by omega)]; omega
        have hs : strOfNums [(wrap64 (48 + Int.tmod (n : Int) 10)) % 256] = mkB [UInt8.ofNat (48 + n % 10)] := by
          rw [hm, wr (by omega) (by omega)]
          simp only [strOfNums, List.map_cons, List.map_nil, mkB]
          rw [show ((48 + ((n % 10 : Nat) : Int)) % 256).toNat = 48 + n % 10 by omega]
        simp only [Option.bind_some, hs, mkB_size]
        rw [if_pos (by simp; omega), mkB_app]
        conv => rhs; rw [Lib.decDigits, dif_neg h]
theorem itoa_nat (n : Nat) : Lib.itoa (n : Int) = Lib.decDigits n := by unfold Lib.itoa; rw [if_neg (by omega)]; simp

theorem decimal_f (n : Nat) (hn : n ≤ 9223372036854775807) : impl_decimal.f (n : Int) = some (mkB (Lib.decDigits n)) := by
  unfold impl_decimal.f
  rw [if_pos (by omega), itoa_nat]
  rfl

/-! ### units, blocks -/
def unitB (u : Int) : Bool := decide (u = 4 ∨ u = 8 ∨ u = 16 ∨ u = 32 ∨ u = 64 ∨ u = 128)
theorem has_l0 (xs : List Int) (a : Int) (hm : xs.length ≤ 9000000000000000000) : ∀ (d k : Nat) (i : Int), 0 ≤ i → i ≤ xs.length → (xs.length : Int) - i = d → d < k → spec_l01Has.l0 k xs a i = some (decide (a ∈ xs.drop i.toNat)) := by
  intro d
  induction d with
  | zero =>
    intro k i h0 h1 hd hk
    obtain ⟨k, rfl⟩ : ∃ m, k = m + 1 := ⟨k - 1, by omega⟩
    simp only [spec_l01Has.l0]
    rw [if_neg (by omega), List.drop_eq_nil_of_le (by omega)]
    simp
  | succ d ih =>
    intro k i h0 h1 hd hk
    obtain ⟨k, rfl⟩ : ∃ m, k = m + 1 := ⟨k - 1, by omega⟩
    simp only [spec_l01Has.l0]
    rw [if_pos (by omega), if_pos h0, wr (by omega) (by omega), drop_cons h0 (by omega), ih k (i + 1) (by omega) (by omega) (by omega) (by omega)]
    by_cases e : rd xs i = a
    · simp [e]
    · rw [if_neg e]; simp [show ¬ a = rd xs i from fun h => e h.symm]
theorem has_ev (xs : List Int) (a : Int) (hm : xs.length ≤ 9000000000000000000) : Ev (fun k => spec_l01Has.f k xs a) (decide (a ∈ xs)) :=
  Ev.at_ (xs.length + 1) fun k hk => by
    have := has_l0 xs a hm xs.length k 0 (by omega) (by omega) (by omega) (by omega)
    simpa [spec_l01Has.f] using this
theorem index_l0 (xs : List Int) (a : Int) (hm : xs.length ≤ 9000000000000000000) : ∀ (d k : Nat) (i : Int), 0 ≤ i → i ≤ xs.length → (xs.length : Int) - i = d → d < k →
    ∃ r, slices_Index_int64_int64.l0 k xs a (xs.length : Int) i = some r ∧ decide (r ≥ 0) = decide (a ∈ xs.drop i.toNat) := by
  intro d
  induction d with
  | zero =>
    intro k i h0 h1 hd hk
    obtain ⟨k, rfl⟩ : ∃ m, k = m + 1 := ⟨k - 1, by omega⟩
    simp only [slices_Index_int64_int64.l0]
    rw [if_neg (by omega), List.drop_eq_nil_of_le (by omega)]
    exact ⟨-1, rfl, by simp⟩
  | succ d ih =>
    intro k i h0 h1 hd hk
    obtain ⟨k, rfl⟩ : ∃ m, k = m + 1 := ⟨k - 1, by omega⟩
    simp only [slices_Index_int64_int64.l0]
    rw [if_pos (by omega), if_pos h0, if_pos (by omega), wr (by omega) (by omega), drop_cons h0 (by omega)]
    by_cases e : a = rd xs i
    · exact ⟨i, by rw [if_pos e], by simp [e, h0]⟩
    · obtain ⟨r, hr, he⟩ := ih k (i + 1) (by omega) (by omega) (by omega) (by omega)
      refine ⟨r, by rw [if_neg e]; exact hr, ?_⟩
      rw [he]; simp [e]
theorem contains_ev (xs : List Int) (a : Int) (hm : xs.length ≤ 9000000000000000000) : Ev (fun k => slices_Contains_int64_int64.f k xs a) (decide (a ∈ xs)) :=
  Ev.at_ (xs.length + 1) fun k hk => by
    obtain ⟨r, hr, he⟩ := index_l0 xs a hm xs.length k 0 (by omega) (by omega) (by omega) (by omega)
    unfold slices_Contains_int64_int64.f slices_Index_int64_int64.f
    rw [hr]
    simpa using he
theorem specUnit_ev (u : Int) : Ev (fun k => spec_IsUnit.f k u) (unitB u) := by
  unfold spec_IsUnit.f
  refine Ev.go (has_ev [4, 8, 16, 32, 64, 128] u (by simp)) (Ev.const ?_)
  congr 1
  unfold unitB
  simp
theorem inRange_is (a b c : Int) : impl_inRange.f a b c = some (decide (b ≤ a ∧ a ≤ c)) := by
  unfold impl_inRange.f; by_cases h : b ≤ a <;> simp [h]
theorem l01In_is (a b c : Int) : spec_l01In.f a b c = some (decide (b ≤ a ∧ a ≤ c)) := by
  unfold spec_l01In.f; by_cases h : b ≤ a <;> simp [h]
theorem implUnit_is (u : Int) : impl_IsUnit.f u = some (unitB u) := by
  unfold impl_IsUnit.f
  rw [inRange_is]
  simp only [Option.bind_some]
  by_cases h : 4 ≤ u ∧ u ≤ 128
  · rw [if_pos (by simpa using h)]
    congr 1
    obtain ⟨n, rfl⟩ : ∃ n : Nat, u = n := ⟨u.toNat, by omega⟩
    have key : ∀ n : Fin 129, 4 ≤ n.val → ((Go.bits .and .i64 (n.val : Int) (wrap64 ((n.val : Int) - 1))) == 0) = unitB (n.val : Int) := by decide +kernel
    exact key ⟨n, by omega⟩ (show 4 ≤ n by omega)
  · rw [if_neg (by simpa using h)]
    congr 1
    symm
    unfold unitB
    simp only [decide_eq_false_iff_not]
    omega
def lineB (n : Int) : Bool := decide (1 ≤ n ∧ n ≤ 12)
theorem specLine_is (n : Int) : spec_l14Line.f n 0 = some (lineB n) := by
  unfold spec_l14Line.f lineB
  rw [l01In_is, l01In_is]
  simp only [Option.bind_some]
  by_cases h : 1 ≤ n ∧ n ≤ 12 <;> simp [h]
theorem implLine_is (n : Int) : impl_isLine.f n 0 = some (lineB n) := by
  unfold impl_isLine.f lineB
  rw [inRange_is, inRange_is]
  simp only [Option.bind_some]
  by_cases h : 1 ≤ n ∧ n ≤ 12 <;> simp [h]
def blockB (n : Int) (l : List Int) : Bool := decide (1 ≤ n ∧ n ≤ 12 ∧ (l.length : Int) ≤ 2 * n ∧ (∀ x ∈ l, -n ≤ x ∧ x ≤ n) ∧ ¬ (0 : Int) ∈ l)
theorem within_l0 (xs : List Int) (m a b : Int) (hm : xs.length ≤ 9000000000000000000) : ∀ (d k : Nat) (i : Int), 0 ≤ i → i ≤ xs.length → (xs.length : Int) - i = d → d < k → spec_l01Within.l0 k xs m a b i = some (decide ((∀ x ∈ xs.drop i.toNat, a ≤ x ∧ x ≤ b) ∧ (xs.length : Int) ≤ m)) := by
  intro d
  induction d with
  | zero =>
    intro k i h0 h1 hd hk
    obtain ⟨k, rfl⟩ : ∃ m, k = m + 1 := ⟨k - 1, by omega⟩
    simp only [spec_l01Within.l0]
    rw [if_neg (by omega), List.drop_eq_nil_of_le (by omega)]
    simp
  | succ d ih =>
    intro k i h0 h1 hd hk
    obtain ⟨k, rfl⟩ : ∃ m, k = m + 1 := ⟨k - 1, by omega⟩
    simp only [spec_l01Within.l0]
    rw [if_pos (by omega), if_pos h0, l01In_is, wr (by omega) (by omega), drop_cons h0 (by omega), ih k (i + 1) (by omega) (by omega) (by omega) (by omega)]
    simp only [Option.bind_some]
    by_cases e : a ≤ rd xs i ∧ rd xs i ≤ b
    · simp [e]
    · simp [e]
theorem specFits_ev (n : Int) (l : List Int) (hm : l.length ≤ 9000000000000000000) : Ev (fun k => spec_l14Fits.f k n l) (blockB n l) := by
  unfold spec_l14Fits.f
  rw [specLine_is]
  simp only [Option.bind_some]
  by_cases h : 1 ≤ n ∧ n ≤ 12
  · have hl : lineB n = true := by simpa [lineB] using h
    simp only [hl, if_true]
    refine Ev.go (a := decide ((∀ x ∈ l, -n ≤ x ∧ x ≤ n) ∧ (l.length : Int) ≤ 24)) (Ev.at_ (l.length + 1) fun k hk => ?_) ?_
    · rw [wr (by omega) (by omega)]
      have := within_l0 l 24 (-n) n hm l.length k 0 (by omega) (by omega) (by omega) (by omega)
      simpa [spec_l01Within.f] using this
    · rw [wr (by omega) (by omega)]
      by_cases h1 : (∀ x ∈ l, -n ≤ x ∧ x ≤ n) ∧ (l.length : Int) ≤ 24
      · rw [decide_eq_true h1]
        simp only [if_true]
        by_cases h2 : (l.length : Int) ≤ 2 * n
        · simp only [h2, if_true]
          refine Ev.go (f := fun _ t => some (!t)) (has_ev l 0 hm) (Ev.const ?_)
          congr 1
          unfold blockB
          rw [← decide_not, decide_eq_decide]
          exact ⟨fun hh => ⟨h.1, h.2, h2, h1.1, hh⟩, fun hh => hh.2.2.2.2⟩
        · simp only [h2, if_false]
          refine Ev.const ?_
          congr 1
          symm
          unfold blockB
          simp [h2]
      · simp only [h1, decide_false, Bool.false_eq_true, if_false]
        refine Ev.const ?_
        congr 1
        symm
        unfold blockB
        simp only [decide_eq_false_iff_not]
        intro ⟨_, _, h2, h3, _⟩
        exact h1 ⟨h3, by omega⟩
  · have hl : lineB n = false := by simp only [lineB, decide_eq_false_iff_not]; exact h
    simp only [hl, Bool.false_eq_true, if_false]
    refine Ev.const ?_
    congr 1
    symm
    unfold blockB
    simp only [decide_eq_false_iff_not]
    intro ⟨a, b, _⟩
    exact h ⟨a, b⟩
theorem implBlock_ev (n : Int) (l : List Int) (hm : l.length ≤ 9000000000000000000) : Ev (fun k => impl_isBlock.f k n l) (blockB n l) := by
  unfold impl_isBlock.f
  rw [implLine_is]
  simp only [Option.bind_some]
  by_cases h : 1 ≤ n ∧ n ≤ 12
  · have hl : lineB n = true := by simpa [lineB] using h
    simp only [hl, if_true, impl_length_int64.f, Option.bind_some]
    rw [wr (by omega) (by omega), wr (by omega) (by omega)]
    by_cases h2 : (l.length : Int) ≤ 2 * n
    · simp only [h2, if_true, impl_allIn.f, Option.bind_some]
      by_cases h1 : ∀ x ∈ l, -n ≤ x ∧ x ≤ n
      · have e : (!(l.any fun x => !(decide (-n ≤ x) && decide (x ≤ n)))) = true := by
          simp only [Bool.not_eq_true', List.any_eq_false]
          intro x hx
          simp [h1 x hx]
        simp only [e, if_true]
        refine Ev.go (f := fun _ t => some (!t)) (contains_ev l 0 hm) (Ev.const ?_)
        congr 1
        unfold blockB
        rw [← decide_not, decide_eq_decide]
        exact ⟨fun hh => ⟨h.1, h.2, h2, h1, hh⟩, fun hh => hh.2.2.2.2⟩
      · have e : (!(l.any fun x => !(decide (-n ≤ x) && decide (x ≤ n)))) = false := by
          cases hh : (!(l.any fun x => !(decide (-n ≤ x) && decide (x ≤ n)))) with
          | false => rfl
          | true =>
            refine absurd (fun x hx => ?_) h1
            simp only [Bool.not_eq_true', List.any_eq_false] at hh
            have := hh x hx
            simp at this
            omega
        simp only [e, Bool.false_eq_true, if_false]
        refine Ev.const ?_
        congr 1
        symm
        unfold blockB
        simp only [decide_eq_false_iff_not]
        intro ⟨_, _, _, h3, _⟩
        exact h1 h3
    · simp only [h2, if_false]
      refine Ev.const ?_
      congr 1
      symm
      unfold blockB
      simp [h2]
  · have hl : lineB n = false := by simp only [lineB, decide_eq_false_iff_not]; exact h
    simp only [hl, Bool.false_eq_true, if_false]
    refine Ev.const ?_
    congr 1
    symm
    unfold blockB
    simp only [decide_eq_false_iff_not]
    intro ⟨a, b, _⟩
    exact h ⟨a, b⟩

/-! ### pages -/
def pgAt (u s : Int) (k : Nat) : Int := if s > 0 then (s - 1) * u + k + 1 else s * u + k
def pg (u s : Int) : List Int := (List.range u.toNat).map (pgAt u s)
def allP (u : Int) (b : List Int) : List Int := b.flatMap (pg u)
theorem pg_len (u s : Int) : (pg u s).length = u.toNat := by simp [pg]
theorem allP_len (u : Int) (b : List Int) : (allP u b).length = b.length * u.toNat := by
  induction b with
  | nil => simp [allP]
  | cons x r ih => simp only [allP, List.flatMap_cons, List.length_append] at *; rw [ih, pg_len, List.length_cons, Nat.succ_mul]; omega
theorem mul_bd {s u : Int} (hs : -12 ≤ s ∧ s ≤ 12) (hu : 0 ≤ u ∧ u ≤ 128) : -1536 ≤ s * u ∧ s * u ≤ 1536 := by
  obtain ⟨n, rfl⟩ : ∃ n : Nat, u = n := ⟨u.toNat, by omega⟩
  have h1 : s * (n : Int) ≤ 12 * n := Int.mul_le_mul_of_nonneg_right hs.2 (by omega)
  have h2 : (-12) * (n : Int) ≤ s * n := Int.mul_le_mul_of_nonneg_right hs.1 (by omega)
  omega
theorem specPages_l0 (u s : Int) (hu : 0 ≤ u ∧ u ≤ 128) (hs : -12 ≤ s ∧ s ≤ 12) : ∀ (d k : Nat) (acc : List Int) (i : Int), 1 ≤ i → i ≤ u + 1 → u + 1 - i = d → d < k → acc.length ≤ 1000000 + i.toNat →
    spec_l28Pages.l0 k u s acc i = some (acc ++ (List.range' (i.toNat - 1) d).map (pgAt u s)) := by
  intro d
  induction d with
  | zero =>
    intro k acc i h0 h1 hd hk hl
    obtain ⟨k, rfl⟩ : ∃ m, k = m + 1 := ⟨k - 1, by omega⟩
    simp only [spec_l28Pages.l0]
    rw [if_neg (by omega)]
    simp
  | succ d ih =>
    intro k acc i h0 h1 hd hk hl
    obtain ⟨k, rfl⟩ : ∃ m, k = m + 1 := ⟨k - 1, by omega⟩
    have b1 := mul_bd hs hu
    have ei : ((i.toNat - 1 : Nat) : Int) = i - 1 := by omega
    have e2 : List.range' (i.toNat - 1) (d + 1) = (i.toNat - 1) :: List.range' ((i + 1).toNat - 1) d := by
      rw [List.range'_succ, show (i + 1).toNat - 1 = i.toNat - 1 + 1 by omega]
    simp only [spec_l28Pages.l0]
    rw [if_pos (by omega), e2, List.map_cons, wr (x := i + 1) (by omega) (by omega)]
    by_cases hp : s > 0
    · have b2 := mul_bd (s := s - 1) (by omega) hu
      rw [if_pos hp, if_pos (by omega), wr (x := s - 1) (by omega) (by omega), wr (x := (s - 1) * u) (by omega) (by omega), wr (x := (s - 1) * u + i) (by omega) (by omega), ih k _ (i + 1) (by omega) (by omega) (by omega) (by omega) (by simp; omega)]
      have : pgAt u s (i.toNat - 1) = (s - 1) * u + i := by unfold pgAt; rw [if_pos hp, ei]; omega
      rw [this]; simp
    · rw [if_neg hp, if_pos (by omega), wr (x := s * u) (by omega) (by omega), wr (x := s * u + i) (by omega) (by omega), wr (x := s * u + i - 1) (by omega) (by omega), ih k _ (i + 1) (by omega) (by omega) (by omega) (by omega) (by simp; omega)]
      have : pgAt u s (i.toNat - 1) = s * u + i - 1 := by unfold pgAt; rw [if_neg hp, ei]; omega
      rw [this]; simp
theorem specPages_at (u s : Int) (hu : 0 ≤ u ∧ u ≤ 128) (hs : -12 ≤ s ∧ s ≤ 12) (k : Nat) (hk : 129 < k) : spec_l28Pages.f k u s = some (pg u s) := by
  unfold spec_l28Pages.f
  rw [specPages_l0 u s hu hs u.toNat k [] 1 (by omega) (by omega) (by omega) (by omega) (by simp)]
  simp [pg, List.range_eq_range']
theorem implPages_l0 (u s : Int) (hu : 0 ≤ u ∧ u ≤ 128) (hs : -12 ≤ s ∧ s ≤ 12) : ∀ (d k : Nat) (acc : List Int) (i : Int), 0 ≤ i → i ≤ u → u - i = d → d < k → acc.length ≤ 1000000 + i.toNat →
    impl_pagesOf.l0 k u s acc u i = some (acc ++ (List.range' i.toNat d).map (pgAt u s)) := by
  intro d
  induction d with
  | zero =>
    intro k acc i h0 h1 hd hk hl
    obtain ⟨k, rfl⟩ : ∃ m, k = m + 1 := ⟨k - 1, by omega⟩
    simp only [impl_pagesOf.l0]
    rw [if_neg (by omega)]
    simp
  | succ d ih =>
    intro k acc i h0 h1 hd hk hl
    obtain ⟨k, rfl⟩ : ∃ m, k = m + 1 := ⟨k - 1, by omega⟩
    have b1 := mul_bd hs hu
    have ei : ((i.toNat : Nat) : Int) = i := by omega
    have e2 : List.range' i.toNat (d + 1) = i.toNat :: List.range' (i + 1).toNat d := by
      rw [List.range'_succ, show (i + 1).toNat = i.toNat + 1 by omega]
    simp only [impl_pagesOf.l0]
    rw [if_pos (by omega), e2, List.map_cons, wr (x := i + 1) (by omega) (by omega)]
    by_cases hp : s > 0
    · have b2 := mul_bd (s := s - 1) (by omega) hu
      rw [if_pos hp, if_pos (by omega), wr (x := s - 1) (by omega) (by omega), wr (x := (s - 1) * u) (by omega) (by omega), wr (x := (s - 1) * u + i) (by omega) (by omega), wr (x := (s - 1) * u + i + 1) (by omega) (by omega), ih k _ (i + 1) (by omega) (by omega) (by omega) (by omega) (by simp; omega)]
      have : pgAt u s i.toNat = (s - 1) * u + i + 1 := by unfold pgAt; rw [if_pos hp, ei]
      rw [this]; simp
    · rw [if_neg hp, if_pos (by omega), wr (x := s * u) (by omega) (by omega), wr (x := s * u + i) (by omega) (by omega), ih k _ (i + 1) (by omega) (by omega) (by omega) (by omega) (by simp; omega)]
      have : pgAt u s i.toNat = s * u + i := by unfold pgAt; rw [if_neg hp, ei]
      rw [this]; simp
theorem implPages_at (u s : Int) (hu : 0 ≤ u ∧ u ≤ 128) (hs : -12 ≤ s ∧ s ≤ 12) (k : Nat) (hk : 129 < k) : impl_pagesOf.f k u s = some (pg u s) := by
  unfold impl_pagesOf.f
  rw [implPages_l0 u s hu hs u.toNat k [] 0 (by omega) (by omega) (by omega) (by omega) (by simp)]
  simp [pg, List.range_eq_range']
theorem specAll_l0 (u : Int) (b : List Int) (hu : 0 ≤ u ∧ u ≤ 128) (hs : ∀ x ∈ b, -12 ≤ x ∧ x ≤ 12) (hb : b.length ≤ 1000) : ∀ (d k : Nat) (acc : List Int) (i : Int), 0 ≤ i → i ≤ b.length → (b.length : Int) - i = d → d + 200 < k → acc.length ≤ 128 * i.toNat →
    spec_l28All.l0 k u b acc i = some (acc ++ allP u (b.drop i.toNat)) := by
  intro d
  induction d with
  | zero =>
    intro k acc i h0 h1 hd hk hl
    obtain ⟨k, rfl⟩ : ∃ m, k = m + 1 := ⟨k - 1, by omega⟩
    simp only [spec_l28All.l0]
    rw [if_neg (by omega), List.drop_eq_nil_of_le (by omega)]
    simp [allP]
  | succ d ih =>
    intro k acc i h0 h1 hd hk hl
    obtain ⟨k, rfl⟩ : ∃ m, k = m + 1 := ⟨k - 1, by omega⟩
    have hm : rd b i ∈ b := by rw [rd_lt h0 (by omega)]; exact List.getElem_mem _
    have pl := pg_len u (rd b i)
    simp only [spec_l28All.l0]
    rw [if_pos (by omega), if_pos h0, specPages_at u _ hu (hs _ hm) k (by omega)]
    simp only [Option.bind_some]
    rw [if_pos (by omega), wr (x := i + 1) (by omega) (by omega), ih k _ (i + 1) (by omega) (by omega) (by omega) (by omega) (by rw [List.length_append]; omega), drop_cons h0 (by omega)]
    simp [allP, List.flatMap_cons]
theorem implAll_l0 (u : Int) (b : List Int) (hu : 0 ≤ u ∧ u ≤ 128) (hs : ∀ x ∈ b, -12 ≤ x ∧ x ≤ 12) (hb : b.length ≤ 1000) : ∀ (d k : Nat) (acc : List Int) (i : Int), 0 ≤ i → i ≤ b.length → (b.length : Int) - i = d → d + 200 < k → acc.length ≤ 128 * i.toNat →
    impl_pagesOfBlock.l0 k u acc b (b.length : Int) i = some (acc ++ allP u (b.drop i.toNat)) := by
  intro d
  induction d with
  | zero =>
    intro k acc i h0 h1 hd hk hl
    obtain ⟨k, rfl⟩ : ∃ m, k = m + 1 := ⟨k - 1, by omega⟩
    simp only [impl_pagesOfBlock.l0]
    rw [if_neg (by omega), List.drop_eq_nil_of_le (by omega)]
    simp [allP]
  | succ d ih =>
    intro k acc i h0 h1 hd hk hl
    obtain ⟨k, rfl⟩ : ∃ m, k = m + 1 := ⟨k - 1, by omega⟩
    have hm : rd b i ∈ b := by rw [rd_lt h0 (by omega)]; exact List.getElem_mem _
    have pl := pg_len u (rd b i)
    simp only [impl_pagesOfBlock.l0]
    rw [if_pos (by omega), if_pos h0, if_pos (by omega), implPages_at u _ hu (hs _ hm) k (by omega)]
    simp only [Option.bind_some]
    rw [if_pos (by omega), wr (x := i + 1) (by omega) (by omega), ih k _ (i + 1) (by omega) (by omega) (by omega) (by omega) (by rw [List.length_append]; omega), drop_cons h0 (by omega)]
    simp [allP, List.flatMap_cons]
theorem specAll_ev (u : Int) (b : List Int) (hu : 0 ≤ u ∧ u ≤ 128) (hs : ∀ x ∈ b, -12 ≤ x ∧ x ≤ 12) (hb : b.length ≤ 1000) : Ev (fun k => spec_l28All.f k u b) (allP u b) :=
  Ev.at_ 1300 fun k hk => by
    unfold spec_l28All.f
    rw [specAll_l0 u b hu hs hb b.length k [] 0 (by omega) (by omega) (by omega) (by omega) (by simp)]
    simp
theorem implAll_ev (u : Int) (b : List Int) (hu : 0 ≤ u ∧ u ≤ 128) (hs : ∀ x ∈ b, -12 ≤ x ∧ x ≤ 12) (hb : b.length ≤ 1000) : Ev (fun k => impl_pagesOfBlock.f k u b) (allP u b) :=
  Ev.at_ 1300 fun k hk => by
    unfold impl_pagesOfBlock.f
    rw [implAll_l0 u b hu hs hb b.length k [] 0 (by omega) (by omega) (by omega) (by omega) (by simp)]
    simp
/-! ### the same lists -/
theorem same_l0 (xs ys : List Int) (hl : xs.length = ys.length) (hm : xs.length ≤ 9000000000000000000) : ∀ (d k : Nat) (i : Int), 0 ≤ i → i ≤ xs.length → (xs.length : Int) - i = d → d < k → spec_l01Same.l0 k xs ys i = some (decide (xs.drop i.toNat = ys.drop i.toNat)) := by
  intro d
  induction d with
  | zero =>
    intro k i h0 h1 hd hk
    obtain ⟨k, rfl⟩ : ∃ m, k = m + 1 := ⟨k - 1, by omega⟩
    simp only [spec_l01Same.l0]
    rw [if_neg (by omega), List.drop_eq_nil_of_le (by omega), List.drop_eq_nil_of_le (by omega)]
    simp
  | succ d ih =>
    intro k i h0 h1 hd hk
    obtain ⟨k, rfl⟩ : ∃ m, k = m + 1 := ⟨k - 1, by omega⟩
    simp only [spec_l01Same.l0]
    rw [if_pos (by omega), if_pos h0, if_pos (by omega), wr (by omega) (by omega), drop_cons h0 (by omega), drop_cons (xs := ys) h0 (by omega), ih k (i + 1) (by omega) (by omega) (by omega) (by omega)]
    by_cases e : rd xs i = rd ys i
    · simp [e]
    · simp [e]
theorem same_ev (xs ys : List Int) (hm : xs.length ≤ 9000000000000000000) : Ev (fun k => spec_l01Same.f k xs ys) (decide (xs = ys)) :=
  Ev.at_ (xs.length + 1) fun k hk => by
    unfold spec_l01Same.f
    by_cases hl : xs.length = ys.length
    · rw [if_pos (by omega), same_l0 xs ys hl hm xs.length k 0 (by omega) (by omega) (by omega) (by omega)]
      simp
    · rw [if_neg (by omega)]
      congr 1
      symm
      simp only [decide_eq_false_iff_not]
      intro h
      exact hl (by rw [h])
theorem equal_ev (xs ys : List Int) (hm : xs.length ≤ 9000000000000000000) : Ev (fun k => slices_Equal_int64_int64.f k xs ys) (decide (xs = ys)) := Ev.of (fun k => slices_Equal_int64_int64.mono _ _ k) (impl_ExplainBlock.equal_is xs ys (by omega))
/-! ### the block of pages -/
def sgI (u x : Int) : Int := if x < 0 then Int.tdiv x u else Int.tdiv (x - 1) u + 1
def sgS (n u x : Int) : Int := if 1 ≤ -x ∧ -x ≤ n * u then -(Int.tdiv (-x - 1) u + 1) else if 1 ≤ x ∧ x ≤ n * u then Int.tdiv (x - 1) u + 1 else 0
/-- Every u-th element from i on, turned by f. -/
def heads (f : Int → Int) (u : Nat) (xs : List Int) : Nat → Nat → List Int
  | 0, _ => []
  | m + 1, i => if i < xs.length then f (rd xs i) :: heads f u xs m (i + u) else []
def fin (n u : Int) (pages b : List Int) : List Int × Int := if blockB n b = true ∧ allP u b = pages then (b, 0) else ([], 4)

theorem heads_done (f : Int → Int) (u : Nat) (xs : List Int) (m i : Nat) (h : xs.length ≤ i) : heads f u xs m i = [] := by
  cases m with
  | zero => rfl
  | succ m => unfold heads; rw [if_neg (by omega)]
theorem heads_len (f : Int → Int) (u : Nat) (xs : List Int) : ∀ (m i : Nat), (heads f u xs m i).length ≤ m
  | 0, _ => by simp [heads]
  | m + 1, i => by
    unfold heads
    split
    · simp only [List.length_cons]
      have := heads_len f u xs m (i + u)
      omega
    · simp

/-- The end of either loop: is it a block, and are its pages those. -/
theorem finS_ev (n u : Int) (pages b : List Int) (hu : 0 ≤ u ∧ u ≤ 128) (hb : b.length ≤ 2000000) (hp : pages.length ≤ 2000000) :
    Ev (fun k => (spec_l14Fits.f k n b).bind fun t161 => (if t161 = true then ((spec_l28All.f k u b).bind fun t162 => ((spec_l01Same.f k t162 pages).bind fun t165 => (if t165 = true then (some (b, 0)) else (some (([] : List Int), 4))))) else (some (([] : List Int), 4)))) (fin n u pages b) := by
  refine Ev.go (specFits_ev n b (by omega)) ?_
  by_cases h : blockB n b = true
  · simp only [h, if_true]
    have hB := h
    unfold blockB at hB
    simp only [decide_eq_true_eq] at hB
    obtain ⟨h1, h2, h3, h4, h5⟩ := hB
    have hlen := allP_len u b
    have hpl : (allP u b).length ≤ 9000000000000000000 := by
      rw [hlen]
      have : b.length * u.toNat ≤ 24 * 128 := Nat.mul_le_mul (by omega) (by omega)
      omega
    refine Ev.go (specAll_ev u b hu (fun x hx => by have := h4 x hx; omega) (by omega)) ?_
    refine Ev.go (same_ev _ _ hpl) ?_
    by_cases e : allP u b = pages
    · simp only [e, decide_true, if_true]
      exact Ev.const (by unfold fin; rw [if_pos ⟨h, e⟩])
    · simp only [e, decide_false, Bool.false_eq_true, if_false]
      exact Ev.const (by unfold fin; rw [if_neg (fun hh => e hh.2)])
  · have h0 : blockB n b = false := by simpa using h
    simp only [h0, Bool.false_eq_true, if_false]
    exact Ev.const (by unfold fin; rw [if_neg (fun hh => h hh.1)])
theorem finI_ev (n u : Int) (pages b : List Int) (hu : 0 ≤ u ∧ u ≤ 128) (hb : b.length ≤ 2000000) (hp : pages.length ≤ 2000000) :
    Ev (fun k => (impl_isBlock.f k n b).bind fun t277 => (if t277 = true then ((impl_pagesOfBlock.f k u b).bind fun t278 => ((slices_Equal_int64_int64.f k t278 pages).bind fun t281 => (if t281 = true then (some (b, 0)) else (some (([] : List Int), 4))))) else (some (([] : List Int), 4)))) (fin n u pages b) := by
  refine Ev.go (implBlock_ev n b (by omega)) ?_
  by_cases h : blockB n b = true
  · simp only [h, if_true]
    have hB := h
    unfold blockB at hB
    simp only [decide_eq_true_eq] at hB
    obtain ⟨h1, h2, h3, h4, h5⟩ := hB
    have hlen := allP_len u b
    have hpl : (allP u b).length ≤ 9000000000000000000 := by
      rw [hlen]
      have : b.length * u.toNat ≤ 24 * 128 := Nat.mul_le_mul (by omega) (by omega)
      omega
    refine Ev.go (implAll_ev u b hu (fun x hx => by have := h4 x hx; omega) (by omega)) ?_
    refine Ev.go (equal_ev _ _ hpl) ?_
    by_cases e : allP u b = pages
    · simp only [e, decide_true, if_true]
      exact Ev.const (by unfold fin; rw [if_pos ⟨h, e⟩])
    · simp only [e, decide_false, Bool.false_eq_true, if_false]
      exact Ev.const (by unfold fin; rw [if_neg (fun hh => e hh.2)])
  · have h0 : blockB n b = false := by simpa using h
    simp only [h0, Bool.false_eq_true, if_false]
    exact Ev.const (by unfold fin; rw [if_neg (fun hh => h hh.1)])

theorem tdiv_bd {x u : Int} (hu : 4 ≤ u) (hx : -9223372036854775808 ≤ x ∧ x ≤ 9223372036854775807) : -2305843009213693952 ≤ Int.tdiv x u ∧ Int.tdiv x u ≤ 2305843009213693952 := by
  have key : ∀ y : Int, 0 ≤ y → y ≤ 9223372036854775808 → 0 ≤ Int.tdiv y u ∧ Int.tdiv y u ≤ 2305843009213693952 := by
    intro y h0 h1
    rw [Int.tdiv_eq_ediv_of_nonneg h0]
    refine ⟨Int.ediv_nonneg h0 (by omega), ?_⟩
    have h2 := Int.ediv_nonneg (a := y) (b := u) h0 (by omega)
    have h3 := Int.mul_ediv_self_le (x := y) (k := u) (by omega)
    have h4 : 4 * (y / u) ≤ u * (y / u) := Int.mul_le_mul_of_nonneg_right hu h2
    omega
  by_cases h : 0 ≤ x
  · have := key x h (by omega)
    omega
  · have h2 := key (-x) (by omega) (by omega)
    rw [Int.neg_tdiv] at h2
    omega
theorem implBlk_l0 (n u : Int) (pages : List Int) (hn : lineB n = true) (hu : unitB u = true) (hw : ∀ x ∈ pages, -9223372036854775808 ≤ x ∧ x ≤ 9223372036854775807) (hp : pages.length ≤ 1048576) : ∀ (m : Nat) (acc : List Int) (i : Nat), pages.length ≤ i + m → i ≤ pages.length + 128 → acc.length ≤ i →
    Ev (fun k => impl_blockOfPages.l0 k n u pages acc (i : Int)) (fin n u pages (acc ++ heads (sgI u) u.toNat pages m i)) := by
  have hu' := hu
  unfold unitB at hu'
  simp only [decide_eq_true_eq] at hu'
  have hub : 4 ≤ u ∧ u ≤ 128 := by omega
  intro m
  induction m with
  | zero =>
    intro acc i h1 h2 h3
    refine Ev.step (f := fun k => (impl_isBlock.f k n acc).bind fun t277 => (if t277 = true then ((impl_pagesOfBlock.f k u acc).bind fun t278 => ((slices_Equal_int64_int64.f k t278 pages).bind fun t281 => (if t281 = true then (some (acc, 0)) else (some (([] : List Int), 4))))) else (some (([] : List Int), 4)))) (fun k => ?_) ?_
    · simp only [impl_blockOfPages.l0]
      rw [if_neg (by omega)]
    · have := finI_ev n u pages acc ⟨by omega, by omega⟩ (by omega) (by omega)
      simpa [heads] using this
  | succ m ih =>
    intro acc i h1 h2 h3
    by_cases hi : i < pages.length
    · have hx : -9223372036854775808 ≤ rd pages (i : Int) ∧ rd pages (i : Int) ≤ 9223372036854775807 := hw _ (by rw [rd_lt (by omega) (by omega)]; exact List.getElem_mem _)
      have ei : wrap64 ((i : Int) + u) = ((i + u.toNat : Nat) : Int) := by rw [wr (by omega) (by omega)]; omega
      have ih' := ih (acc ++ [sgI u (rd pages i)]) (i + u.toNat) (by omega) (by omega) (by simp; omega)
      have eh : acc ++ heads (sgI u) u.toNat pages (m + 1) i = acc ++ [sgI u (rd pages i)] ++ heads (sgI u) u.toNat pages m (i + u.toNat) := by
        conv => lhs; unfold heads
        rw [if_pos hi]
        simp
      rw [eh]
      refine Ev.step (f := fun k => impl_blockOfPages.l0 k n u pages (acc ++ [sgI u (rd pages i)]) ((i + u.toNat : Nat) : Int)) (fun k => ?_) ih'
      simp only [impl_blockOfPages.l0]
      rw [if_pos (by omega), if_pos (by omega), if_neg (show ¬ u = 0 by omega), ei]
      by_cases hneg : rd pages (i : Int) < 0
      · have e : wrap64 (Int.tdiv (rd pages (i : Int)) u) = sgI u (rd pages i) := by
          have := tdiv_bd hub.1 hx
          rw [wr (by omega) (by omega)]
          unfold sgI
          rw [if_pos hneg]
        rw [if_pos hneg, if_pos (by omega), e]
      · have e : wrap64 ((wrap64 (Int.tdiv (wrap64 ((rd pages (i : Int)) - 1)) u)) + 1) = sgI u (rd pages i) := by
          rw [wr (x := rd pages (i : Int) - 1) (by omega) (by omega)]
          have := tdiv_bd (x := rd pages (i : Int) - 1) hub.1 ⟨by omega, by omega⟩
          rw [wr (x := Int.tdiv (rd pages (i : Int) - 1) u) (by omega) (by omega), wr (by omega) (by omega)]
          unfold sgI
          rw [if_neg hneg]
        rw [if_neg hneg, if_pos (by omega), e]
    · rw [heads_done _ _ _ _ _ (by omega), List.append_nil]
      refine Ev.step (f := fun k => (impl_isBlock.f k n acc).bind fun t277 => (if t277 = true then ((impl_pagesOfBlock.f k u acc).bind fun t278 => ((slices_Equal_int64_int64.f k t278 pages).bind fun t281 => (if t281 = true then (some (acc, 0)) else (some (([] : List Int), 4))))) else (some (([] : List Int), 4)))) (fun k => ?_) (finI_ev n u pages acc ⟨by omega, by omega⟩ (by omega) (by omega))
      simp only [impl_blockOfPages.l0]
      rw [if_neg (by omega)]
theorem specBlk_l0 (n u : Int) (pages : List Int) (hn : lineB n = true) (hu : unitB u = true) (hw : ∀ x ∈ pages, -9223372036854775808 ≤ x ∧ x ≤ 9223372036854775807) (hp : pages.length ≤ 1048576) : ∀ (m : Nat) (acc : List Int) (i : Nat), pages.length ≤ i + m → i ≤ pages.length + 128 → acc.length ≤ i →
    Ev (fun k => spec_l28Block.l0 k n u pages acc (i : Int)) (fin n u pages (acc ++ heads (sgS n u) u.toNat pages m i)) := by
  have hu' := hu
  unfold unitB at hu'
  simp only [decide_eq_true_eq] at hu'
  have hub : 4 ≤ u ∧ u ≤ 128 := by omega
  have hn' : 1 ≤ n ∧ n ≤ 12 := by simpa [lineB] using hn
  have hnu := mul_bd (s := n) (u := u) ⟨by omega, by omega⟩ ⟨by omega, by omega⟩
  intro m
  induction m with
  | zero =>
    intro acc i h1 h2 h3
    refine Ev.step (f := fun k => (spec_l14Fits.f k n acc).bind fun t161 => (if t161 = true then ((spec_l28All.f k u acc).bind fun t162 => ((spec_l01Same.f k t162 pages).bind fun t165 => (if t165 = true then (some (acc, 0)) else (some (([] : List Int), 4))))) else (some (([] : List Int), 4)))) (fun k => ?_) ?_
    · simp only [spec_l28Block.l0]
      rw [if_neg (by omega)]
    · have := finS_ev n u pages acc ⟨by omega, by omega⟩ (by omega) (by omega)
      simpa [heads] using this
  | succ m ih =>
    intro acc i h1 h2 h3
    by_cases hi : i < pages.length
    · have hx : -9223372036854775808 ≤ rd pages (i : Int) ∧ rd pages (i : Int) ≤ 9223372036854775807 := hw _ (by rw [rd_lt (by omega) (by omega)]; exact List.getElem_mem _)
      have ei : wrap64 ((i : Int) + u) = ((i + u.toNat : Nat) : Int) := by rw [wr (by omega) (by omega)]; omega
      have ih' := ih (acc ++ [sgS n u (rd pages i)]) (i + u.toNat) (by omega) (by omega) (by simp; omega)
      have eh : acc ++ heads (sgS n u) u.toNat pages (m + 1) i = acc ++ [sgS n u (rd pages i)] ++ heads (sgS n u) u.toNat pages m (i + u.toNat) := by
        conv => lhs; unfold heads
        rw [if_pos hi]
        simp
      rw [eh]
      refine Ev.step (f := fun k => spec_l28Block.l0 k n u pages (acc ++ [sgS n u (rd pages i)]) ((i + u.toNat : Nat) : Int)) (fun k => ?_) ih'
      obtain ⟨x, hxx⟩ : ∃ x, rd pages (i : Int) = x := ⟨_, rfl⟩
      simp only [spec_l28Block.l0]
      rw [if_pos (by omega), if_pos (by omega), wr (x := n * u) (by omega) (by omega), hxx, ei]
      rw [hxx] at hx
      have hneg : decide (1 ≤ wrap64 (-x) ∧ wrap64 (-x) ≤ n * u) = decide (1 ≤ -x ∧ -x ≤ n * u) := by
        rw [decide_eq_decide]
        unfold wrap64
        omega
      rw [l01In_is, l01In_is, hneg]
      simp only [Option.bind_some]
      have d1 := tdiv_bd (x := x - 1) hub.1
      have d2 := tdiv_bd (x := -x - 1) hub.1
      by_cases c1 : 1 ≤ x ∧ x ≤ n * u
      · have c2 : ¬ (1 ≤ -x ∧ -x ≤ n * u) := by omega
        have d1' := d1 ⟨by omega, by omega⟩
        simp only [c1, c2, and_self, decide_true, decide_false, if_true, if_false, Bool.false_eq_true]
        rw [if_neg (show ¬ u = 0 by omega), if_pos (by omega), wr (x := x - 1) (by omega) (by omega), wr (x := Int.tdiv (x - 1) u) (by omega) (by omega), wr (x := Int.tdiv (x - 1) u + 1) (by omega) (by omega)]
        unfold sgS
        rw [if_neg c2, if_pos c1]
      · by_cases c2 : 1 ≤ -x ∧ -x ≤ n * u
        · have d2' := d2 ⟨by omega, by omega⟩
          simp only [c1, c2, and_self, decide_true, decide_false, if_true, if_false, Bool.false_eq_true]
          rw [if_neg (show ¬ u = 0 by omega), if_pos (by omega), wr (x := -x) (by omega) (by omega), wr (x := -x - 1) (by omega) (by omega), wr (x := Int.tdiv (-x - 1) u) (by omega) (by omega), wr (x := Int.tdiv (-x - 1) u + 1) (by omega) (by omega), wr (x := -(Int.tdiv (-x - 1) u + 1)) (by omega) (by omega)]
          unfold sgS
          rw [if_pos c2]
        · simp only [c1, c2, decide_false, if_false, Bool.false_eq_true]
          rw [if_pos (by omega)]
          unfold sgS
          rw [if_neg c2, if_neg c1]
    · rw [heads_done _ _ _ _ _ (by omega), List.append_nil]
      refine Ev.step (f := fun k => (spec_l14Fits.f k n acc).bind fun t161 => (if t161 = true then ((spec_l28All.f k u acc).bind fun t162 => ((spec_l01Same.f k t162 pages).bind fun t165 => (if t165 = true then (some (acc, 0)) else (some (([] : List Int), 4))))) else (some (([] : List Int), 4)))) (fun k => ?_) (finS_ev n u pages acc ⟨by omega, by omega⟩ (by omega) (by omega))
      simp only [spec_l28Block.l0]
      rw [if_neg (by omega)]

theorem heads_all (f : Int → Int) (u : Int) (hu : 4 ≤ u) : ∀ (b : List Int) (m i : Nat) (xs : List Int), xs.drop i = allP u b → b.length ≤ m → (∀ s ∈ b, f (pgAt u s 0) = s) → heads f u.toNat xs m i = b := by
  intro b
  induction b with
  | nil =>
    intro m i xs h1 _ _
    have : xs.length ≤ i := by
      have := congrArg List.length h1
      simp [allP] at this
      omega
    exact heads_done _ _ _ _ _ this
  | cons s r ih =>
    intro m i xs h1 h2 h3
    obtain ⟨m, rfl⟩ : ∃ m', m = m' + 1 := ⟨m - 1, by simp at h2; omega⟩
    have pl := pg_len u s
    have e1 : xs.drop i = pg u s ++ allP u r := h1
    have hlen : i < xs.length := by
      have := congrArg List.length e1
      simp only [List.length_drop, List.length_append, pl] at this
      omega
    have hr : rd xs (i : Int) = pgAt u s 0 := by
      have h5 := drop_cons (xs := xs) (i := (i : Int)) (by omega) (by omega)
      rw [Int.toNat_natCast, e1] at h5
      have h6 : (pg u s ++ allP u r).head? = some (rd xs i) := by rw [h5]; rfl
      unfold pg at h6
      rw [List.range_eq_range', show u.toNat = (u.toNat - 1) + 1 by omega, List.range'_succ] at h6
      simp at h6
      exact h6.symm
    unfold heads
    rw [if_pos hlen, hr, h3 s (by simp)]
    congr 1
    refine ih m (i + u.toNat) xs ?_ (by simpa using h2) (fun x hx => h3 x (by simp [hx]))
    rw [← List.drop_drop, e1]
    have := List.drop_left (l₁ := pg u s) (l₂ := allP u r)
    rw [pl] at this
    exact this
theorem sgI_first (u s : Int) (hu : 4 ≤ u ∧ u ≤ 128) (hs : -12 ≤ s ∧ s ≤ 12 ∧ s ≠ 0) : sgI u (pgAt u s 0) = s := by
  have b := mul_bd (s := s) (u := u) ⟨by omega, by omega⟩ ⟨by omega, by omega⟩
  have b2 := mul_bd (s := s - 1) (u := u) 
  unfold sgI pgAt
  by_cases h : s > 0
  · have h0 : 0 ≤ (s - 1) * u := Int.mul_nonneg (by omega) (by omega)
    rw [if_pos h, if_neg (by omega)]
    have e : (s - 1) * u + ((0 : Nat) : Int) + 1 - 1 = (s - 1) * u := by omega
    rw [e, Int.mul_tdiv_cancel _ (by omega)]
    omega
  · have h0 : s * u < 0 := Int.mul_neg_of_neg_of_pos (by omega) (by omega)
    rw [if_neg h, if_pos (by omega)]
    have e : s * u + ((0 : Nat) : Int) = s * u := by omega
    rw [e, Int.mul_tdiv_cancel _ (by omega)]
theorem sgS_first (n u s : Int) (hu : 4 ≤ u ∧ u ≤ 128) (hn : 1 ≤ n ∧ n ≤ 12) (hs : -n ≤ s ∧ s ≤ n ∧ s ≠ 0) : sgS n u (pgAt u s 0) = s := by
  unfold sgS pgAt
  by_cases h : s > 0
  · have h0 : 0 ≤ (s - 1) * u := Int.mul_nonneg (by omega) (by omega)
    have h1 : (s - 1) * u ≤ (n - 1) * u := Int.mul_le_mul_of_nonneg_right (by omega) (by omega)
    have h2 : (n - 1) * u = n * u - u := by rw [Int.sub_mul]; omega
    rw [if_pos h, if_neg (by omega), if_pos (by omega)]
    have e : (s - 1) * u + ((0 : Nat) : Int) + 1 - 1 = (s - 1) * u := by omega
    rw [e, Int.mul_tdiv_cancel _ (by omega)]
    omega
  · have h0 : u ≤ (-s) * u := by
      have := Int.mul_le_mul_of_nonneg_right (show 1 ≤ -s by omega) (show (0 : Int) ≤ u by omega)
      omega
    have h1 : (-s) * u ≤ n * u := Int.mul_le_mul_of_nonneg_right (by omega) (by omega)
    have h3 : (-s) * u = -(s * u) := by rw [Int.neg_mul]
    rw [if_neg h, if_pos (by omega)]
    have e : -(s * u + ((0 : Nat) : Int)) - 1 = (u - 1) + (-s - 1) * u := by
      rw [Int.sub_mul, Int.neg_mul]; omega
    have h4 : 0 ≤ (-s - 1) * u := Int.mul_nonneg (by omega) (by omega)
    rw [e, Int.tdiv_eq_ediv_of_nonneg (by omega), Int.add_mul_ediv_right _ _ (by omega), Int.ediv_eq_zero_of_lt (by omega) (by omega)]
    omega
theorem block_parts {n : Int} {b : List Int} (h : blockB n b = true) : 1 ≤ n ∧ n ≤ 12 ∧ (b.length : Int) ≤ 2 * n ∧ ∀ s ∈ b, -n ≤ s ∧ s ≤ n ∧ s ≠ 0 := by
  unfold blockB at h
  simp only [decide_eq_true_eq] at h
  obtain ⟨h1, h2, h3, h4, h5⟩ := h
  exact ⟨h1, h2, h3, fun s hs => ⟨(h4 s hs).1, (h4 s hs).2, fun e => h5 (e ▸ hs)⟩⟩
/-- What either program tells of pages: the block, or code 4. -/
def blk (n u : Int) (pages : List Int) : List Int × Int := fin n u pages (heads (sgS n u) u.toNat pages pages.length 0)
theorem heads_fit {f : Int → Int} {n u : Int} {pages b : List Int} (hu : 4 ≤ u ∧ u ≤ 128) (hb : blockB n b = true) (ha : allP u b = pages) (hf : ∀ s, -n ≤ s ∧ s ≤ n ∧ s ≠ 0 → f (pgAt u s 0) = s) : heads f u.toNat pages pages.length 0 = b := by
  obtain ⟨h1, h2, h3, h4⟩ := block_parts hb
  refine heads_all f u hu.1 b pages.length 0 pages (by simp [ha]) ?_ (fun s hs => hf s (h4 s hs))
  rw [← ha, allP_len]
  exact Nat.le_mul_of_pos_right _ (by omega)
theorem blk_len {n u : Int} {pages b : List Int} (hu : 4 ≤ u ∧ u ≤ 128) (hb : blockB n b = true) (ha : allP u b = pages) : Int.tmod (pages.length : Int) u = 0 ∧ (pages.length : Int) ≤ 2 * n * u := by
  obtain ⟨h1, h2, h3, h4⟩ := block_parts hb
  have e : (pages.length : Int) = (b.length : Int) * u := by
    rw [← ha, allP_len, Int.natCast_mul]
    congr 1
    omega
  rw [e]
  exact ⟨Int.mul_tmod_left _ _, Int.mul_le_mul_of_nonneg_right h3 (by omega)⟩
theorem blk_impl (n u : Int) (pages : List Int) (hu : 4 ≤ u ∧ u ≤ 128) : fin n u pages (heads (sgI u) u.toNat pages pages.length 0) = blk n u pages := by
  unfold blk
  by_cases h : blockB n (heads (sgI u) u.toNat pages pages.length 0) = true ∧ allP u (heads (sgI u) u.toNat pages pages.length 0) = pages
  · obtain ⟨h1, h2⟩ := h
    obtain ⟨n1, n2, _, _⟩ := block_parts h1
    have e := heads_fit (f := sgS n u) hu h1 h2 (fun s hs => sgS_first n u s hu ⟨n1, n2⟩ hs)
    rw [e]
  · by_cases h' : blockB n (heads (sgS n u) u.toNat pages pages.length 0) = true ∧ allP u (heads (sgS n u) u.toNat pages pages.length 0) = pages
    · obtain ⟨h1, h2⟩ := h'
      obtain ⟨n1, n2, _, _⟩ := block_parts h1
      have e := heads_fit (f := sgI u) hu h1 h2 (fun s hs => sgI_first u s hu ⟨by omega, by omega, hs.2.2⟩)
      rw [e]
    · unfold fin
      rw [if_neg h, if_neg h']
/-- The code of a line and a unit, then the block of pages. -/
def blkAll (n u : Int) (pages : List Int) : List Int × Int := if lineB n = true ∧ unitB u = true then blk n u pages else ([], 2)
theorem specBlock_ev (n u : Int) (pages : List Int) (hw : ∀ x ∈ pages, -9223372036854775808 ≤ x ∧ x ≤ 9223372036854775807) (hp : pages.length ≤ 1048576) : Ev (fun k => spec_l28Block.f k n u pages) (blkAll n u pages) := by
  unfold spec_l28Block.f
  refine Ev.go (a := decide (lineB n = true ∧ unitB u = true)) ?_ ?_
  · unfold spec_l28Fits.f
    rw [l01In_is]
    simp only [Option.bind_some]
    by_cases h : 1 ≤ n ∧ n ≤ 12
    · simp only [h, and_self, decide_true, if_true]
      refine Ev.go (specUnit_ev u) (Ev.const ?_)
      simp [lineB, h]
    · simp only [h, decide_false, Bool.false_eq_true, if_false]
      exact Ev.const (by simp [lineB, h])
  · by_cases h : lineB n = true ∧ unitB u = true
    · simp only [h, and_self, decide_true, if_true]
      unfold blkAll
      rw [if_pos h]
      have := specBlk_l0 n u pages h.1 h.2 hw hp pages.length [] 0 (by omega) (by omega) (by simp)
      simpa [blk] using this
    · simp only [h, decide_false, Bool.false_eq_true, if_false]
      exact Ev.const (by unfold blkAll; rw [if_neg h])
theorem implBlock2_ev (n u : Int) (pages : List Int) (hw : ∀ x ∈ pages, -9223372036854775808 ≤ x ∧ x ≤ 9223372036854775807) (hp : pages.length ≤ 1048576) : Ev (fun k => impl_blockOfPages.f k n u pages) (blkAll n u pages) := by
  unfold impl_blockOfPages.f impl_isUnitLine.f
  rw [implLine_is, implUnit_is]
  simp only [Option.bind_some, impl_length_int64.f]
  by_cases h : lineB n = true ∧ unitB u = true
  · obtain ⟨h1, h2⟩ := h
    simp only [h1, h2, if_true, Option.bind_some]
    unfold blkAll
    rw [if_pos ⟨h1, h2⟩]
    have hu' := h2
    unfold unitB at hu'
    simp only [decide_eq_true_eq] at hu'
    have hub : 4 ≤ u ∧ u ≤ 128 := by omega
    have hn' : 1 ≤ n ∧ n ≤ 12 := by simpa [lineB] using h1
    have hnu := mul_bd (s := n) (u := u) ⟨by omega, by omega⟩ ⟨by omega, by omega⟩
    have e2 : wrap64 (wrap64 (2 * n) * u) = 2 * n * u := by
      rw [wr (x := 2 * n) (by omega) (by omega), Int.mul_assoc, wr (by omega) (by omega)]
    rw [e2]
    have u0 : ¬ u = 0 := by omega
    simp only [u0, if_false]
    by_cases c1 : Int.tmod (pages.length : Int) u = 0
    · simp only [c1, if_true]
      by_cases c2 : (pages.length : Int) > 2 * n * u
      · simp only [c2, if_true]
        refine Ev.const ?_
        unfold blk fin
        rw [if_neg (fun hh => by have := (blk_len hub hh.1 hh.2).2; omega)]
      · simp only [c2, if_false]
        rw [← blk_impl n u pages hub]
        have := implBlk_l0 n u pages h1 h2 hw hp pages.length [] 0 (by omega) (by omega) (by simp)
        simpa using this
    · simp only [c1, if_false]
      refine Ev.const ?_
      unfold blk fin
      rw [if_neg (fun hh => c1 (blk_len hub hh.1 hh.2).1)]
  · have h0 : (if lineB n = true then some (unitB u) else some false) = some false := by
      by_cases h1 : lineB n = true
      · rw [if_pos h1]
        have : unitB u = false := by
          cases hh : unitB u with
          | false => rfl
          | true => exact absurd ⟨h1, hh⟩ h
        rw [this]
      · rw [if_neg h1]
    rw [h0]
    simp only [Option.bind_some, Bool.false_eq_true, if_false]
    exact Ev.const (by unfold blkAll; rw [if_neg h])

/-! ### the explanation -/
/-- One kind at a station: what is left of the block, or nothing. -/
def restK (s : Int) (k : Nat) (bl : List Int) : Option (List Int) :=
  if (k : Int) = 4 then (match bl with
    | [] => none
    | x :: r => if 0 < x ∧ x ≠ s + 1 then some r else none)
  else let l := impl_ExplainBlock.lf s k 0
    if l.length ≤ bl.length ∧ l = bl.take l.length then some (bl.drop l.length) else none
def kindsN (l : List Int) : Int := (l.map fun x => mn 1 x).sum
/-- The better of the best till now and a candidate. -/
def better (best : Option (List Int)) (c : Option (List Int)) : Option (List Int) := match c with
  | none => best
  | some l => match best with
    | none => some l
    | some b => if kindsN l < kindsN b then some l else some b
def ex : Nat → Int → List Int → Option (List Int)
  | 0, _, bl => if bl = [] then some [] else none
  | d + 1, s, bl => (List.range 5).foldl (fun best k => better best ((restK s k bl).bind fun r => (ex d (s + 1) r).map fun l => (k : Int) :: l)) none


/-! ### what an explanation is like -/
def OkL (d : Nat) (l : List Int) : Prop := l.length = d ∧ ∀ x ∈ l, 0 ≤ x ∧ x ≤ 4
def OkB (d : Nat) (o : Option (List Int)) : Prop := ∀ l, o = some l → OkL d l
theorem better_cases (b c : Option (List Int)) : better b c = b ∨ better b c = c := by
  unfold better
  cases c with
  | none => exact .inl rfl
  | some l =>
    cases b with
    | none => exact .inr rfl
    | some b =>
      simp only
      split
      · exact .inr rfl
      · exact .inl rfl
theorem OkB.better {d : Nat} {b c : Option (List Int)} (hb : OkB d b) (hc : OkB d c) : OkB d (better b c) := by
  rcases better_cases b c with h | h <;> rw [h]
  · exact hb
  · exact hc
def cand (d : Nat) (s : Int) (bl : List Int) (k : Nat) : Option (List Int) := (restK s k bl).bind fun r => (ex d (s + 1) r).map fun l => (k : Int) :: l
theorem ex_succ (d : Nat) (s : Int) (bl : List Int) : ex (d + 1) s bl = (List.range 5).foldl (fun best k => better best (cand d s bl k)) none := rfl
theorem fold_ok {d : Nat} (f : Nat → Option (List Int)) : ∀ (ks : List Nat) (b : Option (List Int)), OkB d b → (∀ k ∈ ks, OkB d (f k)) → OkB d (ks.foldl (fun best k => better best (f k)) b)
  | [], b, hb, _ => hb
  | k :: r, b, hb, hf => fold_ok f r _ (hb.better (hf k (by simp))) (fun k' hk => hf k' (by simp [hk]))
theorem ex_ok : ∀ (d : Nat) (s : Int) (bl : List Int), OkB d (ex d s bl)
  | 0, s, bl => by
    intro l h
    unfold ex at h
    split at h
    · injection h with h; subst h; exact ⟨rfl, by simp⟩
    · cases h
  | d + 1, s, bl => by
    rw [ex_succ]
    refine fold_ok _ _ _ (fun l h => by cases h) (fun k hk l h => ?_)
    unfold cand at h
    obtain ⟨r, _, h⟩ := Option.bind_eq_some_iff.1 h
    obtain ⟨l', hl', rfl⟩ := Option.map_eq_some_iff.1 h
    have := ex_ok d (s + 1) r l' hl'
    simp only [List.mem_range] at hk
    refine ⟨by simp [this.1], fun x hx => ?_⟩
    rcases List.mem_cons.1 hx with rfl | hx
    · omega
    · exact this.2 x hx
theorem cand_ok {d : Nat} {s : Int} {bl : List Int} {k : Nat} (hk : k < 5) : OkB (d + 1) (cand d s bl k) := by
  intro l h
  unfold cand at h
  obtain ⟨r, _, h⟩ := Option.bind_eq_some_iff.1 h
  obtain ⟨l', hl', rfl⟩ := Option.map_eq_some_iff.1 h
  have := ex_ok d (s + 1) r l' hl'
  refine ⟨by simp [this.1], fun x hx => ?_⟩
  rcases List.mem_cons.1 hx with rfl | hx
  · omega
  · exact this.2 x hx
theorem fold_some (f : Nat → Option (List Int)) : ∀ (ks : List Nat) (b : Option (List Int)) (l : List Int), ks.foldl (fun best k => better best (f k)) b = some l → b = some l ∨ ∃ k ∈ ks, f k = some l
  | [], b, l, h => .inl h
  | k :: r, b, l, h => by
    rcases fold_some f r _ l h with h | ⟨k', hk, h⟩
    · rcases better_cases b (f k) with e | e
      · exact .inl (e ▸ h)
      · exact .inr ⟨k, by simp, e ▸ h⟩
    · exact .inr ⟨k', by simp [hk], h⟩
theorem rest_len {s : Int} {k : Nat} {bl r : List Int} (h : restK s k bl = some r) : bl.length ≤ r.length + 2 := by
  unfold restK at h
  split at h
  · cases bl with
    | nil => simp
    | cons x t =>
      simp only at h
      split at h
      · injection h with h; subst h; simp
      · cases h
  · simp only at h
    split at h
    · injection h with h
      subst h
      have := impl_ExplainBlock.lf_len s k 0
      simp
      omega
    · cases h
/-- A block that is too long has none. -/
theorem ex_len : ∀ (d : Nat) (s : Int) (bl l : List Int), ex d s bl = some l → bl.length ≤ 2 * d
  | 0, s, bl, l, h => by
    unfold ex at h
    split at h
    · rename_i e; simp [e]
    · cases h
  | d + 1, s, bl, l, h => by
    rw [ex_succ] at h
    rcases fold_some _ _ _ _ h with h | ⟨k, _, h⟩
    · cases h
    · unfold cand at h
      obtain ⟨r, hr, h⟩ := Option.bind_eq_some_iff.1 h
      obtain ⟨l', hl', _⟩ := Option.map_eq_some_iff.1 h
      have h1 := ex_len d (s + 1) r l' hl'
      have h2 := rest_len hr
      omega

/-! ### the reference's explanation -/
theorem kindsN_bd : ∀ (l : List Int), (∀ x ∈ l, 0 ≤ x ∧ x ≤ 4) → 0 ≤ kindsN l ∧ kindsN l ≤ l.length
  | [], _ => by simp [kindsN]
  | x :: r, h => by
    have h1 := kindsN_bd r (fun y hy => h y (by simp [hy]))
    have h2 := h x (by simp)
    unfold kindsN at h1 ⊢
    simp only [List.map_cons, List.sum_cons, List.length_cons]
    have : 0 ≤ mn 1 x ∧ mn 1 x ≤ 1 := by unfold mn; split <;> omega
    omega
theorem kinds_l0 (xs : List Int) (hx : ∀ x ∈ xs, 0 ≤ x ∧ x ≤ 4) (hm : xs.length ≤ 1000) : ∀ (d k : Nat) (a i : Int), 0 ≤ i → i ≤ xs.length → (xs.length : Int) - i = d → d < k → 0 ≤ a → a ≤ i → spec_l14Kinds.l0 k xs a i = some (a + kindsN (xs.drop i.toNat)) := by
  intro d
  induction d with
  | zero =>
    intro k a i h0 h1 hd hk _ _
    obtain ⟨k, rfl⟩ : ∃ m, k = m + 1 := ⟨k - 1, by omega⟩
    simp only [spec_l14Kinds.l0]
    rw [if_neg (by omega), List.drop_eq_nil_of_le (by omega)]
    simp [kindsN]
  | succ d ih =>
    intro k a i h0 h1 hd hk ha0 ha1
    obtain ⟨k, rfl⟩ : ∃ m, k = m + 1 := ⟨k - 1, by omega⟩
    have hr := hx (rd xs i) (by rw [rd_lt h0 (by omega)]; exact List.getElem_mem _)
    have hm1 : 0 ≤ mn 1 (rd xs i) ∧ mn 1 (rd xs i) ≤ 1 := by unfold mn; split <;> omega
    simp only [spec_l14Kinds.l0]
    rw [if_pos (by omega), if_pos h0, wr (x := i + 1) (by omega) (by omega), wr (x := a + mn 1 (rd xs i)) (by omega) (by omega), drop_cons h0 (by omega), ih k _ (i + 1) (by omega) (by omega) (by omega) (by omega) (by omega) (by omega)]
    unfold kindsN
    simp only [List.map_cons, List.sum_cons]
    congr 1
    omega
theorem kinds_ev (xs : List Int) (hx : ∀ x ∈ xs, 0 ≤ x ∧ x ≤ 4) (hm : xs.length ≤ 1000) : Ev (fun k => spec_l14Kinds.f k xs) (kindsN xs) :=
  Ev.at_ (xs.length + 1) fun k hk => by
    unfold spec_l14Kinds.f
    rw [kinds_l0 xs hx hm xs.length k 0 0 (by omega) (by omega) (by omega) (by omega) (by omega) (by omega)]
    simp
def pr (o : Option (List Int)) : List Int × Bool := (o.getD [], o.isSome)
theorem part_is (s : Int) (k : Nat) (hs : 0 ≤ s ∧ s ≤ 12) : spec_l14Part.f s k 0 = some (impl_ExplainBlock.lf s k 0) := impl_ExplainBlock.lf_is s k 0 hs (by omega)

section
variable (n s : Int) (bl : List Int) (d : Nat) (hn : n ≤ 12) (hs : 0 ≤ s) (hd : n - s = ((d + 1 : Nat) : Int)) (hl : bl.length ≤ 24)
  (ihd : ∀ r : List Int, r.length ≤ 24 → Ev (fun k => spec_l14Explain.f k n (s + 1) r) (pr (ex d (s + 1) r)))
include hn hs hd hl ihd
theorem spec_j3 (j : Nat) (hj : j < 5) (part : List Int) (hp : part.length ≤ bl.length) (F : Option (List Int) → Option (List Int)) (hF : ∀ b, OkB (d + 1) b → Ev (fun k => spec_l14Explain.l0 k n s bl (b.getD []) b.isSome ((j : Int) + 1)) (pr (F b)))
    (best : Option (List Int)) (hb : OkB (d + 1) best) : Ev (fun k => spec_l14Explain.j3 k n s bl (best.getD []) best.isSome j part false) (pr (F (better best ((ex d (s + 1) (bl.drop part.length)).map fun l => (j : Int) :: l)))) := by
  have ew : wrap64 (s + 1) = s + 1 := wr (by omega) (by omega)
  have ej : wrap64 ((j : Int) + 1) = (j : Int) + 1 := wr (by omega) (by omega)
  cases hex : ex d (s + 1) (bl.drop part.length) with
  | none =>
    have h1 := ihd (bl.drop part.length) (by simp; omega)
    rw [hex] at h1
    have key : Ev (fun k => (spec_l14Explain.f k n (s + 1) (bl.drop part.length)).bind fun bt200 => (if bt200.2 = true then ((some (([(j : Int)] : List Int) : List Int)).bind fun y204 => (if y204.length + bt200.1.length < 17592186044416 then ((some (y204 ++ bt200.1 : List Int)).bind fun y207 => (if best.isSome = true then ((spec_l14Kinds.f k y207).bind fun t210 => ((spec_l14Kinds.f k (best.getD [])).bind fun t211 => (if t210 < t211 then (spec_l14Explain.l0 k n s bl y207 true ((j : Int) + 1)) else (spec_l14Explain.l0 k n s bl (best.getD []) best.isSome ((j : Int) + 1))))) else (spec_l14Explain.l0 k n s bl y207 true ((j : Int) + 1)))) else (none))) else (spec_l14Explain.l0 k n s bl (best.getD []) best.isSome ((j : Int) + 1)))) (pr (F best)) := by
      refine Ev.go h1 ?_
      simp only [pr, Option.isSome_none, Bool.false_eq_true, if_false]
      exact hF best hb
    refine Ev.step (fun k => ?_) key
    simp only [spec_l14Explain.j3]
    rw [if_neg (by decide), if_pos (by omega), if_pos (by omega), ew, ej]
    rfl
  | some l =>
    have h1 := ihd (bl.drop part.length) (by simp; omega)
    rw [hex] at h1
    have okl := ex_ok d (s + 1) _ l hex
    have okc : OkL (d + 1) ((j : Int) :: l) := ⟨by simp [okl.1], fun x hx => by
      rcases List.mem_cons.1 hx with rfl | hx
      · omega
      · exact okl.2 x hx⟩
    have hfc := hF (some ((j : Int) :: l)) (fun l' e => by injection e with e; exact e ▸ okc)
    have key : Ev (fun k => (spec_l14Explain.f k n (s + 1) (bl.drop part.length)).bind fun bt200 => (if bt200.2 = true then ((some (([(j : Int)] : List Int) : List Int)).bind fun y204 => (if y204.length + bt200.1.length < 17592186044416 then ((some (y204 ++ bt200.1 : List Int)).bind fun y207 => (if best.isSome = true then ((spec_l14Kinds.f k y207).bind fun t210 => ((spec_l14Kinds.f k (best.getD [])).bind fun t211 => (if t210 < t211 then (spec_l14Explain.l0 k n s bl y207 true ((j : Int) + 1)) else (spec_l14Explain.l0 k n s bl (best.getD []) best.isSome ((j : Int) + 1))))) else (spec_l14Explain.l0 k n s bl y207 true ((j : Int) + 1)))) else (none))) else (spec_l14Explain.l0 k n s bl (best.getD []) best.isSome ((j : Int) + 1)))) (pr (F (better best (some ((j : Int) :: l))))) := by
      refine Ev.go h1 ?_
      simp only [pr, Option.isSome_some, if_true, Option.getD_some, Option.bind_some]
      have hlen : ([(j : Int)] : List Int).length + l.length < 17592186044416 := by simp [okl.1]; omega
      simp only [hlen, if_true, List.cons_append, List.nil_append]
      cases best with
      | none =>
        simp only [Option.isSome_none, Bool.false_eq_true, if_false]
        exact hfc
      | some b =>
        have okb := hb b rfl
        simp only [Option.isSome_some, if_true, Option.getD_some]
        refine Ev.go (kinds_ev _ okc.2 (by rw [okc.1]; omega)) ?_
        refine Ev.go (kinds_ev _ okb.2 (by rw [okb.1]; omega)) ?_
        by_cases hlt : kindsN ((j : Int) :: l) < kindsN b
        · simp only [hlt, if_true]
          have e : better (some b) (some ((j : Int) :: l)) = some ((j : Int) :: l) := by simp [better, hlt]
          rw [e]
          exact hfc
        · simp only [hlt, if_false]
          have e : better (some b) (some ((j : Int) :: l)) = some b := by simp [better, hlt]
          rw [e]
          exact hF (some b) hb
    refine Ev.step (fun k => ?_) key
    simp only [spec_l14Explain.j3]
    rw [if_neg (by decide), if_pos (by omega), if_pos (by omega), ew, ej]
    rfl
end

theorem spec_j3t (n s : Int) (bl : List Int) (d : Nat) (j : Nat) (hj : j < 5) (part : List Int) (F : Option (List Int) → Option (List Int)) (hF : ∀ b, OkB (d + 1) b → Ev (fun k => spec_l14Explain.l0 k n s bl (b.getD []) b.isSome ((j : Int) + 1)) (pr (F b)))
    (best : Option (List Int)) (hb : OkB (d + 1) best) : Ev (fun k => spec_l14Explain.j3 k n s bl (best.getD []) best.isSome j part true) (pr (F best)) := by
  have ej : wrap64 ((j : Int) + 1) = (j : Int) + 1 := wr (by omega) (by omega)
  refine Ev.step (f := fun k => spec_l14Explain.l0 k n s bl (best.getD []) best.isSome ((j : Int) + 1)) (fun k => ?_) (hF best hb)
  simp only [spec_l14Explain.j3]
  rw [if_pos trivial, ej]
theorem cand_plain (s : Int) (bl : List Int) (d : Nat) (j : Nat) (hj : j < 4) : cand d s bl j = if (impl_ExplainBlock.lf s j 0).length ≤ bl.length ∧ impl_ExplainBlock.lf s j 0 = bl.take (impl_ExplainBlock.lf s j 0).length then (ex d (s + 1) (bl.drop (impl_ExplainBlock.lf s j 0).length)).map fun l => (j : Int) :: l else none := by
  unfold cand restK
  rw [if_neg (by omega)]
  simp only
  split <;> rfl
section
variable (n s : Int) (bl : List Int) (d : Nat) (hn : n ≤ 12) (hs : 0 ≤ s) (hd : n - s = ((d + 1 : Nat) : Int)) (hl : bl.length ≤ 24)
  (ihd : ∀ r : List Int, r.length ≤ 24 → Ev (fun k => spec_l14Explain.f k n (s + 1) r) (pr (ex d (s + 1) r)))
include hn hs hd hl ihd
theorem spec_j2 (j : Nat) (hj : j < 5) (part : List Int) (F : Option (List Int) → Option (List Int)) (hF : ∀ b, OkB (d + 1) b → Ev (fun k => spec_l14Explain.l0 k n s bl (b.getD []) b.isSome ((j : Int) + 1)) (pr (F b)))
    (best : Option (List Int)) (hb : OkB (d + 1) best) : Ev (fun k => spec_l14Explain.j2 k n s bl (best.getD []) best.isSome j part)
      (pr (F (better best (if part.length ≤ bl.length ∧ part = bl.take part.length then (ex d (s + 1) (bl.drop part.length)).map fun l => (j : Int) :: l else none)))) := by
  by_cases h1 : part.length ≤ bl.length
  · have key : Ev (fun k => (spec_l01Same.f k part (bl.take ((part.length : Int) : Int).toNat)).bind fun t198 => (spec_l14Explain.j3 k n s bl (best.getD []) best.isSome j part (!t198))) (pr (F (better best (if part.length ≤ bl.length ∧ part = bl.take part.length then (ex d (s + 1) (bl.drop part.length)).map fun l => (j : Int) :: l else none)))) := by
      refine Ev.go (same_ev _ _ (by omega)) ?_
      rw [Int.toNat_natCast]
      by_cases h2 : part = bl.take part.length
      · rw [if_pos ⟨h1, h2⟩, decide_eq_true h2]
        exact spec_j3 n s bl d hn hs hd hl ihd j hj part h1 F hF best hb
      · rw [if_neg (fun h => h2 h.2), decide_eq_false h2]
        exact spec_j3t n s bl d j hj part F hF best hb
    refine Ev.step (fun k => ?_) key
    simp only [spec_l14Explain.j2]
    rw [if_neg (by omega), if_pos (by omega), if_pos (by omega)]
  · rw [if_neg (fun h => h1 h.1)]
    refine Ev.step (fun k => ?_) (spec_j3t n s bl d j hj part F hF best hb)
    simp only [spec_l14Explain.j2]
    rw [if_pos (by omega)]
theorem spec_l0 : ∀ (m j : Nat) (best : Option (List Int)), j + m = 5 → OkB (d + 1) best → Ev (fun k => spec_l14Explain.l0 k n s bl (best.getD []) best.isSome (j : Int)) (pr ((List.range' j m).foldl (fun best k => better best (cand d s bl k)) best)) := by
  intro m
  induction m with
  | zero =>
    intro j best hj hb
    refine Ev.step (f := fun _ => some (best.getD [], best.isSome)) (fun k => ?_) (Ev.const rfl)
    simp only [spec_l14Explain.l0]
    rw [if_neg (by omega)]
  | succ m ih =>
    intro j best hj hb
    have hj5 : j < 5 := by omega
    have ej : wrap64 ((j : Int) + 1) = (j : Int) + 1 := wr (by omega) (by omega)
    have hF : ∀ b, OkB (d + 1) b → Ev (fun k => spec_l14Explain.l0 k n s bl (b.getD []) b.isSome ((j : Int) + 1)) (pr ((List.range' (j + 1) m).foldl (fun best k => better best (cand d s bl k)) b)) := by
      intro b hb'
      have := ih (j + 1) b (by omega) hb'
      simpa using this
    rw [List.range'_succ, List.foldl_cons]
    by_cases h4 : j = 4
    · subst h4
      have es : wrap64 (s + 1) = s + 1 := wr (by omega) (by omega)
      cases bl with
      | nil =>
        have ec : better best (cand d s ([] : List Int) 4) = best := by
          simp [cand, restK, better]
        rw [ec]
        have h1 : Ev (fun k => spec_l14Explain.j1 k n s [] (best.getD []) best.isSome ((4 : Nat) : Int) (impl_ExplainBlock.lf s ((4 : Nat) : Int) 0) false) (pr ((List.range' (4 + 1) m).foldl (fun best k => better best (cand d s [] k)) best)) := by
          refine Ev.step (fun k => ?_) (hF best hb)
          simp only [spec_l14Explain.j1]
          rw [if_neg (by decide), if_pos (by decide), ej]
        refine Ev.step (fun k => ?_) h1
        simp only [spec_l14Explain.l0]
        rw [if_pos (by omega), part_is s 4 ⟨hs, by omega⟩]
        simp
      | cons x t =>
        have hr0 : rd (x :: t) 0 = x := by simp [rd]
        have hlen : 0 < (((x :: t).length : Nat) : Int) := by rw [List.length_cons]; omega
        by_cases hx : 0 < x ∧ x ≠ s + 1
        · have ec : cand d s (x :: t) 4 = (if ([x] : List Int).length ≤ (x :: t).length ∧ [x] = (x :: t).take ([x] : List Int).length then (ex d (s + 1) ((x :: t).drop ([x] : List Int).length)).map fun l => ((4 : Nat) : Int) :: l else none) := by
            simp [cand, restK, hx]
          rw [ec]
          have h2 := spec_j2 n s (x :: t) d hn hs hd hl ihd 4 (by omega) [x] _ hF best hb
          refine Ev.step (f := fun k => spec_l14Explain.j1 k n s (x :: t) (best.getD []) best.isSome ((4 : Nat) : Int) (impl_ExplainBlock.lf s ((4 : Nat) : Int) 0) true) (fun k => ?_) (Ev.step (fun k => ?_) h2)
          · simp only [spec_l14Explain.l0]
            rw [if_pos (by omega), part_is s 4 ⟨hs, by omega⟩]
            simp only [Option.bind_some]
            rw [if_pos (by decide), if_pos hlen, if_pos hlen, hr0, if_pos (show x > 0 from hx.1), es]
            congr 1
            simpa using hx.2
          · simp only [spec_l14Explain.j1]
            rw [if_pos trivial, if_pos hlen, hr0]
        · have ec : better best (cand d s (x :: t) 4) = best := by
            have hx' : ¬ (0 < x ∧ ¬ x = s + 1) := hx
            simp [cand, restK, better, hx']
          rw [ec]
          have h1 : Ev (fun k => spec_l14Explain.j1 k n s (x :: t) (best.getD []) best.isSome ((4 : Nat) : Int) (impl_ExplainBlock.lf s ((4 : Nat) : Int) 0) false) (pr ((List.range' (4 + 1) m).foldl (fun best k => better best (cand d s (x :: t) k)) best)) := by
            refine Ev.step (fun k => ?_) (hF best hb)
            simp only [spec_l14Explain.j1]
            rw [if_neg (by decide), if_pos (by decide), ej]
          refine Ev.step (fun k => ?_) h1
          simp only [spec_l14Explain.l0]
          rw [if_pos (by omega), part_is s 4 ⟨hs, by omega⟩]
          simp only [Option.bind_some]
          rw [if_pos (by decide), if_pos hlen, if_pos hlen, hr0, es]
          by_cases h0 : x > 0
          · have h1 : x = s + 1 := Classical.byContradiction fun h => hx ⟨h0, h⟩
            rw [if_pos h0]
            congr 1
            simp [h1]
          · rw [if_neg h0]
    · rw [cand_plain s bl d j (by omega)]
      have h2 := spec_j2 n s bl d hn hs hd hl ihd j hj5 (impl_ExplainBlock.lf s j 0) _ hF best hb
      refine Ev.step (f := fun k => spec_l14Explain.j1 k n s bl (best.getD []) best.isSome (j : Int) (impl_ExplainBlock.lf s (j : Int) 0) false) (fun k => ?_) (Ev.step (fun k => ?_) h2)
      · simp only [spec_l14Explain.l0]
        rw [if_pos (by omega), part_is s j ⟨hs, by omega⟩]
        simp only [Option.bind_some]
        rw [if_neg (by omega)]
      · simp only [spec_l14Explain.j1]
        rw [if_neg (by decide), if_neg (by omega)]
end
theorem specEx_ev (n : Int) (hn : n ≤ 12) : ∀ (d : Nat) (s : Int) (bl : List Int), 0 ≤ s → n - s = d → bl.length ≤ 24 → Ev (fun k => spec_l14Explain.f k n s bl) (pr (ex d s bl)) := by
  intro d
  induction d with
  | zero =>
    intro s bl hs hd hl
    refine Ev.step (f := fun _ => some (([] : List Int), ((bl.length : Int) == 0))) (fun k => ?_) (Ev.const ?_)
    · simp only [spec_l14Explain.f]
      rw [if_pos (by omega)]
    · unfold ex pr
      cases bl with
      | nil => rfl
      | cons x t => simp; omega
  | succ d ih =>
    intro s bl hs hd hl
    by_cases hlong : bl.length > 2 * (d + 1)
    · have e : ex (d + 1) s bl = none := by
        cases h : ex (d + 1) s bl with
        | none => rfl
        | some l => have := ex_len (d + 1) s bl l h; omega
      rw [e]
      refine Ev.step (f := fun _ => some (([] : List Int), false)) (fun k => ?_) (Ev.const rfl)
      simp only [spec_l14Explain.f]
      rw [if_neg (by omega), wr (x := n - s) (by omega) (by omega), wr (by omega) (by omega), if_pos (by omega)]
    · have h := spec_l0 n s bl d hn hs hd hl (fun r hr => ih (s + 1) r (by omega) (by omega) hr) 5 0 none rfl (fun l h => by cases h)
      rw [ex_succ, List.range_eq_range']
      refine Ev.step (fun k => ?_) h
      simp only [spec_l14Explain.f]
      rw [if_neg (by omega), wr (x := n - s) (by omega) (by omega), wr (by omega) (by omega), if_neg (by omega)]
      rfl

/-! ### the program's explanation -/
open impl_ExplainBlock in
theorem nx_rest (bl : List Int) (s p : Int) (k : Nat) (hp : 0 ≤ p ∧ p ≤ bl.length) : restK s k (bl.drop p.toNat) = if 0 ≤ nx bl s p k then some (bl.drop (nx bl s p k).toNat) else none := by
  have hdl : (bl.drop p.toNat).length = bl.length - p.toNat := by simp
  have hnn : ¬ (0 : Int) ≤ -1 := by omega
  unfold restK
  by_cases h4 : (k : Int) = 4
  · rw [if_pos h4]
    by_cases hlt : p < bl.length
    · rw [drop_cons hp.1 hlt]
      simp only
      by_cases hx : 0 < rd bl p ∧ rd bl p ≠ s + 1
      · have hb : ¬ bad bl s p k := by
          unfold bad
          intro ⟨_, h⟩
          rcases h with h | h | h
          · omega
          · omega
          · exact hx.2 h
        have hlf : lf s k (ot bl p k) = [rd bl p] := by
          unfold lf ot
          rw [h4]
          simp
        have hf : fits bl p (lf s k (ot bl p k)) := by
          rw [hlf]
          unfold fits
          refine ⟨by simp; omega, ?_⟩
          have e : (p + (([rd bl p] : List Int).length : Int)).toNat = p.toNat + 1 := by simp; omega
          rw [e, List.drop_take, drop_cons hp.1 hlt]
          simp
        have hv : nx bl s p k = p + 1 := by
          unfold nx
          rw [if_neg hb, if_pos hf, hlf]
          simp
        rw [if_pos hx, hv, if_pos (by omega)]
      · have hb : bad bl s p k := by
          unfold bad
          refine ⟨h4, ?_⟩
          by_cases h0 : rd bl p < 1
          · exact .inr (.inl h0)
          · exact .inr (.inr (Classical.byContradiction fun h => hx ⟨by omega, h⟩))
        have hv : nx bl s p k = -1 := by unfold nx; rw [if_pos hb]
        rw [if_neg hx, hv, if_neg hnn]
    · have hb : bad bl s p k := ⟨h4, .inl (by omega)⟩
      have hv : nx bl s p k = -1 := by unfold nx; rw [if_pos hb]
      rw [List.drop_eq_nil_of_le (by omega), hv, if_neg hnn]
  · rw [if_neg h4]
    have hb : ¬ bad bl s p k := fun h => h4 h.1
    have hlf : lf s k (ot bl p k) = lf s k 0 := by
      unfold lf ot
      simp [h4]
    obtain ⟨L, hL⟩ : ∃ L, lf s k 0 = L := ⟨_, rfl⟩
    have hv : nx bl s p k = if fits bl p L then p + L.length else -1 := by
      unfold nx
      rw [if_neg hb, hlf, hL]
    rw [hv, hL]
    simp only
    by_cases hf : fits bl p L
    · have hf' := hf
      unfold fits at hf'
      obtain ⟨f1, f2⟩ := hf'
      have e : (p + (L.length : Int)).toNat = p.toNat + L.length := by omega
      rw [e, List.drop_take, Nat.add_sub_cancel_left] at f2
      rw [if_pos hf, if_pos ⟨by omega, f2⟩, if_pos (by omega), List.drop_drop, e]
    · rw [if_neg hf, if_neg hnn, if_neg]
      intro ⟨g1, g2⟩
      apply hf
      unfold fits
      have e : (p + (L.length : Int)).toNat = p.toNat + L.length := by omega
      refine ⟨by omega, ?_⟩
      rw [e, List.drop_take, Nat.add_sub_cancel_left]
      exact g2
def costN (o : Option (List Int)) : Int := match o with
  | none => 1000000000
  | some l => kindsN l
open impl_ExplainBlock in
theorem kindsN_cons (k : Nat) (l : List Int) : kindsN ((k : Int) :: l) = kindsN l + t01 k := by
  unfold kindsN t01 mn
  simp only [List.map_cons, List.sum_cons]
  by_cases h : 0 < (k : Int)
  · rw [if_pos h]
    split <;> omega
  · have : k = 0 := by omega
    subst this
    simp
theorem cost_bd {d : Nat} {o : Option (List Int)} (h : OkB d o) (hd : d ≤ 1000) : 0 ≤ costN o ∧ costN o ≤ 1000000000 ∧ (o.isSome = true → costN o ≤ 1000) := by
  cases o with
  | none => simp [costN]
  | some l =>
    have h1 := h l rfl
    have := kindsN_bd l h1.2
    have h2 := h1.1
    simp only [costN]
    omega
theorem cost_better {d : Nat} {b c : Option (List Int)} (hb : OkB d b) (hc : OkB d c) (hd : d ≤ 1000) : costN (better b c) = mn (costN b) (costN c) := by
  have b1 := cost_bd hb hd
  have c1 := cost_bd hc hd
  have e1 : costN none = 1000000000 := rfl
  cases c with
  | none =>
    have e : better b none = b := rfl
    rw [e, e1]
    unfold mn
    rw [if_neg (by omega)]
  | some l =>
    cases b with
    | none =>
      have e : better none (some l) = some l := rfl
      have := c1.2.2 rfl
      rw [e, e1]
      unfold mn
      rw [if_pos (by omega)]
    | some b =>
      by_cases h : kindsN l < kindsN b
      · have e : better (some b) (some l) = some l := by simp [better, h]
        have h' : costN (some l) < costN (some b) := h
        rw [e]
        unfold mn
        rw [if_pos h']
      · have e : better (some b) (some l) = some b := by simp [better, h]
        have h' : ¬ costN (some l) < costN (some b) := h
        rw [e]
        unfold mn
        rw [if_neg h']
open impl_ExplainBlock in
/-- The fewest faults are the reference's explanation's. -/
theorem few_cost (bl : List Int) : ∀ (d : Nat) (s p : Int), d ≤ 12 → 0 ≤ p → p ≤ bl.length → few bl d s p = costN (ex d s (bl.drop p.toNat)) := by
  intro d
  induction d with
  | zero =>
    intro s p _ h0 h1
    unfold few ex
    by_cases h : p = bl.length
    · rw [if_pos h, if_pos (List.drop_eq_nil_of_le (by omega))]
      rfl
    · rw [if_neg h, if_neg]
      · rfl
      · intro e
        have := congrArg List.length e
        simp at this
        omega
  | succ d ih =>
    intro s p hd h0 h1
    rw [ex_succ]
    unfold few
    have gen : ∀ (ks : List Nat) (b : Int) (o : Option (List Int)), (∀ k ∈ ks, k < 5) → OkB (d + 1) o → b = costN o →
        ks.foldl (stp bl (few bl d (s + 1)) s p) b = costN (ks.foldl (fun best k => better best (cand d s (bl.drop p.toNat) k)) o) := by
      intro ks
      induction ks with
      | nil => intro b o _ _ h; exact h
      | cons k r ihk =>
        intro b o hk ho hb
        rw [List.foldl_cons, List.foldl_cons]
        have hk5 := hk k (by simp)
        refine ihk _ _ (fun k' hk' => hk k' (by simp [hk'])) (ho.better (cand_ok hk5)) ?_
        rw [cost_better ho (cand_ok hk5) (by omega), ← hb]
        unfold stp
        have hnr := nx_rest bl s p k ⟨h0, h1⟩
        have hb0 := cost_bd ho (by omega)
        rw [← hb] at hb0
        by_cases hn : 0 ≤ nx bl s p k
        · rw [if_pos hn]
          rw [if_pos hn] at hnr
          have hle := nx_le bl s p k h0
          rw [ih (s + 1) _ (by omega) hn hle.2.2]
          unfold cand
          rw [hnr]
          simp only [Option.bind_some]
          cases he : ex d (s + 1) (bl.drop (nx bl s p k).toNat) with
          | none =>
            have e1 : costN none = 1000000000 := rfl
            simp only [Option.map_none]
            rw [e1]
            unfold mn t01
            split
            · rw [if_neg (by omega), if_neg (by omega)]
            · rw [if_neg (by omega), if_neg (by omega)]
          | some l =>
            have e2 : costN (some l) = kindsN l := rfl
            have e3 : costN (some ((k : Int) :: l)) = kindsN ((k : Int) :: l) := rfl
            simp only [Option.map_some]
            rw [e2, e3, kindsN_cons]
        · rw [if_neg hn]
          rw [if_neg hn] at hnr
          unfold cand
          rw [hnr]
          have e1 : costN none = 1000000000 := rfl
          simp only [Option.bind_none]
          rw [e1]
          unfold mn
          rw [if_neg (by omega)]
    exact gen (List.range 5) 1000000000 none (fun k hk => by simpa using hk) (fun l h => by cases h) rfl

/-- The best of candidates: the first one with the least number of kinds. -/
theorem fold_first (f : Nat → Option (List Int)) : ∀ (m j : Nat) (b : Option (List Int)) (l : List Int), (List.range' j m).foldl (fun best k => better best (f k)) b = some l →
    (b = some l ∧ ∀ k, j ≤ k → k < j + m → ∀ c, f k = some c → kindsN l ≤ kindsN c) ∨
    (∃ k, j ≤ k ∧ k < j + m ∧ f k = some l ∧ (∀ b', b = some b' → kindsN l < kindsN b') ∧ (∀ k', j ≤ k' → k' < k → ∀ c, f k' = some c → kindsN l < kindsN c) ∧ ∀ k', j ≤ k' → k' < j + m → ∀ c, f k' = some c → kindsN l ≤ kindsN c) := by
  intro m
  induction m with
  | zero => intro j b l h; exact .inl ⟨h, fun k h1 h2 => by omega⟩
  | succ m ih =>
    intro j b l h
    rw [List.range'_succ, List.foldl_cons] at h
    rcases ih (j + 1) _ l h with ⟨hb, hall⟩ | ⟨k, hk1, hk2, hfk, hlt, hfirst, hall⟩
    · cases hf : f j with
      | none =>
        rw [hf] at hb
        have e : better b none = b := rfl
        rw [e] at hb
        refine .inl ⟨hb, fun k h1 h2 c hc => ?_⟩
        by_cases hkj : k = j
        · subst hkj; rw [hf] at hc; cases hc
        · exact hall k (by omega) (by omega) c hc
      | some c0 =>
        rw [hf] at hb
        cases b with
        | none =>
          have e : better none (some c0) = some c0 := rfl
          rw [e] at hb
          injection hb with hb
          subst hb
          refine .inr ⟨j, by omega, by omega, hf, (fun b' h => by cases h), (fun k' h1 h2 => by omega), fun k' h1 h2 c hc => ?_⟩
          by_cases hkj : k' = j
          · subst hkj; rw [hf] at hc; injection hc with hc; subst hc; exact Int.le_refl _
          · exact hall k' (by omega) (by omega) c hc
        | some b0 =>
          by_cases hlt : kindsN c0 < kindsN b0
          · have e : better (some b0) (some c0) = some c0 := by simp [better, hlt]
            rw [e] at hb
            injection hb with hb
            subst hb
            refine .inr ⟨j, by omega, by omega, hf, (fun b' h => by injection h with h; subst h; exact hlt), (fun k' h1 h2 => by omega), fun k' h1 h2 c hc => ?_⟩
            by_cases hkj : k' = j
            · subst hkj; rw [hf] at hc; injection hc with hc; subst hc; exact Int.le_refl _
            · exact hall k' (by omega) (by omega) c hc
          · have e : better (some b0) (some c0) = some b0 := by simp [better, hlt]
            rw [e] at hb
            injection hb with hb
            subst hb
            refine .inl ⟨rfl, fun k h1 h2 c hc => ?_⟩
            by_cases hkj : k = j
            · subst hkj; rw [hf] at hc; injection hc with hc; subst hc; omega
            · exact hall k (by omega) (by omega) c hc
    · have hbb : ∀ b', better b (f j) = some b' → kindsN l < kindsN b' := hlt
      have hj' : ∀ c, f j = some c → kindsN l < kindsN c := by
        intro c hc
        rw [hc] at hbb
        cases b with
        | none => exact hbb c rfl
        | some b0 =>
          by_cases hlt0 : kindsN c < kindsN b0
          · exact hbb c (by simp [better, hlt0])
          · have := hbb b0 (by simp [better, hlt0])
            omega
      have hb' : ∀ b', b = some b' → kindsN l < kindsN b' := by
        intro b' e
        subst e
        cases hf : f j with
        | none => exact hbb b' (by rw [hf]; rfl)
        | some c =>
          rw [hf] at hbb
          by_cases hlt0 : kindsN c < kindsN b'
          · have := hbb c (by simp [better, hlt0])
            omega
          · exact hbb b' (by simp [better, hlt0])
      refine .inr ⟨k, by omega, by omega, hfk, hb', fun k' h1 h2 c hc => ?_, fun k' h1 h2 c hc => ?_⟩
      · by_cases hkj : k' = j
        · subst hkj; exact hj' c hc
        · exact hfirst k' (by omega) h2 c hc
      · by_cases hkj : k' = j
        · subst hkj; have := hj' c hc; omega
        · exact hall k' (by omega) (by omega) c hc
open impl_ExplainBlock in
theorem pk_first (bl : List Int) (d : Nat) (s p lf : Int) (k : Nat) (h1 : 0 ≤ nx bl s p k ∧ few bl d (s + 1) (nx bl s p k) + t01 k = lf) : ∀ (m j : Nat), j ≤ k → k < j + m →
    (∀ k', j ≤ k' → k' < k → ¬ (0 ≤ nx bl s p k' ∧ few bl d (s + 1) (nx bl s p k') + t01 k' = lf)) → pk bl d s p lf m j = some k := by
  intro m
  induction m with
  | zero => intro j h2 h3; omega
  | succ m ih =>
    intro j h2 h3 h4
    unfold pk
    by_cases hj : j = k
    · subst hj
      rw [if_pos h1]
    · rw [if_neg (h4 j (by omega) (by omega))]
      exact ih (j + 1) (by omega) (by omega) (fun k' h5 h6 => h4 k' (by omega) h6)
open impl_ExplainBlock in
theorem bld_ex (bl : List Int) : ∀ (d : Nat) (s p : Int) (l : List Int), d ≤ 12 → 0 ≤ p → p ≤ bl.length → ex d s (bl.drop p.toNat) = some l → bld bl d s p (kindsN l) = l := by
  intro d
  induction d with
  | zero =>
    intro s p l _ h0 h1 h
    have := (ex_ok 0 s _ l h).1
    unfold bld
    exact (List.length_eq_zero_iff.1 this).symm
  | succ d ih =>
    intro s p l hd h0 h1 h
    have hx := h
    rw [ex_succ, List.range_eq_range'] at hx
    rcases fold_first _ 5 0 none l hx with ⟨h2, _⟩ | ⟨k, _, hk5, hck, _, hfirst, _⟩
    · cases h2
    · have hc := hck
      unfold cand at hc
      rw [nx_rest bl s p k ⟨h0, h1⟩] at hc
      by_cases hn : 0 ≤ nx bl s p k
      · rw [if_pos hn] at hc
        simp only [Option.bind_some] at hc
        obtain ⟨l', hl', rfl⟩ := Option.map_eq_some_iff.1 hc
        have hle := nx_le bl s p k h0
        have hpk : pk bl d s p (kindsN ((k : Int) :: l')) 5 0 = some k := by
          refine pk_first bl d s p _ k ⟨hn, ?_⟩ 5 0 (by omega) (by omega) (fun k' _ hk' hbad => ?_)
          · rw [few_cost bl d (s + 1) _ (by omega) hn hle.2.2, hl', kindsN_cons]
            rfl
          · obtain ⟨hn', he'⟩ := hbad
            have hle' := nx_le bl s p k' h0
            rw [few_cost bl d (s + 1) _ (by omega) hn' hle'.2.2] at he'
            have hlen := ex_ok (d + 1) s _ _ h
            have hbd := kindsN_bd _ hlen.2
            have hl1 := hlen.1
            cases hx' : ex d (s + 1) (bl.drop (nx bl s p k').toNat) with
            | none =>
              rw [hx'] at he'
              have e1 : costN none = 1000000000 := rfl
              rw [e1] at he'
              unfold t01 at he'
              split at he' <;> omega
            | some c =>
              rw [hx'] at he'
              have e2 : costN (some c) = kindsN c := rfl
              rw [e2] at he'
              have hcand : cand d s (bl.drop p.toNat) k' = some ((k' : Int) :: c) := by
                unfold cand
                rw [nx_rest bl s p k' ⟨h0, h1⟩, if_pos hn']
                simp [hx']
              have := hfirst k' (by omega) hk' _ hcand
              rw [kindsN_cons k' c] at this
              omega
        unfold bld
        rw [hpk]
        simp only
        rw [kindsN_cons, show kindsN l' + t01 (k : Int) - t01 (k : Int) = kindsN l' by omega, ih (s + 1) _ l' (by omega) hn hle.2.2 hl']
      · rw [if_neg hn] at hc
        cases hc
/-- What either program explains. -/
def expl (n : Int) (bl : List Int) : List Int × Int := if blockB n bl = true then (match ex n.toNat 0 bl with
  | some l => (l, 0)
  | none => ([], 4)) else ([], 2)
theorem specExplain_ev (n : Int) (bl : List Int) (hm : bl.length ≤ 2000000) : Ev (fun k => spec_ExplainBlock.f k n bl) (expl n bl) := by
  unfold spec_ExplainBlock.f
  refine Ev.go (specFits_ev n bl (by omega)) ?_
  by_cases h : blockB n bl = true
  · obtain ⟨h1, h2, h3, h4⟩ := block_parts h
    simp only [h, if_true]
    refine Ev.go (specEx_ev n h2 n.toNat 0 bl (by omega) (by omega) (by omega)) ?_
    unfold expl pr
    rw [if_pos h]
    cases ex n.toNat 0 bl with
    | none => exact Ev.const rfl
    | some l => exact Ev.const rfl
  · have h0 : blockB n bl = false := by simpa using h
    simp only [h0, Bool.false_eq_true, if_false]
    exact Ev.const (by unfold expl; rw [if_neg h])
open impl_ExplainBlock in
theorem implExplain_ev (n : Int) (bl : List Int) (hm : bl.length ≤ 2000000) : Ev (fun k => impl_ExplainBlock.f k n bl) (expl n bl) := by
  unfold impl_ExplainBlock.f
  refine Ev.go (implBlock_ev n bl (by omega)) ?_
  by_cases h : blockB n bl = true
  · obtain ⟨h1, h2, h3, h4⟩ := block_parts h
    simp only [h, if_true]
    have hf := few_cost bl n.toNat 0 0 (by omega) (by omega) (by omega)
    unfold expl
    rw [if_pos h]
    have e0 : bl.drop (0 : Int).toNat = bl := by simp
    rw [e0] at hf
    cases hx : ex n.toNat 0 bl with
    | none =>
      rw [hx] at hf
      have e1 : costN none = 1000000000 := rfl
      rw [e1] at hf
      rw [hf]
      exact Ev.const rfl
    | some l =>
      rw [hx] at hf
      have e2 : costN (some l) = kindsN l := rfl
      rw [e2] at hf
      have hok := ex_ok n.toNat 0 bl l hx
      have hbd := kindsN_bd l hok.2
      have hl1 := hok.1
      rw [hf]
      refine Ev.const ?_
      rw [if_neg (by omega), bld_ex bl n.toNat 0 0 l (by omega) (by omega) (by omega) (by rw [e0]; exact hx)]
  · have h0 : blockB n bl = false := by simpa using h
    simp only [h0, Bool.false_eq_true, if_false]
    exact Ev.const (by unfold expl; rw [if_neg h])


/-! ### the law -/
theorem blk_small (n u : Int) (pages : List Int) : (blkAll n u pages).1.length ≤ 24 := by
  unfold blkAll
  split
  · unfold blk fin
    split
    · rename_i h
      obtain ⟨h1, h2, h3, _⟩ := block_parts h.1
      simp only
      omega
    · simp
  · simp
def diag (n u : Int) (pages : List Int) : List Int × Int := if (blkAll n u pages).2 = 0 then (if (expl n (blkAll n u pages).1).2 = 0 then ((expl n (blkAll n u pages).1).1, 0) else ([], 5)) else ([], (blkAll n u pages).2)
theorem specDiag_ev (n u : Int) (pages : List Int) (hw : ∀ x ∈ pages, -9223372036854775808 ≤ x ∧ x ≤ 9223372036854775807) (hp : pages.length ≤ 1048576) : Ev (fun k => spec_DiagnosePages.f k n u pages) (diag n u pages) := by
  unfold spec_DiagnosePages.f diag
  refine Ev.go (specBlock_ev n u pages hw hp) ?_
  by_cases h : (blkAll n u pages).2 = 0
  · simp only [h, if_true]
    refine Ev.go (specExplain_ev n _ (by have := blk_small n u pages; omega)) ?_
    by_cases h2 : (expl n (blkAll n u pages).1).2 = 0
    · simp only [h2, if_true]; exact Ev.const rfl
    · simp only [h2, if_false]; exact Ev.const rfl
  · simp only [h, if_false]; exact Ev.const rfl
theorem implDiag_ev (n u : Int) (pages : List Int) (hw : ∀ x ∈ pages, -9223372036854775808 ≤ x ∧ x ≤ 9223372036854775807) (hp : pages.length ≤ 1048576) : Ev (fun k => impl_DiagnosePages.f k n u pages) (diag n u pages) := by
  unfold impl_DiagnosePages.f diag
  refine Ev.go (implBlock2_ev n u pages hw hp) ?_
  by_cases h : (blkAll n u pages).2 = 0
  · simp only [h, if_true]
    refine Ev.go (implExplain_ev n _ (by have := blk_small n u pages; omega)) ?_
    by_cases h2 : (expl n (blkAll n u pages).1).2 = 0
    · simp only [h2, if_true]; exact Ev.const rfl
    · simp only [h2, if_false]; exact Ev.const rfl
  · simp only [h, if_false]; exact Ev.const rfl
theorem diag_small (n u : Int) (pages : List Int) : (diag n u pages).1.length ≤ 12 := by
  unfold diag
  split
  · split
    · rename_i h1 h2
      unfold expl
      split
      · rename_i hb
        obtain ⟨b1, b2, _, _⟩ := block_parts hb
        cases hx : ex n.toNat 0 (blkAll n u pages).1 with
        | none => simp
        | some l =>
          have := (ex_ok _ _ _ l hx).1
          simp only
          omega
      · simp
    · simp
  · simp

/-! ### an explanation without a fault -/
def rt : Nat → Int → List Int
  | 0, _ => []
  | d + 1, s => (s + 1) :: rt d (s + 1)
theorem rt_len : ∀ (d : Nat) (s : Int), (rt d s).length = d
  | 0, _ => rfl
  | d + 1, s => by simp [rt, rt_len d]
theorem rest0 (s : Int) (bl r : List Int) : restK s 0 bl = some r ↔ bl = (s + 1) :: r := by
  unfold restK
  rw [if_neg (by omega)]
  have e : impl_ExplainBlock.lf s (0 : Nat) 0 = [s + 1] := by
    unfold impl_ExplainBlock.lf
    simp
  simp only [e, List.length_singleton]
  cases bl with
  | nil => simp
  | cons x t =>
    simp only [List.length_cons, List.take_succ_cons, List.take_zero, List.drop_succ_cons, List.drop_zero, List.cons.injEq, and_true]
    by_cases h : s + 1 = x
    · rw [if_pos ⟨by omega, h⟩]
      simp [h]
    · rw [if_neg (fun c => h c.2)]
      simp [Ne.symm h]
theorem kinds0_bd {d : Nat} {c : Option (List Int)} (hc : OkB d c) (l : List Int) (h : c = some l) : 0 ≤ kindsN l := (kindsN_bd l (hc l h).2).1
theorem better_zero {d : Nat} {b : List Int} {c : Option (List Int)} (hb : kindsN b = 0) (hc : OkB d c) : better (some b) c = some b := by
  unfold better
  cases c with
  | none => rfl
  | some l =>
    have := kinds0_bd hc l rfl
    simp only
    rw [if_neg (by omega)]
theorem fold_zero {d : Nat} (f : Nat → Option (List Int)) (b : List Int) (hb : kindsN b = 0) : ∀ (ks : List Nat), (∀ k ∈ ks, OkB d (f k)) → ks.foldl (fun best k => better best (f k)) (some b) = some b
  | [], _ => rfl
  | k :: r, h => by
    rw [List.foldl_cons, better_zero hb (h k (by simp))]
    exact fold_zero f b hb r (fun k' hk => h k' (by simp [hk]))
theorem kindsN_zeros : ∀ d : Nat, kindsN (List.replicate d 0) = 0
  | 0 => rfl
  | d + 1 => by
    have := kindsN_zeros d
    unfold kindsN at this ⊢
    rw [List.replicate_succ, List.map_cons, List.sum_cons, this]
    unfold mn
    simp
theorem ex_right : ∀ (d : Nat) (s : Int), ex d s (rt d s) = some (List.replicate d 0)
  | 0, s => by simp [ex, rt]
  | d + 1, s => by
    have hc0 : cand d s (rt (d + 1) s) 0 = some (List.replicate (d + 1) 0) := by
      unfold cand
      rw [(rest0 s (rt (d + 1) s) (rt d (s + 1))).2 rfl]
      simp only [Option.bind_some]
      rw [ex_right d (s + 1)]
      rfl
    rw [ex_succ]
    rw [show List.range 5 = 0 :: [1, 2, 3, 4] from rfl, List.foldl_cons, hc0]
    rw [show better none (some (List.replicate (d + 1) (0 : Int))) = some (List.replicate (d + 1) 0) from rfl]
    refine fold_zero (d := d + 1) _ _ (kindsN_zeros (d + 1)) _ (fun k hk => cand_ok ?_)
    simp only [List.mem_cons, List.not_mem_nil, or_false] at hk
    omega
theorem ex_zero : ∀ (d : Nat) (s : Int) (bl l : List Int), ex d s bl = some l → (∀ x ∈ l, x = 0) → bl = rt d s
  | 0, s, bl, l, h, _ => by
    unfold ex at h
    split at h
    · assumption
    · cases h
  | d + 1, s, bl, l, h, hz => by
    rw [ex_succ] at h
    rcases fold_some _ _ _ _ h with h | ⟨k, hk, h⟩
    · cases h
    · unfold cand at h
      obtain ⟨r, hr, h⟩ := Option.bind_eq_some_iff.1 h
      obtain ⟨l', hl', rfl⟩ := Option.map_eq_some_iff.1 h
      have hk0 : k = 0 := by
        have := hz (k : Int) (by simp)
        omega
      subst hk0
      have := (rest0 s bl r).1 hr
      rw [this, ex_zero d (s + 1) r l' hl' (fun x hx => hz x (by simp [hx]))]
      rfl
theorem sum_zero : ∀ (l : List Int), (∀ x ∈ l, 0 ≤ x) → (l.sum = 0 ↔ ∀ x ∈ l, x = 0)
  | [], _ => by simp
  | x :: r, h => by
    have h1 := sum_zero r (fun y hy => h y (by simp [hy]))
    have h2 : 0 ≤ r.sum := by
      clear h1
      have h' : ∀ y ∈ r, 0 ≤ y := fun y hy => h y (by simp [hy])
      clear h
      induction r with
      | nil => simp
      | cons y t ih =>
        have := ih (fun z hz => h' z (by simp [hz]))
        have := h' y (by simp)
        simp only [List.sum_cons]
        omega
    have h3 := h x (by simp)
    simp only [List.sum_cons, List.mem_cons, forall_eq_or_imp]
    constructor
    · intro e
      exact ⟨by omega, h1.1 (by omega)⟩
    · rintro ⟨e, e2⟩
      have := h1.2 e2
      omega
/-- The best explanation is without a fault just where the block is right. -/
theorem ex_sum {d : Nat} {s : Int} {bl l : List Int} (h : ex d s bl = some l) : l.sum = 0 ↔ bl = rt d s := by
  have hok := ex_ok d s bl l h
  rw [sum_zero l (fun x hx => (hok.2 x hx).1)]
  constructor
  · exact ex_zero d s bl l h
  · intro e
    rw [e, ex_right] at h
    rw [← Option.some.inj h]
    intro x hx
    exact List.eq_of_mem_replicate hx

/-! ### the first bad page -/
def fb : List Int → Nat → Nat → Int × Int
  | [], 0, _ => (0, 5)
  | [], _ + 1, i => ((i : Int), 0)
  | _ :: _, 0, i => ((i : Int), 0)
  | x :: r, m + 1, i => if x = (i : Int) + 1 then fb r m (i + 1) else ((i : Int), 0)
/-- The pages from i + 1 on, m of them. -/
def ups : Nat → Nat → List Int
  | 0, _ => []
  | m + 1, i => ((i : Int) + 1) :: ups m (i + 1)
theorem ups_len : ∀ (m i : Nat), (ups m i).length = m
  | 0, _ => rfl
  | m + 1, i => by simp [ups, ups_len m]
theorem ups_get : ∀ (m i j : Nat) (h : j < m), (ups m i)[j]'(by rw [ups_len]; exact h) = (i : Int) + (j : Int) + 1
  | 0, _, _, h => by omega
  | m + 1, i, 0, _ => by simp [ups]
  | m + 1, i, j + 1, h => by
    simp only [ups, List.getElem_cons_succ]
    rw [ups_get m (i + 1) j (by omega)]
    omega
theorem fb_five : ∀ (xs : List Int) (m i : Nat), (fb xs m i).2 = 5 ↔ xs = ups m i
  | [], 0, _ => by simp [fb, ups]
  | [], _ + 1, i => by simp [fb, ups]
  | _ :: _, 0, i => by simp [fb, ups]
  | x :: r, m + 1, i => by
    unfold fb ups
    by_cases h : x = (i : Int) + 1
    · rw [if_pos h, fb_five r m (i + 1)]
      simp [h]
    · rw [if_neg h]
      simp [h]
theorem fb_zero : ∀ (xs : List Int) (m i : Nat), (fb xs m i).2 = 0 ∨ ((fb xs m i).2 = 5 ∧ (fb xs m i).1 = 0)
  | [], 0, _ => by simp [fb]
  | [], _ + 1, i => by simp [fb]
  | _ :: _, 0, i => by simp [fb]
  | x :: r, m + 1, i => by
    unfold fb
    split
    · exact fb_zero r m (i + 1)
    · simp
/-- Where a page is told: all before it are right, and it is not. -/
theorem fb_at : ∀ (xs : List Int) (m i : Nat), (fb xs m i).2 = 0 → ∃ p : Nat, (fb xs m i).1 = (i : Int) + (p : Int) ∧ p ≤ xs.length ∧ p ≤ m ∧ (∀ (j : Nat) (h : j < xs.length), j < p → xs[j] = (i : Int) + (j : Int) + 1) ∧ (∀ (h : p < xs.length), p < m → xs[p] ≠ (i : Int) + (p : Int) + 1)
  | [], 0, _, h => by simp [fb] at h
  | [], m + 1, i, _ => ⟨0, by simp [fb], by simp, by omega, fun j h _ => by simp at h, fun h => by simp at h⟩
  | x :: r, 0, i, _ => ⟨0, by simp [fb], by simp, by omega, fun j _ h => by omega, fun _ h => by omega⟩
  | x :: r, m + 1, i, h => by
    unfold fb at h ⊢
    by_cases hx : x = (i : Int) + 1
    · rw [if_pos hx] at h ⊢
      obtain ⟨p, h1, h2, h3, h4, h5⟩ := fb_at r m (i + 1) h
      refine ⟨p + 1, by rw [h1]; omega, by simp; omega, by omega, fun j hj hp => ?_, fun hp hm => ?_⟩
      · cases j with
        | zero => simpa using hx
        | succ j =>
          simp only [List.getElem_cons_succ]
          rw [h4 j (by simpa using hj) (by omega)]
          omega
      · simp only [List.getElem_cons_succ]
        have := h5 (by simpa using hp) (by omega)
        intro e
        exact this (by rw [e]; omega)
    · rw [if_neg hx] at h ⊢
      exact ⟨0, by simp, by simp, by omega, fun j _ hj => by omega, fun _ _ => by simpa using hx⟩

/-! ### the right block and the right pages -/
theorem ups_app : ∀ (a b i : Nat), ups (a + b) i = ups a i ++ ups b (i + a)
  | 0, b, i => by simp [ups]
  | a + 1, b, i => by
    rw [show a + 1 + b = (a + b) + 1 by omega]
    unfold ups
    rw [ups_app a b (i + 1), show i + 1 + a = i + (a + 1) by omega]
    cases a <;> cases b <;> rfl
theorem pg_ups (u : Int) (hu : 0 ≤ u) (s : Nat) : pg u ((s : Int) + 1) = ups u.toNat (s * u.toNat) := by
  apply List.ext_getElem
  · rw [pg_len, ups_len]
  · intro j h1 h2
    have e : (pg u ((s : Int) + 1))[j]'h1 = pgAt u ((s : Int) + 1) j := by simp [pg]
    rw [e, ups_get _ _ _ (by rw [pg_len] at h1; exact h1)]
    unfold pgAt
    rw [if_pos (by omega)]
    obtain ⟨U, rfl⟩ : ∃ U : Nat, u = U := ⟨u.toNat, by omega⟩
    simp only [Int.toNat_natCast, Int.natCast_mul]
    rw [show (s : Int) + 1 - 1 = (s : Int) by omega]
theorem rt_ups (u : Int) (hu : 0 ≤ u) : ∀ (d s : Nat), allP u (rt d (s : Int)) = ups (d * u.toNat) (s * u.toNat)
  | 0, s => by simp [rt, allP, ups]
  | d + 1, s => by
    have ih := rt_ups u hu d (s + 1)
    unfold rt
    unfold allP at ih ⊢
    rw [List.flatMap_cons, pg_ups u hu s, show (s : Int) + 1 = ((s + 1 : Nat) : Int) by omega, ih, show (d + 1) * u.toNat = u.toNat + d * u.toNat by rw [Nat.add_mul]; omega, ups_app]
    congr 2
    rw [Nat.add_mul]
    omega
theorem rt_mem : ∀ (d : Nat) (s x : Int), x ∈ rt d s → s < x ∧ x ≤ s + d
  | 0, s, x, h => by simp [rt] at h
  | d + 1, s, x, h => by
    unfold rt at h
    rcases List.mem_cons.1 h with rfl | h
    · omega
    · have := rt_mem d (s + 1) x h
      omega
theorem rt_block (n : Int) (h1 : 1 ≤ n) (h2 : n ≤ 12) : blockB n (rt n.toNat 0) = true := by
  unfold blockB
  simp only [decide_eq_true_eq]
  refine ⟨h1, h2, by rw [rt_len]; omega, fun x hx => ?_, fun h => ?_⟩
  · have := rt_mem _ _ _ hx
    omega
  · have := rt_mem _ _ _ h
    omega
theorem blk_right {n u : Int} {pages b : List Int} (hu : 4 ≤ u ∧ u ≤ 128) (hb : blockB n b = true) (ha : allP u b = pages) : b = rt n.toNat 0 ↔ pages = ups (n.toNat * u.toNat) 0 := by
  obtain ⟨h1, h2, _, _⟩ := block_parts hb
  have hr := rt_ups u (by omega) n.toNat 0
  simp only [Nat.zero_mul] at hr
  constructor
  · intro e
    rw [← ha, e]
    exact hr
  · intro e
    have hf : ∀ s : Int, -n ≤ s ∧ s ≤ n ∧ s ≠ 0 → sgI u (pgAt u s 0) = s := fun s hs => sgI_first u s hu ⟨by omega, by omega, hs.2.2⟩
    have g1 := heads_fit hu hb ha hf
    have g2 := heads_fit hu (rt_block n h1 h2) (show allP u (rt n.toNat 0) = pages by rw [e]; exact hr) hf
    rw [← g1, g2]
theorem unit_bd {u : Int} (h : unitB u = true) : 4 ≤ u ∧ u ≤ 128 := by
  unfold unitB at h
  simp only [decide_eq_true_eq] at h
  omega
theorem blkAll_ok {n u : Int} {pages : List Int} (h : (blkAll n u pages).2 = 0) : lineB n = true ∧ unitB u = true ∧ blockB n (blkAll n u pages).1 = true ∧ allP u (blkAll n u pages).1 = pages := by
  unfold blkAll at h ⊢
  by_cases hc : lineB n = true ∧ unitB u = true
  · rw [if_pos hc] at h ⊢
    unfold blk fin at h ⊢
    split at h
    · rename_i hk
      rw [if_pos hk]
      exact ⟨hc.1, hc.2, hk.1, hk.2⟩
    · cases h
  · rw [if_neg hc] at h
    cases h

/-! ### the text of kinds -/
def kw (k : Int) : List UInt8 := if k = 1 then [109, 105, 115, 115, 105, 110, 103] else if k = 2 then [100, 111, 117, 98, 108, 101] else if k = 3 then [116, 117, 114, 110, 101, 100] else [119, 114, 111, 110, 103]
def kl (k : Int) (i : Nat) : List UInt8 := [115, 116, 97, 116, 105, 111, 110, 32] ++ Lib.decDigits i ++ [32] ++ kw k ++ [10]
def kt : List Int → Nat → List UInt8
  | [], _ => []
  | k :: r, i => (if k > 0 then kl k i else []) ++ kt r (i + 1)
def ktext (l : List Int) : List UInt8 := if kt l 0 = [] then [114, 105, 103, 104, 116, 10] else kt l 0
theorem kl_head (k : Int) (i : Nat) (r : List UInt8) : (kl k i ++ r).head? = some 115 := by simp [kl]
theorem kt_nil : ∀ (l : List Int) (i : Nat), kt l i = [] ↔ ∀ x ∈ l, ¬ x > 0
  | [], _ => by simp [kt]
  | k :: r, i => by
    unfold kt
    by_cases h : k > 0
    · rw [if_pos h]
      constructor
      · intro e
        have := kl_head k i (kt r (i + 1))
        rw [e] at this
        cases this
      · intro e
        exact absurd h (e k (by simp))
    · rw [if_neg h, List.nil_append, kt_nil r (i + 1)]
      simp only [List.mem_cons, forall_eq_or_imp]
      exact ⟨fun e => ⟨h, e⟩, fun e => e.2⟩
theorem kt_head : ∀ (l : List Int) (i : Nat), kt l i ≠ [] → (kt l i).head? = some 115
  | [], _, h => absurd rfl h
  | k :: r, i, h => by
    unfold kt at h ⊢
    by_cases hk : k > 0
    · rw [if_pos hk]
      exact kl_head k i _
    · rw [if_neg hk, List.nil_append] at h ⊢
      exact kt_head r (i + 1) h
theorem kt_len : ∀ (l : List Int) (i : Nat), i + l.length ≤ 1000 → (kt l i).length ≤ 100 * l.length
  | [], _, _ => by simp [kt]
  | k :: r, i, h => by
    simp only [List.length_cons] at h
    have h1 := kt_len r (i + 1) (by omega)
    have h2 := dec_len 4 i (by omega) (by omega)
    have h3 : (kw k).length ≤ 7 := by unfold kw; (repeat' split) <;> simp
    unfold kt
    rw [List.length_append]
    split
    · simp only [kl, List.length_append, List.length_cons, List.length_nil]
      omega
    · simp only [List.length_nil, List.length_cons]
      omega
theorem ktext_right (l : List Int) (h : ∀ x ∈ l, 0 ≤ x) : ktext l = [114, 105, 103, 104, 116, 10] ↔ l.sum = 0 := by
  unfold ktext
  rw [sum_zero l h]
  by_cases hk : kt l 0 = []
  · rw [if_pos hk]
    have := (kt_nil l 0).1 hk
    exact ⟨fun _ x hx => by have := h x hx; have := (kt_nil l 0).1 hk x hx; omega, fun _ => rfl⟩
  · rw [if_neg hk]
    constructor
    · intro e
      have := kt_head l 0 hk
      rw [e] at this
      cases this
    · intro e
      exact absurd ((kt_nil l 0).2 (fun x hx => by rw [e x hx]; omega)) hk

/-! ### draws -/
/-- It ends, with an answer of a kind. -/
def Tot {α : Type} (g : Nat → Option α) (Q : α → Prop) : Prop := ∃ r, Ev g r ∧ Q r
theorem Tot.go {α β : Type} {g : Nat → Option α} {f : Nat → α → Option β} {Q : α → Prop} {R : β → Prop} (h : Tot g Q) (k : ∀ a, Q a → Tot (fun n => f n a) R) : Tot (fun n => (g n).bind (f n)) R := by
  obtain ⟨a, h1, h2⟩ := h
  obtain ⟨r, h3, h4⟩ := k a h2
  exact ⟨r, Ev.go h1 h3, h4⟩
theorem Tot.now {α : Type} {Q : α → Prop} {r : α} (h : Q r) : Tot (fun _ => some r) Q := ⟨r, Ev.const rfl, h⟩
theorem Tot.of {α : Type} {Q : α → Prop} {o : Option α} {r : α} (e : o = some r) (h : Q r) : Tot (fun _ => o) Q := ⟨r, Ev.const e, h⟩
theorem Tot.ite {α : Type} {c : Prop} [Decidable c] {f g : Nat → Option α} {Q : α → Prop} (h1 : c → Tot f Q) (h2 : ¬ c → Tot g Q) : Tot (fun k => if c then f k else g k) Q := by
  by_cases h : c
  · obtain ⟨r, a, b⟩ := h1 h; exact ⟨r, Ev.congr (fun k => if_pos h) a, b⟩
  · obtain ⟨r, a, b⟩ := h2 h; exact ⟨r, Ev.congr (fun k => if_neg h) a, b⟩
theorem Tot.pos {α : Type} {c : Prop} [Decidable c] {f g : Nat → Option α} {Q : α → Prop} (h : c) (h1 : Tot f Q) : Tot (fun k => if c then f k else g k) Q := Tot.ite (fun _ => h1) (fun n => absurd h n)
theorem Tot.neg {α : Type} {c : Prop} [Decidable c] {f g : Nat → Option α} {Q : α → Prop} (h : ¬ c) (h1 : Tot g Q) : Tot (fun k => if c then f k else g k) Q := Tot.ite (fun n => absurd n h) (fun _ => h1)
theorem Tot.step {α : Type} {g f : Nat → Option α} {Q : α → Prop} (h : ∀ k, g (k + 1) = f k) (k : Tot f Q) : Tot g Q := by
  obtain ⟨r, a, b⟩ := k
  exact ⟨r, Ev.step h a, b⟩
theorem Tot.congr {α : Type} {g f : Nat → Option α} {Q : α → Prop} (h : ∀ k, g k = f k) (k : Tot f Q) : Tot g Q := by
  obtain ⟨r, a, b⟩ := k
  exact ⟨r, Ev.congr h a, b⟩
theorem Tot.mono {α : Type} {g : Nat → Option α} {Q R : α → Prop} (h : Tot g Q) (m : ∀ r, Q r → R r) : Tot g R := by
  obtain ⟨r, a, b⟩ := h
  exact ⟨r, a, m r b⟩
theorem Tot.ev {α : Type} {g : Nat → Option α} {r : α} (h : Ev g r) : Tot g (fun x => x = r) := ⟨r, h, rfl⟩
theorem Tot.shift {α : Type} {g : Nat → Option α} {Q : α → Prop} (h : Tot (fun k => g (k + 1)) Q) : Tot g Q := Tot.step (fun _ => rfl) h
/-- A source of numbers. -/
structure Src (C : List Int) (a s : Int) : Prop where
  len : C.length ≤ 4096
  byte : ∀ x ∈ C, 0 ≤ x ∧ x ≤ 255
  a0 : 0 ≤ a
  a1 : a ≤ C.length
  s0 : 0 ≤ s
  s1 : s ≤ 2147483646
theorem Src.rd {C : List Int} {a s : Int} (h : Src C a s) {i : Int} (h0 : 0 ≤ i) (h1 : i < C.length) : 0 ≤ Go.Proofs.YtfijcffhkobhbaaDoorW.PrintWords.rd C i ∧ Go.Proofs.YtfijcffhkobhbaaDoorW.PrintWords.rd C i ≤ 255 := by
  rw [rd_lt h0 h1]
  exact h.byte _ (List.getElem_mem _)
theorem next_is {C : List Int} {a s : Int} (h : Src C a s) (n : Int) (hn : n ≤ 1000000000000) : ∃ r a' s', spec_l01Next.f C a s n = some (r, a', s') ∧ Src C a' s' ∧ 0 ≤ r ∧ (1 ≤ n → r < n) ∧ (n ≤ 1 → r = 0) := by
  unfold spec_l01Next.f
  by_cases h1 : n ≤ 1
  · rw [if_pos h1]
    exact ⟨0, a, s, rfl, h, by omega, by omega, fun _ => rfl⟩
  rw [if_neg h1]
  have hs0 := h.s0
  have hs1 := h.s1
  have ha0 := h.a0
  have ha1 := h.a1
  have hl := h.len
  have e1 : wrap64 (s * 48271) = s * 48271 := wr (by omega) (by omega)
  have e2 : wrap64 (s * 48271 + 61) = s * 48271 + 61 := wr (by omega) (by omega)
  have e3 : Int.tmod (s * 48271 + 61) 2147483647 = (s * 48271 + 61) % 2147483647 := Int.tmod_eq_emod_of_nonneg (by omega)
  simp only [e1, e2, e3]
  generalize ht : (s * 48271 + 61) % 2147483647 = t
  have t0 : 0 ≤ t ∧ t ≤ 2147483646 := by omega
  have e4 : Int.tdiv t 31 = t / 31 := Int.tdiv_eq_ediv_of_nonneg t0.1
  have e5 : wrap64 (t / 31) = t / 31 := wr (by omega) (by omega)
  simp only [e4, e5]
  have key : ∀ X : Int, 0 ≤ X → 0 ≤ Int.tmod X n ∧ Int.tmod X n < n := fun X hX => by
    rw [Int.tmod_eq_emod_of_nonneg hX]
    exact ⟨Int.emod_nonneg _ (by omega), Int.emod_lt_of_pos _ (by omega)⟩
  have hn0 : ¬ n = 0 := by omega
  by_cases h2 : a < C.length
  · have hb := h.rd h.a0 h2
    have e6 : wrap64 (a + 1) = a + 1 := wr (by omega) (by omega)
    have e7 : wrap64 (a + 1 - 1) = a := by rw [wr (by omega) (by omega)]; omega
    have hS : Src C (a + 1) t := ⟨h.len, h.byte, by omega, by omega, t0.1, t0.2⟩
    rw [if_pos h2, if_pos h.a0]
    simp only [e6, e7]
    have e8 : wrap64 (rd C a) = rd C a := wr (by omega) (by omega)
    have e9 : wrap64 (t / 31 + rd C a) = t / 31 + rd C a := wr (by omega) (by omega)
    simp only [e8, e9, if_neg hn0, if_pos h.a0, if_pos h2]
    have k1 := key (rd C a) hb.1
    have k2 := key (t / 31 + rd C a) (by omega)
    by_cases h3 : n ≤ 256
    · rw [if_pos h3]
      by_cases h4 : Int.tmod (a + 1) 2 = 0
      · rw [if_pos h4]
        exact ⟨_, _, _, rfl, hS, k1.1, fun _ => k1.2, by omega⟩
      · rw [if_neg h4]
        exact ⟨_, _, _, rfl, hS, k2.1, fun _ => k2.2, by omega⟩
    · rw [if_neg h3]
      exact ⟨_, _, _, rfl, hS, k2.1, fun _ => k2.2, by omega⟩
  · rw [if_neg h2, if_neg hn0]
    have k3 := key (t / 31) (by omega)
    exact ⟨_, _, _, rfl, ⟨h.len, h.byte, h.a0, h.a1, t0.1, t0.2⟩, k3.1, fun _ => k3.2, by omega⟩
/-- One draw, and what goes on behind it. -/
theorem Tot.next {β : Type} {C : List Int} {a s n : Int} {f : Nat → Int × Int × Int → Option β} {R : β → Prop} (h : Src C a s) (hn : n ≤ 1000000000000)
    (k : ∀ r a' s', Src C a' s' → 0 ≤ r → (1 ≤ n → r < n) → (n ≤ 1 → r = 0) → Tot (fun m => f m (r, a', s')) R) : Tot (fun m => (spec_l01Next.f C a s n).bind (f m)) R := by
  obtain ⟨r, a', s', e, h1, h2, h3, h4⟩ := next_is h n hn
  rw [e]
  exact k r a' s' h1 h2 h3 h4
theorem from_l0 (C : List Int) (hl : C.length ≤ 4096) (hb : ∀ x ∈ C, 0 ≤ x ∧ x ≤ 255) : ∀ (d : Nat) (i s : Int), 0 ≤ i → i + d = C.length → 0 ≤ s → s ≤ 2147483646 →
    Tot (fun k => spec_l01From.l0 k C i C 0 s) (fun r => r.1 = C ∧ Src C r.2.1 r.2.2) := by
  intro d
  induction d with
  | zero =>
    intro i s hi hd h0 h1
    refine Tot.step (f := fun _ => some (C, 0, s)) (fun k => ?_) (Tot.now ⟨rfl, hl, hb, by simp, by simp, h0, h1⟩)
    simp only [spec_l01From.l0]
    rw [if_neg (by omega)]
  | succ d ih =>
    intro i s hi hd h0 h1
    by_cases h64 : i < 64
    · have hr : 0 ≤ rd C i ∧ rd C i ≤ 255 := by
        rw [rd_lt hi (by omega)]
        exact hb _ (List.getElem_mem _)
      have e1 : wrap64 (s * 71) = s * 71 := wr (by omega) (by omega)
      have e2 : wrap64 (rd C i) = rd C i := wr (by omega) (by omega)
      have e3 : wrap64 (s * 71 + rd C i) = s * 71 + rd C i := wr (by omega) (by omega)
      have e4 : Int.tmod (s * 71 + rd C i) 2147483647 = (s * 71 + rd C i) % 2147483647 := Int.tmod_eq_emod_of_nonneg (by omega)
      refine Tot.step (fun k => ?_) (ih (i + 1) ((s * 71 + rd C i) % 2147483647) (by omega) (by omega) (by omega) (by omega))
      simp only [spec_l01From.l0]
      rw [if_pos (by omega), if_pos h64, if_pos hi, wr (x := i + 1) (by omega) (by omega), e1, e2, e3, e4]
    · refine Tot.step (f := fun _ => some (C, 0, s)) (fun k => ?_) (Tot.now ⟨rfl, hl, hb, by simp, by simp, h0, h1⟩)
      simp only [spec_l01From.l0]
      rw [if_pos (by omega), if_neg h64]
theorem from_tot (C : List Int) (hl : C.length ≤ 4096) (hb : ∀ x ∈ C, 0 ≤ x ∧ x ≤ 255) : Tot (fun k => spec_l01From.f k C) (fun r => r.1 = C ∧ Src C r.2.1 r.2.2) :=
  from_l0 C hl hb C.length 0 88007 (by omega) (by omega) (by omega) (by omega)
theorem byteI {x : Int} (h : (Lit.int .u8 x).wf = true) : 0 ≤ x ∧ x ≤ 255 := by
  simp [Lit.wf, IntKind.min, IntKind.max, IntKind.bits, IntKind.signed] at h
  omega

theorem pick_is {C : List Int} {a s : Int} (h : Src C a s) (l : List Int) (h1 : 1 ≤ l.length) (h2 : l.length ≤ 1000000) : ∃ r a' s', spec_l01Pick.f C a s l = some (r, a', s') ∧ Src C a' s' ∧ r ∈ l := by
  obtain ⟨r, a', s', e, g1, g2, g3, _⟩ := next_is h (l.length : Int) (by omega)
  have hr : r < (l.length : Int) := g3 (by omega)
  refine ⟨rd l r, a', s', ?_, g1, ?_⟩
  · unfold spec_l01Pick.f
    rw [e]
    simp only [Option.bind_some]
    rw [if_pos g2, if_pos hr]
  · rw [rd_lt g2 hr]
    exact List.getElem_mem _
theorem Tot.pick {β : Type} {C : List Int} {a s : Int} {l : List Int} {f : Nat → Int × Int × Int → Option β} {R : β → Prop} (h : Src C a s) (h1 : 1 ≤ l.length) (h2 : l.length ≤ 1000000)
    (k : ∀ r a' s', Src C a' s' → r ∈ l → Tot (fun m => f m (r, a', s')) R) : Tot (fun m => (spec_l01Pick.f C a s l).bind (f m)) R := by
  obtain ⟨r, a', s', e, g1, g2⟩ := pick_is h l h1 h2
  rw [e]
  exact k r a' s' g1 g2

/-! ### the draws of a diagnosis -/
theorem part_any (a b c : Int) (ha : 0 ≤ a ∧ a ≤ 6) (hc : 0 ≤ c ∧ c ≤ 6) : ∃ t, spec_l14Part.f a b c = some t ∧ t.length ≤ 2 ∧ ∀ x ∈ t, -8 ≤ x ∧ x ≤ 8 := by
  have e1 : wrap64 (a + 1) = a + 1 := wr (by omega) (by omega)
  have e2 : wrap64 (-(a + 1)) = -(a + 1) := wr (by omega) (by omega)
  have e3 : wrap64 (c + 1) = c + 1 := wr (by omega) (by omega)
  unfold spec_l14Part.f
  rw [e1, e2, e3]
  repeat' split
  all_goals (refine ⟨_, rfl, by simp, fun x hx => ?_⟩; simp at hx; try omega)
def BlkQ (C : List Int) (r : Int × List Int × Int × Int) : Prop := r.2.1.length ≤ 30 ∧ (∀ x ∈ r.2.1, -8 ≤ x ∧ x ≤ 8) ∧ Src C r.2.2.1 r.2.2.2
theorem drawBlock_l0 (n : Nat) (hn : 1 ≤ n ∧ n ≤ 6) : ∀ (d i : Nat) {C : List Int} {a s : Int} (_ : Src C a s) (b : List Int), i + d = n → b.length ≤ 2 * i → (∀ x ∈ b, -8 ≤ x ∧ x ≤ 8) →
    Tot (fun k => spec_l14DrawBlock.l0 k (n : Int) b (i : Int) C a s) (BlkQ C)
  | 0, i, C, a, s, h, b, hi, hb, hx => by
    have w1 : wrap64 ((n : Int) + 1) = n + 1 := wr (by omega) (by omega)
    have w2 : wrap64 (-(n : Int)) = -n := wr (by omega) (by omega)
    have w3 : wrap64 (-(n : Int) - 1) = -n - 1 := wr (by omega) (by omega)
    refine Tot.shift ?_
    simp only [spec_l14DrawBlock.l0, w1, w2, w3]
    refine Tot.neg (by omega) ?_
    refine Tot.next h (by omega) fun r a s h _ _ _ => ?_
    refine Tot.ite (fun _ => ?_) (fun _ => Tot.ite (fun _ => ?_) (fun _ => Tot.ite (fun _ => ?_) (fun _ => Tot.now ⟨by simp only; omega, hx, h⟩)))
    · refine Tot.pick h (by simp) (by simp) fun r a s h hr => ?_
      refine Tot.pos (by omega) (Tot.now ⟨by simp; omega, fun x hx' => ?_, h⟩)
      simp only [List.mem_append, List.mem_singleton] at hx'
      rcases hx' with hx' | rfl
      · exact hx x hx'
      · simp only [List.mem_cons, List.not_mem_nil, or_false] at hr
        omega
    · refine Tot.pos (by omega) (Tot.now ⟨by simp; omega, fun x hx' => ?_, h⟩)
      simp only [List.mem_append] at hx'
      rcases hx' with hx' | hx' <;> exact hx x hx'
    · exact Tot.pick h (by simp) (by simp) fun r a s h hr => Tot.now ⟨by simp only; omega, hx, h⟩
  | d + 1, i, C, a, s, h, b, hi, hb, hx => by
    refine Tot.shift ?_
    simp only [spec_l14DrawBlock.l0]
    refine Tot.pos (by omega) ?_
    refine Tot.next h (by omega) fun r a s h r0 r1 _ => ?_
    refine Tot.next h (by omega) fun o a s h o0 o1 _ => ?_
    have o2 := o1 (by omega)
    obtain ⟨t, ht, htl, htx⟩ := part_any (i : Int) (mx 0 (wrap64 ((r, a, s).1 - 5))) o (by omega) (by omega)
    simp only at ht ⊢
    rw [ht]
    simp only [Option.bind_some]
    refine Tot.pos (by omega) ?_
    rw [show wrap64 ((i : Int) + 1) = ((i + 1 : Nat) : Int) by rw [wr (by omega) (by omega)]; omega]
    refine drawBlock_l0 n hn d (i + 1) h (b ++ t) (by omega) (by simp; omega) (fun x hx' => ?_)
    rcases List.mem_append.1 hx' with hx' | hx'
    · exact hx x hx'
    · exact htx x hx'
theorem drawBlock_tot {C : List Int} {a s : Int} (h : Src C a s) : Tot (fun k => spec_l14DrawBlock.f k C a s) (BlkQ C) := by
  unfold spec_l14DrawBlock.f
  refine Tot.next h (by omega) fun r a s h r0 r1 _ => ?_
  have r2 := r1 (by omega)
  rw [show wrap64 (1 + (r, a, s).1) = ((1 + r.toNat : Nat) : Int) by rw [wr (by simp only; omega) (by simp only; omega)]; simp only; omega]
  exact drawBlock_l0 (1 + r.toNat) (by omega) (1 + r.toNat) 0 h [] (by omega) (by simp) (by simp)
theorem drawBlk_tot {C : List Int} {a s : Int} (h : Src C a s) : Tot (fun k => spec_l28DrawBlock.f k C a s) (fun r => r.2.2.1.length ≤ 30 ∧ (∀ x ∈ r.2.2.1, -8 ≤ x ∧ x ≤ 8) ∧ Src C r.2.2.2.1 r.2.2.2.2) := by
  unfold spec_l28DrawBlock.f
  refine Tot.go (drawBlock_tot h) fun b hb => ?_
  obtain ⟨hl, hx, h⟩ := hb
  refine Tot.pick h (by simp) (by simp) fun r a s h _ => ?_
  refine Tot.next h (by omega) fun q a s h _ _ _ => ?_
  refine Tot.ite (fun _ => ?_) (fun _ => Tot.now ⟨hl, hx, h⟩)
  exact Tot.pick h (by simp) (by simp) fun r a s h _ => Tot.now ⟨hl, hx, h⟩
def PagQ (C : List Int) (r : Int × Int × List Int × Int × Int) : Prop := r.2.2.1.length ≤ 4000 ∧ (∀ x ∈ r.2.2.1, -10000 ≤ x ∧ x ≤ 10000)
theorem drawPages_j0 {C : List Int} {a s : Int} (h : Src C a s) (n u : Int) (p : List Int) (hl : p.length ≤ 4000) (hx : ∀ x ∈ p, -3000 ≤ x ∧ x ≤ 3000) : Tot (fun k => spec_l28DrawPages.j0 k n u p C a s) (PagQ C) := by
  refine Tot.shift ?_
  simp only [spec_l28DrawPages.j0]
  have hn : Tot (fun _ => some (n, u, p, a, s)) (PagQ C) := Tot.now ⟨hl, fun x hx' => by have := hx x hx'; omega⟩
  refine Tot.ite (fun hp => ?_) (fun _ => hn)
  refine Tot.next h (by omega) fun r a s h r0 r1 _ => ?_
  have r2 := r1 (by omega)
  refine Tot.next h (by omega) fun q a s h _ _ _ => ?_
  refine Tot.ite (fun _ => ?_) (fun _ => Tot.ite (fun _ => ?_) (fun _ => Tot.now ⟨hl, fun x hx' => by have := hx x hx'; omega⟩))
  · refine Tot.pos r0 (Tot.pos r2 ?_)
    have hr : -3000 ≤ rd p r ∧ rd p r ≤ 3000 := by rw [rd_lt r0 r2]; exact hx _ (List.getElem_mem _)
    have w1 : wrap64 (-(rd p r)) = -(rd p r) := wr (by omega) (by omega)
    have w2 : wrap64 (rd p r + 1) = rd p r + 1 := wr (by omega) (by omega)
    simp only [w1, w2]
    refine Tot.pick h (by simp) (by simp) fun z a s h hz => Tot.now ⟨by simpa using hl, fun x hx' => ?_⟩
    simp only [List.mem_cons, List.not_mem_nil, or_false] at hz
    rcases List.mem_or_eq_of_mem_set hx' with hx' | rfl
    · have := hx x hx'; omega
    · omega
  · refine Tot.pos r0 (Tot.pos (by omega) (Tot.now ⟨by simp; omega, fun x hx' => ?_⟩))
    have := hx x (List.mem_of_mem_take hx')
    omega
theorem allP_bd (u : Int) (b : List Int) (hu : 0 ≤ u ∧ u ≤ 128) (hb : ∀ x ∈ b, -12 ≤ x ∧ x ≤ 12) : ∀ x ∈ allP u b, -3000 ≤ x ∧ x ≤ 3000 := by
  intro x hx
  unfold allP at hx
  obtain ⟨y, hy, hx⟩ := List.mem_flatMap.1 hx
  unfold pg at hx
  obtain ⟨k, hk, rfl⟩ := List.mem_map.1 hx
  have hk' := List.mem_range.1 hk
  have h1 := hb y hy
  have h2 := mul_bd h1 hu
  have h3 := mul_bd (s := y - 1 + 0) (u := u)
  unfold pgAt
  split
  · rw [Int.sub_mul]
    omega
  · omega
theorem drawPages_tot {C : List Int} {a s : Int} (h : Src C a s) : Tot (fun k => spec_l28DrawPages.f k C a s) (PagQ C) := by
  unfold spec_l28DrawPages.f
  refine Tot.go (drawBlk_tot h) fun b hb => ?_
  obtain ⟨hl, hx, h⟩ := hb
  refine Tot.go (Tot.ev (specUnit_ev b.2.1)) fun t ht => ?_
  subst ht
  refine Tot.ite (fun hu => ?_) (fun _ => drawPages_j0 h _ _ [] (by simp) (by simp))
  have hu' := unit_bd hu
  have h12 : ∀ x ∈ b.2.2.1, -12 ≤ x ∧ x ≤ 12 := fun x hx' => by have := hx x hx'; omega
  refine Tot.go (Tot.ev (specAll_ev b.2.1 b.2.2.1 (by omega) h12 (by omega))) fun p hp => ?_
  subst hp
  refine drawPages_j0 h _ _ _ ?_ (allP_bd _ _ (by omega) h12)
  rw [allP_len]
  have : b.2.2.1.length * b.2.1.toNat ≤ 30 * 128 := Nat.mul_le_mul hl (by omega)
  omega
theorem drawDia_tot (C : List Int) (hl : C.length ≤ 4096) (hb : ∀ x ∈ C, 0 ≤ x ∧ x ≤ 255) : Tot (fun k => spec_DrawDiagnosePages.f k C) (fun r => r.2.2.length ≤ 4000 ∧ ∀ x ∈ r.2.2, -10000 ≤ x ∧ x ≤ 10000) := by
  unfold spec_DrawDiagnosePages.f
  refine Tot.go (from_tot C hl hb) fun x hx => ?_
  obtain ⟨e, hx⟩ := hx
  rw [e]
  exact Tot.go (drawPages_tot hx) fun p hp => Tot.now hp
theorem drawKinds_l0 {C : List Int} : ∀ (d : Nat) {a s : Int} (_ : Src C a s) (b : List Int), d + b.length ≤ 20 → Tot (fun k => spec_DrawKindsText.l0 k b (d : Int) C a s) (fun r => r.length ≤ 100)
  | 0, a, s, h, b, hb => by
    refine Tot.shift ?_
    simp only [spec_DrawKindsText.l0]
    refine Tot.neg (by omega) ?_
    refine Tot.next h (by omega) fun r a s h _ _ _ => ?_
    refine Tot.ite (fun _ => ?_) (fun _ => Tot.ite (fun _ => ?_) (fun _ => Tot.now (by omega)))
    · exact Tot.pick h (by simp) (by simp) fun r a s h _ => Tot.pos (by omega) (Tot.now (by simp; omega))
    · refine Tot.next h (by omega) fun q a s h q0 q1 _ => ?_
      have q2 := q1 (by omega)
      rw [show wrap64 (12 + (q, a, s).1) = 12 + q from wr (by simp only; omega) (by simp only; omega)]
      exact Tot.pos (by omega) (Tot.pos (by omega) (Tot.now (by simp; omega)))
  | d + 1, a, s, h, b, hb => by
    refine Tot.shift ?_
    simp only [spec_DrawKindsText.l0]
    refine Tot.pos (by omega) ?_
    refine Tot.next h (by omega) fun r a s h _ _ _ => ?_
    refine Tot.pos (by omega) ?_
    rw [show wrap64 (((d + 1 : Nat) : Int) - 1) = (d : Int) by rw [wr (by omega) (by omega)]; omega]
    exact drawKinds_l0 d h _ (by simp; omega)
theorem drawKinds_tot (C : List Int) (hl : C.length ≤ 4096) (hb : ∀ x ∈ C, 0 ≤ x ∧ x ≤ 255) : Tot (fun k => spec_DrawKindsText.f k C) (fun r => r.length ≤ 100) := by
  unfold spec_DrawKindsText.f
  refine Tot.go (from_tot C hl hb) fun x hx => ?_
  obtain ⟨e, hx⟩ := hx
  rw [e]
  refine Tot.next hx (by omega) fun r a s h r0 r1 _ => ?_
  have r2 := r1 (by omega)
  obtain ⟨q, rfl⟩ : ∃ q : Nat, r = q := ⟨r.toNat, by omega⟩
  exact drawKinds_l0 q h [] (by simp; omega)

/-! ### the first bad page, in both programs -/
theorem rightB_l0 (n : Nat) (hn : n ≤ 100) : ∀ (d i : Nat) (acc : List Int), i + d = n → acc.length ≤ i → Ev (fun k => impl_rightBlock.l0 k acc (n : Int) (i : Int)) (acc ++ rt d (i : Int))
  | 0, i, acc, hi, ha => by
    refine Ev.step (f := fun _ => some (acc ++ rt 0 (i : Int))) (fun k => ?_) (Ev.const rfl)
    simp only [impl_rightBlock.l0]
    rw [if_neg (by omega)]
    simp [rt]
  | d + 1, i, acc, hi, ha => by
    refine Ev.step (f := fun k => impl_rightBlock.l0 k (acc ++ [(i : Int) + 1]) (n : Int) ((i + 1 : Nat) : Int)) (fun k => ?_) ?_
    · simp only [impl_rightBlock.l0]
      rw [if_pos (by omega), if_pos (by omega), wr (x := (i : Int) + 1) (by omega) (by omega)]
      rfl
    · have := rightB_l0 n hn d (i + 1) (acc ++ [(i : Int) + 1]) (by omega) (by simp; omega)
      simpa [rt] using this
theorem specFirst_l0 (n u : Int) (pages : List Int) (N : Nat) (hN : n * u = (N : Int)) (hs : N ≤ 100000) (hp : pages.length ≤ 2000000) : ∀ (d i : Nat), (max N pages.length) - i ≤ d →
    Ev (fun k => spec_FirstBadPage.l0 k n u pages (i : Int)) (fb (pages.drop i) (N - i) i) := by
  have hw : wrap64 (n * u) = (N : Int) := by rw [hN]; exact wr (by omega) (by omega)
  intro d
  induction d with
  | zero =>
    intro i hi
    have e1 : pages.drop i = [] := List.drop_of_length_le (by omega)
    have e2 : N - i = 0 := by omega
    rw [e1, e2]
    refine Ev.step (f := fun _ => some (0, 5)) (fun k => ?_) (Ev.const rfl)
    simp only [spec_FirstBadPage.l0, hw]
    rw [if_neg (by unfold mx; split <;> omega)]
  | succ d ih =>
    intro i hi
    by_cases hlt : i < max N pages.length
    · by_cases hN' : i < N
      · by_cases hp' : i < pages.length
        · rw [List.drop_eq_getElem_cons hp', show N - i = (N - (i + 1)) + 1 by omega]
          have hr : rd pages (i : Int) = pages[i] := by rw [rd_lt (by omega) (by omega)]; simp
          unfold fb
          by_cases hx : pages[i] = (i : Int) + 1
          · rw [if_pos hx]
            refine Ev.step (fun k => ?_) (ih (i + 1) (by omega))
            simp only [spec_FirstBadPage.l0, hw]
            rw [if_pos (by unfold mx; split <;> omega), if_neg (by omega), if_neg (by omega), if_pos (by omega), if_pos (by omega), wr (x := (i : Int) + 1) (by omega) (by omega), if_pos (by rw [hr, hx])]
            rfl
          · rw [if_neg hx]
            refine Ev.step (f := fun _ => some ((i : Int), 0)) (fun k => ?_) (Ev.const rfl)
            simp only [spec_FirstBadPage.l0, hw]
            rw [if_pos (by unfold mx; split <;> omega), if_neg (by omega), if_neg (by omega), if_pos (by omega), if_pos (by omega), wr (x := (i : Int) + 1) (by omega) (by omega), if_neg (by rw [hr]; exact hx)]
        · rw [List.drop_of_length_le (by omega), show N - i = (N - (i + 1)) + 1 by omega]
          refine Ev.step (f := fun _ => some ((i : Int), 0)) (fun k => ?_) (Ev.const rfl)
          simp only [spec_FirstBadPage.l0, hw]
          rw [if_pos (by unfold mx; split <;> omega), if_neg (by omega), if_pos (by omega)]
      · have hp' : i < pages.length := by omega
        rw [List.drop_eq_getElem_cons hp', show N - i = 0 by omega]
        refine Ev.step (f := fun _ => some ((i : Int), 0)) (fun k => ?_) (Ev.const rfl)
        simp only [spec_FirstBadPage.l0, hw]
        rw [if_pos (by unfold mx; split <;> omega), if_pos (by omega)]
    · have e1 : pages.drop i = [] := List.drop_of_length_le (by omega)
      have e2 : N - i = 0 := by omega
      rw [e1, e2]
      refine Ev.step (f := fun _ => some (0, 5)) (fun k => ?_) (Ev.const rfl)
      simp only [spec_FirstBadPage.l0, hw]
      rw [if_neg (by unfold mx; split <;> omega)]
theorem implFirst_l0 (pages : List Int) (N : Nat) (hs : N ≤ 100000) (hp : pages.length ≤ 2000000) : ∀ (d i : Nat), (max N pages.length) - i ≤ d →
    Ev (fun k => impl_FirstBadPage.l0 k pages (ups N 0) (mx (pages.length : Int) ((ups N 0).length : Int)) (i : Int)) (fb (pages.drop i) (N - i) i) := by
  rw [ups_len]
  intro d
  induction d with
  | zero =>
    intro i hi
    have e1 : pages.drop i = [] := List.drop_of_length_le (by omega)
    have e2 : N - i = 0 := by omega
    rw [e1, e2]
    refine Ev.step (f := fun _ => some (0, 5)) (fun k => ?_) (Ev.const rfl)
    simp only [impl_FirstBadPage.l0]
    rw [if_neg (by unfold mx; split <;> omega)]
  | succ d ih =>
    intro i hi
    by_cases hlt : i < max N pages.length
    · by_cases hN' : i < N
      · by_cases hp' : i < pages.length
        · rw [List.drop_eq_getElem_cons hp', show N - i = (N - (i + 1)) + 1 by omega]
          have hr : rd pages (i : Int) = pages[i] := by rw [rd_lt (by omega) (by omega)]; simp
          have hu : rd (ups N 0) (i : Int) = (i : Int) + 1 := by
            rw [rd_lt (by omega) (by rw [ups_len]; omega)]
            simp only [Int.toNat_natCast]
            rw [ups_get N 0 i hN']
            omega
          unfold fb
          by_cases hx : pages[i] = (i : Int) + 1
          · rw [if_pos hx]
            refine Ev.step (fun k => ?_) (ih (i + 1) (by omega))
            simp only [impl_FirstBadPage.l0, ups_len]
            rw [if_pos (by unfold mx; split <;> omega), if_neg (by omega), if_neg (by omega), if_pos (by omega), if_pos (by omega), if_pos (by omega), wr (x := (i : Int) + 1) (by omega) (by omega), if_pos (by rw [hr, hu, hx])]
            rfl
          · rw [if_neg hx]
            refine Ev.step (f := fun _ => some ((i : Int), 0)) (fun k => ?_) (Ev.const rfl)
            simp only [impl_FirstBadPage.l0, ups_len]
            rw [if_pos (by unfold mx; split <;> omega), if_neg (by omega), if_neg (by omega), if_pos (by omega), if_pos (by omega), if_pos (by omega), if_neg (by rw [hr, hu]; exact hx)]
        · rw [List.drop_of_length_le (by omega), show N - i = (N - (i + 1)) + 1 by omega]
          refine Ev.step (f := fun _ => some ((i : Int), 0)) (fun k => ?_) (Ev.const rfl)
          simp only [impl_FirstBadPage.l0, ups_len]
          rw [if_pos (by unfold mx; split <;> omega), if_pos (by omega)]
      · have hp' : i < pages.length := by omega
        rw [List.drop_eq_getElem_cons hp', show N - i = 0 by omega]
        refine Ev.step (f := fun _ => some ((i : Int), 0)) (fun k => ?_) (Ev.const rfl)
        simp only [impl_FirstBadPage.l0, ups_len]
        rw [if_pos (by unfold mx; split <;> omega), if_neg (by omega), if_pos (by omega)]
    · have e1 : pages.drop i = [] := List.drop_of_length_le (by omega)
      have e2 : N - i = 0 := by omega
      rw [e1, e2]
      refine Ev.step (f := fun _ => some (0, 5)) (fun k => ?_) (Ev.const rfl)
      simp only [impl_FirstBadPage.l0]
      rw [if_neg (by unfold mx; split <;> omega)]
/-- What either program tells of the first bad page. -/
def first (n u : Int) (pages : List Int) : Int × Int := if (blkAll n u pages).2 = 0 then fb pages (n.toNat * u.toNat) 0 else (0, (blkAll n u pages).2)
theorem line_bd {n : Int} (h : lineB n = true) : 1 ≤ n ∧ n ≤ 12 := by
  unfold lineB at h
  simpa using h
theorem specFirst_ev (n u : Int) (pages : List Int) (hw : ∀ x ∈ pages, -9223372036854775808 ≤ x ∧ x ≤ 9223372036854775807) (hp : pages.length ≤ 1048576) : Ev (fun k => spec_FirstBadPage.f k n u pages) (first n u pages) := by
  unfold spec_FirstBadPage.f first
  refine Ev.go (specBlock_ev n u pages hw hp) ?_
  by_cases h : (blkAll n u pages).2 = 0
  · simp only [if_pos h]
    obtain ⟨h1, h2, _, _⟩ := blkAll_ok h
    have hn := line_bd h1
    have hu := unit_bd h2
    have hm : n.toNat * u.toNat ≤ 12 * 128 := Nat.mul_le_mul (by omega) (by omega)
    have hN : n * u = ((n.toNat * u.toNat : Nat) : Int) := by
      rw [Int.natCast_mul, Int.toNat_of_nonneg (by omega), Int.toNat_of_nonneg (by omega)]
    have := specFirst_l0 n u pages _ hN (by omega) (by omega) _ 0 (Nat.le_refl _)
    simpa using this
  · simp only [if_neg h]
    exact Ev.const rfl
theorem implFirst_ev (n u : Int) (pages : List Int) (hw : ∀ x ∈ pages, -9223372036854775808 ≤ x ∧ x ≤ 9223372036854775807) (hp : pages.length ≤ 1048576) : Ev (fun k => impl_FirstBadPage.f k n u pages) (first n u pages) := by
  unfold impl_FirstBadPage.f first
  refine Ev.go (implBlock2_ev n u pages hw hp) ?_
  by_cases h : (blkAll n u pages).2 = 0
  · simp only [if_pos h]
    obtain ⟨h1, h2, _, _⟩ := blkAll_ok h
    have hn := line_bd h1
    have hu := unit_bd h2
    have hm : n.toNat * u.toNat ≤ 12 * 128 := Nat.mul_le_mul (by omega) (by omega)
    have hrb : Ev (fun k => impl_rightBlock.f k n) (rt n.toNat 0) := by
      unfold impl_rightBlock.f
      have := rightB_l0 n.toNat (by omega) n.toNat 0 [] (by omega) (by simp)
      rw [Int.toNat_of_nonneg (by omega)] at this
      simpa using this
    have hr := rt_ups u (by omega) n.toNat 0
    simp only [Nat.zero_mul] at hr
    have hall := implAll_ev u (rt n.toNat 0) (by omega) (fun x hx => by have := rt_mem _ _ _ hx; omega) (by rw [rt_len]; omega)
    rw [show ((0 : Nat) : Int) = 0 from rfl] at hr
    rw [hr] at hall
    refine Ev.go hrb (Ev.go hall ?_)
    have := implFirst_l0 pages (n.toNat * u.toNat) (by omega) (by omega) _ 0 (Nat.le_refl _)
    simpa using this
  · simp only [if_neg h]
    exact Ev.const rfl

/-! ### the text of kinds, in both programs -/
def kfin (u : List UInt8) : List UInt8 := if u = [] then [114, 105, 103, 104, 116, 10] else u
theorem ktext_kfin (l : List Int) : ktext l = kfin (kt l 0) := rfl
theorem kt_cons_pos {k : Int} (h : k > 0) (r : List Int) (i : Nat) : kt (k :: r) i = kl k i ++ kt r (i + 1) := by rw [kt, if_pos h]
theorem kt_cons_neg {k : Int} (h : ¬ k > 0) (r : List Int) (i : Nat) : kt (k :: r) i = kt r (i + 1) := by rw [kt, if_neg h, List.nil_append]
theorem kw_len (k : Int) : (kw k).length ≤ 7 := by unfold kw; (repeat' split) <;> simp
theorem word_is (k : Int) : spec_l28Word.f k = some (mkB (kw k)) := by
  unfold spec_l28Word.f kw
  repeat' split
  all_goals rfl
theorem words_is (k : Int) (h : 0 < k ∧ k ≤ 4) : rdOf ByteArray.empty ([(⟨#[]⟩ : ByteArray), (⟨#[109, 105, 115, 115, 105, 110, 103]⟩ : ByteArray), (⟨#[100, 111, 117, 98, 108, 101]⟩ : ByteArray), (⟨#[116, 117, 114, 110, 101, 100]⟩ : ByteArray), (⟨#[119, 114, 111, 110, 103]⟩ : ByteArray)] : List ByteArray) k = mkB (kw k) := by
  have : k = 1 ∨ k = 2 ∨ k = 3 ∨ k = 4 := by omega
  rcases this with rfl | rfl | rfl | rfl <;> rfl
theorem specKinds_l0 (l : List Int) (hl : l.length ≤ 12) : ∀ (d i : Nat) (acc : List UInt8), i + d = l.length → acc.length ≤ 100 * i →
    Ev (fun k => spec_KindsText.l0 k l (mkB acc) (i : Int)) (mkB (kfin (acc ++ kt (l.drop i) i)), 0) := by
  intro d
  induction d with
  | zero =>
    intro i acc hi ha
    rw [List.drop_of_length_le (by omega)]
    refine Ev.step (f := fun _ => some (mkB (kfin (acc ++ kt [] i)), 0)) (fun k => ?_) (Ev.const rfl)
    simp only [spec_KindsText.l0, mkB_toList, kt, List.append_nil]
    rw [if_neg (by omega)]
    unfold kfin
    by_cases h : acc = []
    · rw [if_pos h, if_pos h]; rfl
    · rw [if_neg h, if_neg h]
  | succ d ih =>
    intro i acc hi ha
    have hlt : i < l.length := by omega
    rw [List.drop_eq_getElem_cons hlt]
    have hr : rd l (i : Int) = l[i] := by rw [rd_lt (by omega) (by omega)]; simp
    by_cases hk : l[i] > 0
    · have hd := dec_len 4 i (by omega) (by omega)
      have hkw := kw_len l[i]
      have hn := ih (i + 1) (acc ++ kl l[i] i) (by omega) (by simp [kl]; omega)
      rw [kt_cons_pos hk, ← List.append_assoc]
      have es : (⟨#[115, 116, 97, 116, 105, 111, 110, 32]⟩ : ByteArray) = mkB [115, 116, 97, 116, 105, 111, 110, 32] := rfl
      have e32 : (⟨#[32]⟩ : ByteArray) = mkB [32] := rfl
      have e10 : (⟨#[10]⟩ : ByteArray) = mkB [10] := rfl
      have ek : mkB acc ++ mkB [115, 116, 97, 116, 105, 111, 110, 32] ++ mkB (Lib.decDigits i) ++ mkB [32] ++ mkB (kw l[i]) ++ mkB [10] = mkB (acc ++ kl l[i] i) := by
        simp only [mkB_app, kl, List.append_assoc]
      refine Ev.step (f := fun k => (spec_l01Dec.f k (i : Int)).bind fun t => if (mkB acc ++ mkB [115, 116, 97, 116, 105, 111, 110, 32]).size + t.size ≤ 9223372036854775807 then (if ((mkB acc ++ mkB [115, 116, 97, 116, 105, 111, 110, 32]) ++ t).size + 1 ≤ 9223372036854775807 then ((spec_l28Word.f l[i]).bind fun u => (if (((mkB acc ++ mkB [115, 116, 97, 116, 105, 111, 110, 32]) ++ t) ++ mkB [32]).size + u.size ≤ 9223372036854775807 then (if ((((mkB acc ++ mkB [115, 116, 97, 116, 105, 111, 110, 32]) ++ t) ++ mkB [32]) ++ u).size + 1 ≤ 9223372036854775807 then spec_KindsText.l0 k l (((((mkB acc ++ mkB [115, 116, 97, 116, 105, 111, 110, 32]) ++ t) ++ mkB [32]) ++ u) ++ mkB [10]) ((i + 1 : Nat) : Int) else none) else none)) else none) else none) (fun k => ?_) (Ev.go (specDec_ev i (by omega)) ?_)
      · simp only [spec_KindsText.l0, hr]
        rw [if_pos (by omega), if_pos (by omega), if_pos hk, if_pos (by rw [mkB_size]; omega), es, e32, e10, wr (x := (i : Int) + 1) (by omega) (by omega)]
        rfl
      · rw [word_is]
        simp only [Option.bind_some, ek]
        refine Ev.congr (fun k => if_pos (by simp only [mkB_app, mkB_size, List.length_append, List.length_cons, List.length_nil]; omega)) ?_
        refine Ev.congr (fun k => if_pos (by simp only [mkB_app, mkB_size, List.length_append, List.length_cons, List.length_nil]; omega)) ?_
        refine Ev.congr (fun k => if_pos (by simp only [mkB_app, mkB_size, List.length_append, List.length_cons, List.length_nil]; omega)) ?_
        refine Ev.congr (fun k => if_pos (by simp only [mkB_app, mkB_size, List.length_append, List.length_cons, List.length_nil]; omega)) ?_
        exact hn
    · have hn := ih (i + 1) acc (by omega) (by omega)
      rw [kt_cons_neg hk]
      refine Ev.step (fun k => ?_) hn
      simp only [spec_KindsText.l0, hr]
      rw [if_pos (by omega), if_pos (by omega), if_neg hk, wr (x := (i : Int) + 1) (by omega) (by omega)]
      rfl
theorem implKinds_l0 (l : List Int) (hl : l.length ≤ 12) (hx : ∀ x ∈ l, 0 ≤ x ∧ x ≤ 4) : ∀ (d i : Nat) (acc : List UInt8), i + d = l.length → acc.length ≤ 100 * i →
    Ev (fun k => impl_KindsText.l0 k ([(⟨#[]⟩ : ByteArray), (⟨#[109, 105, 115, 115, 105, 110, 103]⟩ : ByteArray), (⟨#[100, 111, 117, 98, 108, 101]⟩ : ByteArray), (⟨#[116, 117, 114, 110, 101, 100]⟩ : ByteArray), (⟨#[119, 114, 111, 110, 103]⟩ : ByteArray)] : List ByteArray) (mkB acc) l (l.length : Int) (i : Int)) (mkB (kfin (acc ++ kt (l.drop i) i)), 0) := by
  intro d
  induction d with
  | zero =>
    intro i acc hi ha
    rw [List.drop_of_length_le (by omega)]
    refine Ev.step (f := fun _ => some (mkB (kfin (acc ++ kt [] i)), 0)) (fun k => ?_) (Ev.const rfl)
    simp only [impl_KindsText.l0, mkB_toList, kt, List.append_nil]
    rw [if_neg (by omega)]
    unfold kfin
    by_cases h : acc = []
    · rw [if_pos h, if_pos h]; rfl
    · rw [if_neg h, if_neg h]
  | succ d ih =>
    intro i acc hi ha
    have hlt : i < l.length := by omega
    rw [List.drop_eq_getElem_cons hlt]
    have hr : rd l (i : Int) = l[i] := by rw [rd_lt (by omega) (by omega)]; simp
    have hb := hx _ (List.getElem_mem hlt)
    by_cases hk : l[i] > 0
    · have hd := dec_len 4 i (by omega) (by omega)
      have hkw := kw_len l[i]
      have hn := ih (i + 1) (acc ++ kl l[i] i) (by omega) (by simp [kl]; omega)
      rw [kt_cons_pos hk, ← List.append_assoc]
      have es : (⟨#[115, 116, 97, 116, 105, 111, 110, 32]⟩ : ByteArray) = mkB [115, 116, 97, 116, 105, 111, 110, 32] := rfl
      have e32 : (⟨#[32]⟩ : ByteArray) = mkB [32] := rfl
      have e10 : (⟨#[10]⟩ : ByteArray) = mkB [10] := rfl
      refine Ev.step (fun k => ?_) hn
      simp only [impl_KindsText.l0, hr, decimal_f i (by omega), Option.bind_some, words_is l[i] ⟨by omega, hb.2⟩, es, e32, e10, mkB_app, mkB_size, List.length_append, List.length_cons, List.length_nil]
      rw [if_pos (by omega), if_pos (by omega), if_pos (by omega), if_pos hk, if_pos (by omega), if_pos (by omega), if_pos (by omega), if_pos (by omega), if_pos (by omega), if_pos (by omega), if_pos (by omega), wr (x := (i : Int) + 1) (by omega) (by omega)]
      rfl
    · have hn := ih (i + 1) acc (by omega) (by omega)
      rw [kt_cons_neg hk]
      refine Ev.step (fun k => ?_) hn
      simp only [impl_KindsText.l0, hr]
      rw [if_pos (by omega), if_pos (by omega), if_pos (by omega), if_neg hk, wr (x := (i : Int) + 1) (by omega) (by omega)]
      rfl
def kindsOk (l : List Int) : Prop := (∀ x ∈ l, 0 ≤ x ∧ x ≤ 4) ∧ (l.length : Int) ≤ 12
def ktR (l : List Int) (b : Bool) : ByteArray × Int := if b = true then (mkB (ktext l), 0) else (mkB [], 2)
theorem specKinds_ev (l : List Int) (hm : l.length ≤ 1000) : ∃ b : Bool, (b = true ↔ kindsOk l) ∧ Ev (fun k => spec_KindsText.f k l) (ktR l b) := by
  have hw : Ev (fun k => spec_l01Within.f k l 12 0 4) (decide ((∀ x ∈ l.drop (0 : Int).toNat, 0 ≤ x ∧ x ≤ 4) ∧ (l.length : Int) ≤ 12)) :=
    Ev.at_ (l.length + 1) fun k hk => within_l0 l 12 0 4 (by omega) l.length k 0 (by omega) (by omega) (by omega) (by omega)
  refine ⟨decide ((∀ x ∈ l.drop (0 : Int).toNat, 0 ≤ x ∧ x ≤ 4) ∧ (l.length : Int) ≤ 12), ?_, ?_⟩
  · unfold kindsOk
    simp
  · unfold spec_KindsText.f
    refine Ev.go hw ?_
    unfold ktR
    by_cases h : decide ((∀ x ∈ l.drop (0 : Int).toNat, 0 ≤ x ∧ x ≤ 4) ∧ (l.length : Int) ≤ 12) = true
    · rw [if_pos h]
      refine Ev.congr (fun k => if_pos h) ?_
      simp only [decide_eq_true_eq] at h
      have := specKinds_l0 l (by omega) l.length 0 [] (by omega) (by simp)
      rw [ktext_kfin, show (⟨#[]⟩ : ByteArray) = mkB [] from rfl]
      simpa using this
    · rw [if_neg h]
      exact Ev.congr (fun k => if_neg h) (Ev.const rfl)
theorem implKinds_ev (l : List Int) (hm : l.length ≤ 1000) : ∃ b : Bool, (b = true ↔ kindsOk l) ∧ Ev (fun k => impl_KindsText.f k l) (ktR l b) := by
  have hno : Ev (fun k => impl_KindsText.j0 k l true) (mkB [], 2) :=
    Ev.step (f := fun _ => some (mkB [], 2)) (fun k => by simp only [impl_KindsText.j0]; rw [if_pos trivial]; rfl) (Ev.const rfl)
  by_cases hl : (l.length : Int) > 12
  · refine ⟨false, by unfold kindsOk; simp; omega, ?_⟩
    unfold impl_KindsText.f ktR
    exact Ev.congr (fun k => if_pos hl) (by simpa using hno)
  · by_cases hx : ∀ x ∈ l, 0 ≤ x ∧ x ≤ 4
    · have ha : impl_allIn.f l 0 4 = some true := by
        unfold impl_allIn.f
        simp only [Option.some.injEq, Bool.not_eq_true', List.any_eq_false]
        intro x hx'
        have := hx x hx'
        simp; omega
      refine ⟨true, by unfold kindsOk; simp; exact ⟨hx, by omega⟩, ?_⟩
      unfold impl_KindsText.f ktR
      refine Ev.congr (fun k => if_neg hl) ?_
      rw [ha]
      simp only [Option.bind_some, Bool.not_true, if_true]
      have := implKinds_l0 l (by omega) hx l.length 0 [] (by omega) (by simp)
      refine Ev.step (fun k => ?_) (by rw [ktext_kfin]; simpa using this)
      simp only [impl_KindsText.j0]
      rw [if_neg (by simp)]
      rfl
    · have ha : impl_allIn.f l 0 4 = some false := by
        unfold impl_allIn.f
        simp only [Option.some.injEq, Bool.not_eq_false', List.any_eq_true]
        have hx2 : ∃ x ∈ l, ¬ (0 ≤ x ∧ x ≤ 4) := by
          apply Classical.byContradiction
          intro hc
          exact hx (fun x hx' => Classical.byContradiction fun h => hc ⟨x, hx', h⟩)
        obtain ⟨x, h1, h2⟩ := hx2
        exact ⟨x, h1, by simp; omega⟩
      refine ⟨false, by unfold kindsOk; simp; intro h; exact absurd h hx, ?_⟩
      unfold impl_KindsText.f ktR
      refine Ev.congr (fun k => if_neg hl) ?_
      rw [ha]
      simpa using hno
/-! ### the law's own small functions -/
theorem like_l0 (xs : List Int) (hm : xs.length ≤ 2000000) : ∀ (d i : Nat), i + d = xs.length → Ev (fun k => laws_likeInts.l0 k xs xs (i : Int)) true
  | 0, i, hi => by
    refine Ev.step (f := fun _ => some true) (fun k => ?_) (Ev.const rfl)
    simp only [laws_likeInts.l0]
    rw [if_neg (by omega)]
  | d + 1, i, hi => by
    refine Ev.step (fun k => ?_) (like_l0 xs hm d (i + 1) (by omega))
    simp only [laws_likeInts.l0]
    rw [if_pos (by omega), if_pos (by omega), if_pos (by omega), if_pos trivial, wr (by omega) (by omega)]
    rfl
theorem like_ev (xs : List Int) (hm : xs.length ≤ 2000000) : Ev (fun k => laws_likeInts.f k xs xs) true := by
  unfold laws_likeInts.f
  exact Ev.congr (fun k => if_pos rfl) (like_l0 xs hm xs.length 0 (by omega))
theorem sum_l0 (xs : List Int) (hm : xs.length ≤ 1000) (hx : ∀ x ∈ xs, 0 ≤ x ∧ x ≤ 100) : ∀ (d i : Nat) (a : Int), i + d = xs.length → 0 ≤ a → a ≤ 100 * i → Ev (fun k => laws_sum.l0 k xs a (i : Int)) (a + (xs.drop i).sum)
  | 0, i, a, hi, _, _ => by
    rw [List.drop_of_length_le (by omega)]
    refine Ev.step (f := fun _ => some a) (fun k => ?_) (Ev.const (by simp))
    simp only [laws_sum.l0]
    rw [if_neg (by omega)]
  | d + 1, i, a, hi, h0, h1 => by
    have hlt : i < xs.length := by omega
    have hb := hx _ (List.getElem_mem hlt)
    have hr : rd xs (i : Int) = xs[i] := by rw [rd_lt (by omega) (by omega)]; simp
    rw [List.drop_eq_getElem_cons hlt, List.sum_cons, ← Int.add_assoc]
    refine Ev.step (fun k => ?_) (sum_l0 xs hm hx d (i + 1) (a + xs[i]) (by omega) (by omega) (by omega))
    simp only [laws_sum.l0, hr]
    rw [if_pos (by omega), if_pos (by omega), wr (x := a + xs[i]) (by omega) (by omega), wr (by omega) (by omega)]
    rfl
theorem sum_ev (xs : List Int) (hm : xs.length ≤ 1000) (hx : ∀ x ∈ xs, 0 ≤ x ∧ x ≤ 100) : Ev (fun k => laws_sum.f k xs) xs.sum := by
  unfold laws_sum.f
  have := sum_l0 xs hm hx xs.length 0 0 (by omega) (by omega) (by omega)
  simpa using this

/-! ### the law of a diagnosis -/
theorem dia_j4 (n u : Int) (pages : List Int) (hw : ∀ x ∈ pages, -9223372036854775808 ≤ x ∧ x ≤ 9223372036854775807) (hp : pages.length ≤ 1048576) :
    Ev (fun k => laws_FnDiagnosed.j4 k n u pages (diag n u pages).1 (diag n u pages).2 (first n u pages).2) true := by
  by_cases h0 : (diag n u pages).2 = 0
  · have hb : (blkAll n u pages).2 = 0 := by
      unfold diag at h0
      by_cases h : (blkAll n u pages).2 = 0
      · exact h
      · rw [if_neg h] at h0; exact h0
    have he : (expl n (blkAll n u pages).1).2 = 0 := by
      unfold diag at h0
      rw [if_pos hb] at h0
      by_cases h : (expl n (blkAll n u pages).1).2 = 0
      · exact h
      · rw [if_neg h] at h0; cases h0
    have hd : (diag n u pages).1 = (expl n (blkAll n u pages).1).1 := by
      unfold diag
      rw [if_pos hb, if_pos he]
    obtain ⟨h1, h2, h3, h4⟩ := blkAll_ok hb
    have hn := line_bd h1
    have hu := unit_bd h2
    have hl24 := blk_small n u pages
    have hex : ∃ l, ex n.toNat 0 (blkAll n u pages).1 = some l ∧ (expl n (blkAll n u pages).1).1 = l := by
      unfold expl at he ⊢
      rw [if_pos h3] at he ⊢
      cases hx : ex n.toNat 0 (blkAll n u pages).1 with
      | none => rw [hx] at he; cases he
      | some l => exact ⟨l, rfl, rfl⟩
    obtain ⟨l, hl1, hl2⟩ := hex
    have hok := ex_ok n.toNat 0 _ l hl1
    have hS := ex_sum hl1
    have hR := blk_right hu h3 h4
    have hF := fb_five pages (n.toNat * u.toNat) 0
    have hBP : Ev (fun k => impl_BlockOfPages.f k n u pages) ((blkAll n u pages).1, (blkAll n u pages).2) := by
      unfold impl_BlockOfPages.f
      exact Ev.go (implBlock2_ev n u pages hw hp) (Ev.const rfl)
    have hE := implExplain_ev n (blkAll n u pages).1 (by omega)
    refine Ev.step (f := fun k => (impl_BlockOfPages.f k n u pages).bind fun a => (impl_ExplainBlock.f k n a.1).bind fun b => if a.2 = 0 then (if b.2 = 0 then ((laws_likeInts.f k b.1 (diag n u pages).1).bind fun t => if t = true then ((laws_sum.f k (diag n u pages).1).bind fun s => some ((s == 0) == ((first n u pages).2 == 5))) else some false) else some false) else some false) (fun k => ?_) (Ev.go hBP (Ev.go hE ?_))
    · simp only [laws_FnDiagnosed.j4]
      rw [if_pos h0]
    · simp only [if_pos hb, if_pos he]
      rw [hd, hl2]
      refine Ev.go (like_ev l (by rw [hok.1]; omega)) ?_
      simp only [if_true]
      refine Ev.go (sum_ev l (by rw [hok.1]; omega) (fun x hx => by have := hok.2 x hx; omega)) (Ev.const ?_)
      have e : (l.sum == 0) = ((first n u pages).2 == 5) := by
        rw [Bool.eq_iff_iff, beq_iff_eq, beq_iff_eq, hS]
        unfold first
        rw [if_pos hb, hF]
        exact hR
      rw [e]
      simp
  · refine Ev.step (f := fun _ => some true) (fun k => ?_) (Ev.const rfl)
    simp only [laws_FnDiagnosed.j4]
    rw [if_neg h0]
theorem dia_l0 (n u : Int) (pages ks : List Int) (c c2 : Int) (p : Nat) (hp : p ≤ pages.length) (hpl : pages.length ≤ 1048576) (heq : ∀ (j : Nat) (h : j < pages.length), j < p → pages[j] = (j : Int) + 1)
    (h4 : Ev (fun k => laws_FnDiagnosed.j4 k n u pages ks c c2) true) : ∀ (d j : Nat), j + d = p → Ev (fun k => laws_FnDiagnosed.l0 k n u pages ks c (p : Int) c2 (j : Int)) true
  | 0, j, hj => by
    refine Ev.step (fun k => ?_) h4
    simp only [laws_FnDiagnosed.l0]
    rw [if_neg (by omega)]
  | d + 1, j, hj => by
    have hlt : j < pages.length := by omega
    have hr : rd pages (j : Int) = pages[j] := by rw [rd_lt (by omega) (by omega)]; simp
    refine Ev.step (fun k => ?_) (dia_l0 n u pages ks c c2 p hp hpl heq h4 d (j + 1) (by omega))
    simp only [laws_FnDiagnosed.l0]
    rw [if_pos (by omega), if_pos (by omega), if_pos (by omega), wr (x := (j : Int) + 1) (by omega) (by omega), if_pos (by rw [hr]; exact heq j hlt (by omega))]
    rfl
theorem dia_j1 (n u : Int) (pages : List Int) (hw : ∀ x ∈ pages, -9223372036854775808 ≤ x ∧ x ≤ 9223372036854775807) (hp : pages.length ≤ 1048576) :
    Ev (fun k => laws_FnDiagnosed.j1 k n u pages (diag n u pages).1 (diag n u pages).2 (first n u pages).1 (first n u pages).2 false) true := by
  have h4 := dia_j4 n u pages hw hp
  by_cases h0 : (first n u pages).2 = 0
  · have hb : (blkAll n u pages).2 = 0 := by
      unfold first at h0
      by_cases h : (blkAll n u pages).2 = 0
      · exact h
      · rw [if_neg h] at h0; exact h0
    obtain ⟨h1, h2, h3, _⟩ := blkAll_ok hb
    have hn := line_bd h1
    have hu := unit_bd h2
    have hm : n.toNat * u.toNat ≤ 12 * 128 := Nat.mul_le_mul (by omega) (by omega)
    have hN : n * u = ((n.toNat * u.toNat : Nat) : Int) := by
      rw [Int.natCast_mul, Int.toNat_of_nonneg (by omega), Int.toNat_of_nonneg (by omega)]
    have hwN : wrap64 (n * u) = ((n.toNat * u.toNat : Nat) : Int) := by rw [hN]; exact wr (by omega) (by omega)
    have hfb : (fb pages (n.toNat * u.toNat) 0).2 = 0 := by
      unfold first at h0
      rwa [if_pos hb] at h0
    obtain ⟨p, e1, e2, e3, e4, e5⟩ := fb_at pages _ 0 hfb
    have hp1 : (first n u pages).1 = (p : Int) := by
      unfold first
      rw [if_pos hb, e1]
      omega
    have hl0 := dia_l0 n u pages (diag n u pages).1 (diag n u pages).2 (first n u pages).2 p e2 hp (fun j h hj => by rw [e4 j h hj]; omega) h4 p 0 (by omega)
    have hj2 : Ev (fun k => laws_FnDiagnosed.j2 k n u pages (diag n u pages).1 (diag n u pages).2 (p : Int) (first n u pages).2 false) true := by
      refine Ev.step (fun k => ?_) hl0
      simp only [laws_FnDiagnosed.j2]
      rw [if_neg (by simp)]
      rfl
    rw [hp1]
    refine Ev.step (fun k => ?_) hj2
    simp only [laws_FnDiagnosed.j1]
    rw [if_neg (by simp), if_pos h0, hwN]
    by_cases c1 : (p : Int) < (pages.length : Int)
    · rw [if_pos c1]
      by_cases c2 : (p : Int) < ((n.toNat * u.toNat : Nat) : Int)
      · rw [if_pos c2, if_pos (by omega)]
        have hr : rd pages (p : Int) = pages[p]'(by omega) := by rw [rd_lt (by omega) (by omega)]; simp
        have hne := e5 (by omega) (by omega)
        rw [wr (x := (p : Int) + 1) (by omega) (by omega), hr]
        have : (pages[p]'(by omega) == (p : Int) + 1) = false := by
          rw [beq_eq_false_iff_ne]
          intro e
          exact hne (by rw [e]; omega)
        rw [this]
      · rw [if_neg c2]
    · rw [if_neg c1]
  · refine Ev.step (fun k => ?_) h4
    simp only [laws_FnDiagnosed.j1]
    rw [if_neg (by simp), if_neg h0]
theorem FnDiagnosed : laws_FnDiagnosed.Pure := by
  intro C _ hC hw
  refine Ev.rounds (g := fun k => laws_FnDiagnosed.f k C) ?_
  unfold laws_FnDiagnosed.f laws_big.f
  simp only [Option.bind_some, decide_eq_true_eq]
  by_cases hbig : (C.length : Int) > 4096
  · exact Ev.congr (fun k => if_pos hbig) (Ev.const rfl)
  refine Ev.congr (fun k => if_neg hbig) ?_
  have hb : ∀ x ∈ C, 0 ≤ x ∧ x ≤ 255 := fun x hx => byteI (hw x hx)
  obtain ⟨⟨n, u, pages⟩, h1, hl, hx⟩ := drawDia_tot C (by omega) hb
  obtain ⟨ks, h2, hk⟩ := drawKinds_tot C (by omega) hb
  simp only at hl hx
  have hx' : ∀ x ∈ pages, -9223372036854775808 ≤ x ∧ x ≤ 9223372036854775807 := fun x hxx => by have := hx x hxx; omega
  obtain ⟨b1, hb1, hk1⟩ := implKinds_ev ks (by omega)
  obtain ⟨b2, hb2, hk2⟩ := specKinds_ev ks (by omega)
  have hbb : b1 = b2 := by
    rw [Bool.eq_iff_iff, hb1, hb2]
  subst hbb
  refine Ev.go h1 (Ev.go (implDiag_ev n u pages hx' (by omega)) (Ev.go (specDiag_ev n u pages hx' (by omega)) (Ev.go (implFirst_ev n u pages hx' (by omega)) (Ev.go (specFirst_ev n u pages hx' (by omega)) (Ev.go h2 (Ev.go hk1 (Ev.go hk2 ?_)))))))
  simp only [if_true]
  have hd12 := diag_small n u pages
  refine Ev.go (like_ev (diag n u pages).1 (by omega)) ?_
  simp only [if_true, bne_self_eq_false]
  have hj1 := dia_j1 n u pages hx' (by omega)
  cases b1 with
  | true =>
    have hok := hb1.1 rfl
    have hr := ktext_right ks (fun x hxx => (hok.1 x hxx).1)
    have e : (((mkB (ktext ks)).toList == ([114, 105, 103, 104, 116, 10] : List UInt8)) != (ks.sum == 0)) = false := by
      rw [mkB_toList, bne_eq_false_iff_eq, Bool.eq_iff_iff, beq_iff_eq, beq_iff_eq]
      exact hr
    refine Ev.step (f := fun k => (laws_sum.f k ks).bind fun t => laws_FnDiagnosed.j1 k n u pages (diag n u pages).1 (diag n u pages).2 (first n u pages).1 (first n u pages).2 (((mkB (ktext ks)).toList == ([114, 105, 103, 104, 116, 10] : List UInt8)) != (t == 0))) (fun k => ?_) (Ev.go (sum_ev ks (by omega) (fun x hxx => by have := hok.1 x hxx; omega)) ?_)
    · simp only [laws_FnDiagnosed.j0, ktR, if_true]
      rw [if_neg (by simp)]
    · simp only [e]
      exact hj1
  | false =>
    refine Ev.step (fun k => ?_) hj1
    simp only [laws_FnDiagnosed.j0, ktR, Bool.false_eq_true, if_false]
    rw [if_neg (by omega)]

end Go.Proofs.YtfijcffhkobhbaaDoor.Pure
