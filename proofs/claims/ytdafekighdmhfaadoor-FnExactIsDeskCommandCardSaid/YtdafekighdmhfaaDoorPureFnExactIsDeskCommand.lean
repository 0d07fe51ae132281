/-
  FnExactIsDeskCommand: the program's reading of a command is the reference's, for every line.
-/
import Derived.Test.YtdafekighdmhfaaDoorPFnExactIsDeskCommandx9
set_option linter.unusedVariables false
set_option linter.unusedSimpArgs false
namespace Go.Proofs.YtdafekighdmhfaaDoor.Pure
open Go.RowKit Go.Proofs.YtdafekighdmhfaaDoor.PFnExactIsDeskCommand Go.Proofs.YtdafekighdmhfaaDoorW.PrintWords Go.Proofs.YtdafekighdmhfaaDoorW.PrintLast

theorem wr {x : Int} (h0 : -9223372036854775808 ≤ x) (h1 : x ≤ 9223372036854775807) : wrap64 x = x := by unfold wrap64; omega
theorem rd_lt {xs : List Int} {i : Int} (h0 : 0 ≤ i) (h : i < xs.length) : rd xs i = xs[i.toNat]'(by omega) := by simp [rd, show i.toNat < xs.length by omega]
theorem drop_cons {xs : List Int} {i : Int} (h0 : 0 ≤ i) (h : i < xs.length) : xs.drop i.toNat = rd xs i :: xs.drop (i + 1).toNat := by
  rw [rd_lt h0 h, show (i + 1).toNat = i.toNat + 1 by omega]
  exact List.drop_eq_getElem_cons (by omega)
theorem wfI {x : Int} (h : (Lit.int .i64 x).wf = true) : -9223372036854775808 ≤ x ∧ x ≤ 9223372036854775807 := by
  simp [Lit.wf, IntKind.min, IntKind.max, IntKind.bits, IntKind.signed] at h
  omega
theorem Ev.go {α β : Type} {g : Nat → Option α} {f : Nat → α → Option β} {a : α} {r : β} (h : Ev g a) (k : Ev (fun n => f n a) r) : Ev (fun n => (g n).bind (f n)) r := Ev.bind h k
theorem Ev.at_ {α : Type} {g : Nat → Option α} {r : α} (K : Nat) (h : ∀ k, K ≤ k → g k = some r) : Ev g r := ⟨K, h⟩
theorem Ev.const {α : Type} {o : Option α} {r : α} (h : o = some r) : Ev (fun _ => o) r := ⟨0, fun _ _ => h⟩

/-! ### texts -/
def mkB (l : List UInt8) : ByteArray := ⟨l.toArray⟩
theorem mkB_data (l : List UInt8) : (mkB l).data.toList = l := by simp [mkB]
theorem mkB_size (l : List UInt8) : (mkB l).size = l.length := by simp [mkB, ByteArray.size]
theorem mkB_toList (l : List UInt8) : (mkB l).toList = l := ByteArray.toList_mk l
theorem mkB_self (s : ByteArray) : mkB s.data.toList = s := by
  obtain ⟨⟨l⟩⟩ := s
  rfl
theorem mkB_app (a b : List UInt8) : mkB a ++ mkB b = mkB (a ++ b) := by
  apply ByteArray.ext
  rw [ByteArray.data_append]
  simp [mkB]
theorem bt_mkB (l : List UInt8) (p : Nat) (h : p < l.length) : bt (mkB l) (p : Int) = (l[p].toNat : Int) := by
  unfold bt
  rw [dif_pos (by rw [mkB_size]; simpa using h)]
  simp only [Int.toNat_natCast]
  rfl
theorem extract_mkB (l : List UInt8) (a b : Nat) : (mkB l).extract a b = mkB ((l.drop a).take (b - a)) := by
  apply ByteArray.ext
  rw [ByteArray.data_extract]
  simp [mkB]
theorem rdOf_mkB (L : List (List UInt8)) (p : Nat) : rdOf ByteArray.empty (L.map mkB) (p : Int) = mkB (L.getD p []) := by
  unfold rdOf
  simp only [Int.toNat_natCast]
  simp only [List.getD_eq_getElem?_getD, List.getElem?_map]
  cases L[p]? <;> rfl
/-! #### cut at a letter -/
def hd (u : List UInt8) : List (List UInt8) → List (List UInt8)
  | [] => [u]
  | h :: t => (u ++ h) :: t
def spl (c : UInt8) : List UInt8 → List (List UInt8)
  | [] => [[]]
  | b :: r => if b = c then [] :: spl c r else hd [b] (spl c r)
theorem hd_hd (u v : List UInt8) (L : List (List UInt8)) : hd u (hd v L) = hd (u ++ v) L := by cases L <;> simp [hd]
theorem spl_ne (c : UInt8) (l : List UInt8) : spl c l ≠ [] := by
  cases l with
  | nil => simp [spl]
  | cons b r =>
    unfold spl
    split
    · simp
    · cases spl c r <;> simp [hd]
theorem hd_nil (L : List (List UInt8)) (h : L ≠ []) : hd [] L = L := by
  cases L with
  | nil => exact absurd rfl h
  | cons x t => simp [hd]
theorem spl_app (c : UInt8) : ∀ (u v : List UInt8), (∀ b ∈ u, b ≠ c) → spl c (u ++ v) = hd u (spl c v)
  | [], v, _ => by rw [List.nil_append, hd_nil _ (spl_ne c v)]
  | b :: u, v, h => by
    rw [List.cons_append]
    unfold spl
    rw [if_neg (h b (by simp)), spl_app c u v (fun x hx => h x (by simp [hx])), hd_hd]
    cases v <;> rfl
theorem spl_none (c : UInt8) (u : List UInt8) (h : ∀ b ∈ u, b ≠ c) : spl c u = [u] := by
  have := spl_app c u [] h
  simpa [spl, hd] using this
theorem spl_sep (c : UInt8) (u v : List UInt8) (h : ∀ b ∈ u, b ≠ c) : spl c (u ++ c :: v) = u :: spl c v := by
  rw [spl_app c u _ h]
  conv => lhs; unfold spl
  rw [if_pos rfl]
  simp [hd]
theorem spl_len (c : UInt8) : ∀ l : List UInt8, (spl c l).length ≤ l.length + 1
  | [] => by simp [spl]
  | b :: r => by
    have ih := spl_len c r
    unfold spl
    split
    · simp only [List.length_cons]; omega
    · cases hx : spl c r with
      | nil => simp [hd]
      | cons x t => rw [hx] at ih; simp only [hd, List.length_cons] at ih ⊢; omega
theorem spl_mem (c : UInt8) : ∀ (l w : List UInt8), w ∈ spl c l → w.length ≤ l.length
  | [], w, h => by
    simp [spl] at h
    simp [h]
  | b :: r, w, h => by
    unfold spl at h
    split at h
    · rcases List.mem_cons.1 h with rfl | h
      · simp
      · have := spl_mem c r w h
        simp only [List.length_cons]; omega
    · cases hx : spl c r with
      | nil => exact absurd hx (spl_ne c r)
      | cons x t =>
        rw [hx] at h
        simp only [hd] at h
        rcases List.mem_cons.1 h with rfl | h
        · have := spl_mem c r x (by rw [hx]; simp)
          simp; omega
        · have := spl_mem c r w (by rw [hx]; simp [h])
          simp only [List.length_cons]; omega
theorem splitK_spl (c : UInt8) : ∀ l : List UInt8, Lib.splitK [c] 0 (Lib.count l [c]) l = spl c l
  | [] => rfl
  | b :: r => by
    have ih := splitK_spl c r
    by_cases hb : b = c
    · subst hb
      rw [Lib.count_cons_eq, Nat.add_comm]
      unfold Lib.splitK spl
      have hix : Lib.index (b :: r) [b] = 0 := by rw [Lib.index]; simp [List.isPrefixOf]
      rw [hix, if_neg (by simp), if_pos rfl, ← ih]
      simp
    · rw [Lib.count_cons_ne b c r hb]
      have hp : ([c] : List UInt8).isPrefixOf (b :: r) = false := by simp [List.isPrefixOf, Ne.symm hb]
      have hix : Lib.index (b :: r) [c] = if Lib.index r [c] == -1 then -1 else Lib.index r [c] + 1 := by rw [Lib.index, hp]; simp
      have hge := Lib.index_ge r [c]
      unfold spl
      rw [if_neg hb, ← ih]
      cases hn : Lib.count r [c] with
      | zero => simp [Lib.splitK, hd]
      | succ k =>
        conv => lhs; unfold Lib.splitK
        conv => rhs; unfold Lib.splitK
        rw [hix]
        by_cases hm : Lib.index r [c] = -1
        · rw [if_pos (beq_iff_eq.2 hm), if_pos (by simp), if_pos (beq_iff_eq.2 hm)]
          simp [hd]
        · rw [if_neg (fun e => hm (beq_iff_eq.1 e)), if_neg (fun e => by have := beq_iff_eq.1 e; omega), if_neg (fun e => hm (beq_iff_eq.1 e))]
          have e : (Lib.index r [c] + 1).toNat = (Lib.index r [c]).toNat + 1 := by omega
          rw [e]
          simp [hd]
theorem map_inj {α β : Type} {f : α → β} (hf : ∀ x y, f x = f y → x = y) : ∀ {xs ys : List α}, xs.map f = ys.map f → xs = ys
  | [], [], _ => rfl
  | [], _ :: _, h => by simp at h
  | _ :: _, [], h => by simp at h
  | x :: xs, y :: ys, h => by
    simp only [List.map_cons, List.cons.injEq] at h
    rw [hf _ _ h.1, map_inj hf h.2]
theorem splitB_spl (c : UInt8) (l : List UInt8) : Lib.splitB (mkB [c]) 0 (Lib.countB (mkB l) (mkB [c])) (mkB l) = (spl c l).map mkB := by
  apply map_inj (f := fun s : ByteArray => s.data.toList) (fun x y h => by rw [← mkB_self x, ← mkB_self y]; exact congrArg mkB h)
  rw [Lib.splitB_data, mkB_data, mkB_data]
  have e : Lib.countB (mkB l) (mkB [c]) = Lib.count l [c] := by
    unfold Lib.countB
    rw [mkB_data, mkB_data]
  rw [e, splitK_spl, List.map_map]
  conv => lhs; rw [← List.map_id (spl c l)]
  apply List.map_congr_left
  intro x _
  simp [mkB_data]
theorem split_f (c : UInt8) (l : List UInt8) (h : l.length < 4294967281) : strings_Split.f (mkB l) (mkB [c]) = some ((spl c l).map mkB) := by
  unfold strings_Split.f
  rw [if_pos ⟨by rw [mkB_size]; exact h, by rw [mkB_size]; simp⟩, splitB_spl]
theorem specSplit_l0 (l : List UInt8) (c : UInt8) (hl : l.length ≤ 1000000000) : ∀ (d k : Nat) (acc : List ByteArray) (s p : Nat), p + d = l.length → d + 1 < k → s ≤ p → acc.length ≤ p →
    spec_l01Split.l0 k (mkB l) (c.toNat : Int) acc (s : Int) (p : Int) = some (acc ++ (hd ((l.drop s).take (p - s)) (spl c (l.drop p))).map mkB) := by
  intro d
  induction d with
  | zero =>
    intro k acc s p hp hk hs ha
    obtain ⟨k, rfl⟩ : ∃ m, k = m + 2 := ⟨k - 2, by omega⟩
    simp only [spec_l01Split.l0, mkB_size]
    rw [if_pos (by omega), if_pos (by omega), if_pos (by omega), if_pos (by omega), if_pos (by omega), wr (by omega) (by omega), if_neg (by omega)]
    rw [List.drop_of_length_le (i := p) (by omega)]
    simp only [Int.toNat_natCast, extract_mkB, spl, hd, List.append_nil, List.map_cons, List.map_nil]
  | succ d ih =>
    intro k acc s p hp hk hs ha
    obtain ⟨k, rfl⟩ : ∃ m, k = m + 1 := ⟨k - 1, by omega⟩
    have hlt : p < l.length := by omega
    have hdrop : l.drop p = l[p] :: l.drop (p + 1) := List.drop_eq_getElem_cons hlt
    simp only [spec_l01Split.l0, mkB_size]
    rw [if_pos (by omega), if_neg (by omega), if_pos (by omega), if_pos (by omega), bt_mkB l p hlt, wr (x := (p : Int) + 1) (by omega) (by omega)]
    have e1 : (p : Int) + 1 = ((p + 1 : Nat) : Int) := by omega
    by_cases hb : l[p] = c
    · rw [if_pos (by rw [hb]), if_pos (by omega), if_pos (by omega), if_pos (by omega), e1, ih k _ (p + 1) (p + 1) (by omega) (by omega) (by omega) (by simp; omega)]
      rw [hdrop]
      conv => rhs; unfold spl
      rw [if_pos hb]
      rw [Nat.sub_self, List.take_zero, hd_nil _ (spl_ne c _)]
      simp only [Int.toNat_natCast, extract_mkB, hd, List.append_nil, List.map_cons, List.append_assoc, List.cons_append, List.nil_append]
    · rw [if_neg (fun e => hb (UInt8.toNat_inj.1 (by omega))), e1, ih k _ s (p + 1) (by omega) (by omega) (by omega) (by omega)]
      rw [hdrop]
      conv => rhs; unfold spl
      rw [if_neg hb, hd_hd]
      congr 4
      rw [show p + 1 - s = (p - s) + 1 by omega, List.take_succ_eq_append_getElem (by simp; omega)]
      simp [show s + (p - s) = p by omega]
theorem specSplit_ev (l : List UInt8) (c : UInt8) (hl : l.length ≤ 1000000000) : Ev (fun k => spec_l01Split.f k (mkB l) (c.toNat : Int)) ((spl c l).map mkB) :=
  Ev.at_ (l.length + 2) fun k hk => by
    unfold spec_l01Split.f
    have := specSplit_l0 l c hl l.length k [] 0 0 (by omega) (by omega) (by omega) (by simp)
    simpa [hd_nil _ (spl_ne c l)] using this

/-! #### numerals -/
theorem dec_len : ∀ (k n : Nat), 1 ≤ k → n < 10 ^ k → (Lib.decDigits n).length ≤ k
  | 0, _, h, _ => by omega
  | k + 1, n, _, hn => by
    rw [Lib.decDigits]
    split
    · simp
    · rename_i h
      have hk : 1 ≤ k := by
        rcases Nat.eq_zero_or_pos k with rfl | h'
        · simp at hn; omega
        · exact h'
      have := dec_len k (n / 10) hk (by rw [Nat.pow_succ] at hn; omega)
      simp; omega
theorem dec_ne (n : Nat) : Lib.decDigits n ≠ [] := by
  rw [Lib.decDigits]
  split <;> simp
theorem dec_digs (n : Nat) : ∀ b ∈ Lib.decDigits n, 48 ≤ b.toNat ∧ b.toNat ≤ 57 := by
  induction n using Nat.strongRecOn with
  | _ n ih =>
    rw [Lib.decDigits]
    split
    · rename_i h
      intro b hb
      rw [List.mem_singleton.1 hb]
      simp; omega
    · rename_i h
      intro b hb
      rcases List.mem_append.1 hb with hb | hb
      · exact ih (n / 10) (by omega) b hb
      · rw [List.mem_singleton.1 hb]
        simp; omega
/-- What digits spell. -/
def val (l : List UInt8) : Nat := l.foldl (fun a b => 10 * a + (b.toNat - 48)) 0
theorem val_app (l : List UInt8) (b : UInt8) : val (l ++ [b]) = 10 * val l + (b.toNat - 48) := by simp [val]
theorem dec_val (n : Nat) : val (Lib.decDigits n) = n := by
  induction n using Nat.strongRecOn with
  | _ n ih =>
    rw [Lib.decDigits]
    split
    · rename_i h
      simp [val]; omega
    · rename_i h
      rw [val_app, ih (n / 10) (by omega)]
      simp; omega
theorem val_lt : ∀ (m : Nat) (l : List UInt8), l.length = m → (∀ b ∈ l, 48 ≤ b.toNat ∧ b.toNat ≤ 57) → val l < 10 ^ m := by
  intro m
  induction m with
  | zero =>
    intro l hl _
    rw [List.length_eq_zero_iff.1 hl]
    simp [val]
  | succ m ih =>
    intro l hl hd
    have hne : l ≠ [] := by intro e; simp [e] at hl
    have e := List.dropLast_concat_getLast hne
    have h1 := ih l.dropLast (by simp; omega) (fun b hb => hd b ((List.dropLast_sublist l).subset hb))
    have h2 := hd (l.getLast hne) (List.getLast_mem hne)
    rw [← e, val_app, Nat.pow_succ]
    omega
theorem specDec_ev : ∀ (n : Nat), n ≤ 9223372036854775807 → Ev (fun k => spec_l01Dec.f k (n : Int)) (mkB (Lib.decDigits n)) := by
  intro n
  induction n using Nat.strongRecOn with
  | _ n ih =>
    intro hn
    by_cases h : n < 10
    · refine Ev.step (f := fun _ => some (mkB (Lib.decDigits n))) (fun k => ?_) (Ev.const rfl)
      simp only [spec_l01Dec.f]
      rw [if_pos (by omega), wr (by omega) (by omega), Lib.decDigits, dif_pos h]
      simp only [strOfNums, List.map_cons, List.map_nil, mkB]
      rw [show ((48 + (n : Int)) % 256).toNat = 48 + n by omega]
    · have h1 := ih (n / 10) (by omega) (by omega)
      have hl := dec_len 19 (n / 10) (by omega) (by omega)
      refine Ev.step (fun k => ?_) (Ev.go h1 (f := fun _ t => some (mkB (Lib.decDigits n))) (Ev.const rfl))
      simp only [spec_l01Dec.f]
      rw [if_neg (by omega), Int.tdiv_eq_ediv_of_nonneg (by omega), wr (x := (n : Int) / 10) (by omega) (by omega), show ((n : Int) / 10) = ((n / 10 : Nat) : Int) by omega]
      cases hf : spec_l01Dec.f k ((n / 10 : Nat) : Int) with
      | none => rfl
      | some t =>
        have ht : t = mkB (Lib.decDigits (n / 10)) := by
          obtain ⟨K, hK⟩ := h1
          have a := hK (K + k) (by omega)
          have b : spec_l01Dec.f (K + k) ((n / 10 : Nat) : Int) = some t := at_rounds (g := fun k => spec_l01Dec.f k ((n / 10 : Nat) : Int)) (fun k => spec_l01Dec.mono _ k) (by omega) hf
          exact Option.some.inj (b.symm.trans a)
        subst ht
        have hm : Int.tmod (n : Int) 10 = ((n % 10 : Nat) : Int) := by rw [Int.tmod_eq_emod_of_nonneg (by omega)]; omega
        have hs : strOfNums [(wrap64 (48 + Int.tmod (n : Int) 10)) % 256] = mkB [UInt8.ofNat (48 + n % 10)] := by
          rw [hm, wr (by omega) (by omega)]
          simp only [strOfNums, List.map_cons, List.map_nil, mkB]
          rw [show ((48 + ((n % 10 : Nat) : Int)) % 256).toNat = 48 + n % 10 by omega]
        simp only [Option.bind_some, hs, mkB_size]
        rw [if_pos (by simp; omega), mkB_app]
        conv => rhs; rw [Lib.decDigits, dif_neg h]
def digR (l : List UInt8) : Int × Bool := if 1 ≤ l.length ∧ l.length ≤ 10 ∧ ∀ b ∈ l, 48 ≤ b.toNat ∧ b.toNat ≤ 57 then ((val l : Int), decide (Lib.decDigits (val l) = l)) else (0, false)
theorem specDigits_l0 (l : List UInt8) (h1 : 1 ≤ l.length) (h2 : l.length ≤ 10) : ∀ (d p : Nat), p + d = l.length → (∀ b ∈ l.take p, 48 ≤ b.toNat ∧ b.toNat ≤ 57) →
    Ev (fun k => spec_l01Digits.l0 k (mkB l) (val (l.take p) : Int) (p : Int)) (digR l) := by
  intro d
  induction d with
  | zero =>
    intro p hp hd
    have ht : l.take p = l := List.take_of_length_le (by omega)
    rw [ht] at hd ⊢
    have hv := val_lt l.length l rfl hd
    have hv2 : val l < 10 ^ 10 := Nat.lt_of_lt_of_le hv (Nat.pow_le_pow_right (by omega) h2)
    refine Ev.step (f := fun k => (spec_l01Dec.f k (val l : Int)).bind fun t => some ((val l : Int), (t.toList == (mkB l).toList))) (fun k => ?_) (Ev.go (specDec_ev (val l) (by omega)) (Ev.const ?_))
    · simp only [spec_l01Digits.l0, mkB_size]
      rw [if_neg (by omega)]
    · unfold digR
      rw [if_pos ⟨h1, h2, hd⟩, mkB_toList, mkB_toList]
      congr 2
      exact Bool.beq_eq_decide_eq _ _
  | succ d ih =>
    intro p hp hd
    have hlt : p < l.length := by omega
    have hmem : l[p] ∈ l := List.getElem_mem hlt
    have hno : ¬ (48 ≤ l[p].toNat ∧ l[p].toNat ≤ 57) → digR l = (0, false) := fun hn => by
      unfold digR
      rw [if_neg (fun x => hn (x.2.2 _ hmem))]
    by_cases hb1 : l[p].toNat < 48
    · rw [hno (by omega)]
      refine Ev.step (f := fun _ => some (0, false)) (fun k => ?_) (Ev.const rfl)
      simp only [spec_l01Digits.l0, mkB_size]
      rw [if_pos (by omega), if_pos (by omega), bt_mkB l p hlt, if_pos (by omega)]
    · by_cases hb2 : 57 < l[p].toNat
      · rw [hno (by omega)]
        refine Ev.step (f := fun _ => some (0, false)) (fun k => ?_) (Ev.const rfl)
        simp only [spec_l01Digits.l0, mkB_size]
        rw [if_pos (by omega), if_pos (by omega), bt_mkB l p hlt, if_neg (by omega), if_pos (by omega)]
      · have e : l.take (p + 1) = l.take p ++ [l[p]] := List.take_succ_eq_append_getElem hlt
        have hv := val_lt p (l.take p) (by simp; omega) hd
        have hv2 : val (l.take p) < 10 ^ 10 := Nat.lt_of_lt_of_le hv (Nat.pow_le_pow_right (by omega) (by omega))
        have hn := ih (p + 1) (by omega) (by
          rw [e]
          intro b hb
          rcases List.mem_append.1 hb with hb | hb
          · exact hd b hb
          · rw [List.mem_singleton.1 hb]; omega)
        refine Ev.step (fun k => ?_) hn
        simp only [spec_l01Digits.l0, mkB_size]
        rw [if_pos (by omega), if_pos (by omega), bt_mkB l p hlt, if_neg (by omega), if_neg (by omega), e, val_app]
        rw [wr (x := 10 * _) (by omega) (by omega), wr (x := (p : Int) + 1) (by omega) (by omega), wr (by omega) (by omega)]
        congr 1
        · omega
theorem specDigits_ev (l : List UInt8) : Ev (fun k => spec_l01Digits.f k (mkB l)) (digR l) := by
  unfold spec_l01Digits.f
  simp only [mkB_size]
  by_cases h1 : l.length < 1
  · have e : digR l = (0, false) := by unfold digR; rw [if_neg (by omega)]
    rw [e]
    simp only [if_pos (show (l.length : Int) < 1 by omega)]
    exact Ev.step (f := fun _ => some (0, false)) (fun k => by simp [spec_l01Digits.j0]) (Ev.const rfl)
  · simp only [if_neg (show ¬ (l.length : Int) < 1 by omega)]
    by_cases h2 : l.length ≤ 10
    · have := specDigits_l0 l (by omega) h2 l.length 0 (by omega) (by simp)
      refine Ev.step (fun k => ?_) this
      simp only [spec_l01Digits.j0]
      rw [if_neg (by simp; omega)]
      rfl
    · have e : digR l = (0, false) := by unfold digR; rw [if_neg (by omega)]
      rw [e]
      refine Ev.step (f := fun _ => some (0, false)) (fun k => ?_) (Ev.const rfl)
      simp only [spec_l01Digits.j0]
      rw [if_pos (by simp; omega)]
theorem digR_dec (n : Nat) (h : n < 10000000000) : digR (Lib.decDigits n) = ((n : Int), true) := by
  unfold digR
  have h1 := dec_len 10 n (by omega) (by omega)
  have h2 : 1 ≤ (Lib.decDigits n).length := by have := dec_ne n; exact List.length_pos_iff.2 this
  rw [if_pos ⟨h2, h1, dec_digs n⟩, dec_val]
  simp
theorem digR_bd (l : List UInt8) : 0 ≤ (digR l).1 ∧ (digR l).1 < 10000000000 := by
  unfold digR
  split
  · rename_i h
    have := val_lt l.length l rfl h.2.2
    have h2 : val l < 10 ^ 10 := Nat.lt_of_lt_of_le this (Nat.pow_le_pow_right (by omega) h.2.1)
    simp only
    omega
  · simp

/-! #### signed numerals, lists of numerals -/
def sgnR : List UInt8 → Int × Bool
  | [] => digR []
  | b :: r => if b.toNat = 45 then (-(digR r).1, if (digR r).2 then decide ((digR r).1 > 0) else false) else digR (b :: r)
theorem sgnR_nil : sgnR [] = digR [] := rfl
theorem sgnR_cons (b : UInt8) (r : List UInt8) : sgnR (b :: r) = if b.toNat = 45 then (-(digR r).1, if (digR r).2 then decide ((digR r).1 > 0) else false) else digR (b :: r) := rfl
theorem sgnR_bd (l : List UInt8) : -10000000000 < (sgnR l).1 ∧ (sgnR l).1 < 10000000000 := by
  cases l with
  | nil =>
    have := digR_bd []
    rw [sgnR_nil]
    omega
  | cons b r =>
    have := digR_bd r
    have := digR_bd (b :: r)
    rw [sgnR_cons]
    split <;> (try simp only) <;> omega
theorem specSigned_ev (l : List UInt8) : Ev (fun k => spec_l01Signed.f k (mkB l)) (sgnR l) := by
  cases l with
  | nil =>
    refine Ev.step (f := fun k => (spec_l01Digits.f k (mkB [])).bind fun t => some (t.1, t.2)) (fun k => ?_) (Ev.go (specDigits_ev []) (Ev.const rfl))
    simp only [spec_l01Signed.f, mkB_size, spec_l01Signed.j0]
    rw [if_neg (show ¬ ((([] : List UInt8).length : Int) > 0) by simp), if_neg (by decide)]
  | cons b r =>
    have hb : bt (mkB (b :: r)) 0 = (b.toNat : Int) := bt_mkB (b :: r) 0 (by simp)
    have hs : ((mkB (b :: r)).size : Int) > 0 := by rw [mkB_size]; simp
    rw [sgnR_cons]
    by_cases h : b.toNat = 45
    · rw [if_pos h]
      have hd := digR_bd r
      have he : (mkB (b :: r)).extract 1 (mkB (b :: r)).size = mkB r := by rw [mkB_size, extract_mkB]; simp
      refine Ev.step (f := fun k => (spec_l01Digits.f k (mkB r)).bind fun t => if t.2 = true then some (wrap64 (-t.1), decide (t.1 > 0)) else some (wrap64 (-t.1), false)) (fun k => ?_) (Ev.go (specDigits_ev r) ?_)
      · simp only [spec_l01Signed.f, if_pos hs, hb, h, spec_l01Signed.j0, he]
        rw [if_pos (by decide), if_pos (by omega)]
      · rw [wr (by omega) (by omega)]
        cases (digR r).2 <;> exact Ev.const (by simp)
    · rw [if_neg h]
      refine Ev.step (f := fun k => (spec_l01Digits.f k (mkB (b :: r))).bind fun t => some (t.1, t.2)) (fun k => ?_) (Ev.go (specDigits_ev (b :: r)) (Ev.const rfl))
      simp only [spec_l01Signed.f, if_pos hs, hb, spec_l01Signed.j0]
      rw [if_neg (by simp; omega)]
theorem sgnR_dec (n : Nat) (h : n < 10000000000) : sgnR (Lib.decDigits n) = ((n : Int), true) := by
  have hd := digR_dec n h
  have hg := dec_digs n
  cases hx : Lib.decDigits n with
  | nil => exact absurd hx (dec_ne n)
  | cons b r =>
    rw [hx] at hd hg
    rw [sgnR_cons]
    rw [if_neg (by have := hg b (by simp); omega), hd]
def numsR : List (List UInt8) → List Int → List Int × Bool
  | [], acc => (acc, true)
  | w :: r, acc => if (sgnR w).2 = true then numsR r (acc ++ [(sgnR w).1]) else ([], false)
theorem specNumbers_l0 (ws : List (List UInt8)) (hl : ws.length ≤ 1000000000) : ∀ (d p : Nat) (acc : List Int), p + d = ws.length → acc.length = p →
    Ev (fun k => spec_l01Numbers.l0 k (ws.map mkB) acc (p : Int)) (numsR (ws.drop p) acc) := by
  intro d
  induction d with
  | zero =>
    intro p acc hp ha
    rw [List.drop_of_length_le (by omega)]
    refine Ev.step (f := fun _ => some (acc, true)) (fun k => ?_) (Ev.const rfl)
    simp only [spec_l01Numbers.l0, List.length_map]
    rw [if_neg (by omega)]
  | succ d ih =>
    intro p acc hp ha
    have hlt : p < ws.length := by omega
    rw [List.drop_eq_getElem_cons hlt]
    have hg : ws.getD p [] = ws[p] := by simp [List.getD_eq_getElem?_getD, hlt]
    refine Ev.step (f := fun k => (spec_l01Signed.f k (mkB ws[p])).bind fun t => if t.2 = true then (if acc.length < 17592186044416 then spec_l01Numbers.l0 k (ws.map mkB) (acc ++ [t.1]) (wrap64 ((p : Int) + 1)) else none) else some (([] : List Int), false)) (fun k => ?_) (Ev.go (specSigned_ev _) ?_)
    · simp only [spec_l01Numbers.l0, List.length_map, rdOf_mkB, hg]
      rw [if_pos (by omega), if_pos (by omega)]
    · unfold numsR
      by_cases h : (sgnR ws[p]).2 = true
      · simp only [if_pos h]
        simp only [if_pos (show acc.length < 17592186044416 by omega)]
        rw [wr (by omega) (by omega)]
        exact ih (p + 1) _ (by omega) (by simp; omega)
      · simp only [if_neg h]
        exact Ev.const rfl
theorem specNumbers_ev (ws : List (List UInt8)) (hl : ws.length ≤ 1000000000) : Ev (fun k => spec_l01Numbers.f k (ws.map mkB)) (numsR ws []) :=
  specNumbers_l0 ws hl ws.length 0 [] (by omega) rfl
theorem itoa_nat (n : Nat) : Lib.itoa (n : Int) = Lib.decDigits n := by unfold Lib.itoa; rw [if_neg (by omega)]; simp
theorem parseUintM_digs : ∀ (l : List UInt8) (acc : Nat), (∀ b ∈ l, 48 ≤ b.toNat ∧ b.toNat ≤ 57) → (acc + 1) * 10 ^ l.length ≤ 1000000000000000000 →
    Lib.parseUintM 18446744073709551615 acc l = .ok (l.foldl (fun a b => 10 * a + (b.toNat - 48)) acc)
  | [], acc, _, _ => rfl
  | c :: r, acc, hd, hb => by
    have h := hd c (by simp)
    have hp : (acc + 1) * 10 ≤ 1000000000000000000 := by
      have h1 : 1 ≤ 10 ^ r.length := Nat.one_le_pow _ _ (by decide)
      rw [List.length_cons, Nat.pow_succ] at hb
      calc (acc + 1) * 10 = (acc + 1) * (1 * 10) := by omega
        _ ≤ (acc + 1) * (10 ^ r.length * 10) := Nat.mul_le_mul_left _ (Nat.mul_le_mul_right _ h1)
        _ ≤ _ := hb
    unfold Lib.parseUintM
    rw [if_pos h, if_neg (by omega), if_neg (by omega), parseUintM_digs r _ (fun b hb => hd b (by simp [hb])) ?_]
    · simp only [List.foldl_cons]
      congr 2
      omega
    · have h2 : acc * 10 + (c.toNat - 48) + 1 ≤ (acc + 1) * 10 := by omega
      calc (acc * 10 + (c.toNat - 48) + 1) * 10 ^ r.length ≤ ((acc + 1) * 10) * 10 ^ r.length := Nat.mul_le_mul_right _ h2
        _ = (acc + 1) * 10 ^ (c :: r).length := by rw [List.length_cons, Nat.pow_succ, Nat.mul_assoc, Nat.mul_comm 10]
        _ ≤ _ := hb
theorem parseInt_dec (n : Nat) (h : n < 10000000000) : Lib.parseIntB 64 (Lib.decDigits n) = .ok (n : Int) := by
  have hl := dec_len 10 n (by omega) (by omega)
  have hg := dec_digs n
  have hv := dec_val n
  cases hx : Lib.decDigits n with
  | nil => exact absurd hx (dec_ne n)
  | cons b r =>
    rw [hx] at hl hg hv
    have hb := hg b (by simp)
    have hM := parseUintM_digs (b :: r) 0 hg (by
      have : 10 ^ (b :: r).length ≤ 10 ^ 10 := Nat.pow_le_pow_right (by omega) hl
      omega)
    unfold val at hv
    rw [hv] at hM
    have hU : Lib.parseUintB 64 (b :: r) = .ok n := by
      unfold Lib.parseUintB
      rw [if_neg (by simp)]
      exact hM
    simp only [Lib.parseIntB]
    rw [if_neg (by omega), hU]
    simp only
    rw [if_neg (by omega), if_neg (by omega), if_neg (by omega)]

/-! #### signed numerals, as the program reads them -/
theorem digR_true {l : List UInt8} (h : (digR l).2 = true) : ∃ n : Nat, n < 10000000000 ∧ l = Lib.decDigits n ∧ digR l = ((n : Int), true) := by
  have hb := digR_bd l
  unfold digR at h hb ⊢
  split
  · rename_i hc
    rw [if_pos hc] at h hb
    simp only [decide_eq_true_eq] at h hb
    exact ⟨val l, by omega, h.symm, by rw [decide_eq_true h]⟩
  · rename_i hc
    rw [if_neg hc] at h
    cases h
theorem parseUint_dec (n : Nat) (h : n < 10000000000) : Lib.parseUintB 64 (Lib.decDigits n) = .ok n := by
  have hl := dec_len 10 n (by omega) (by omega)
  have hM := parseUintM_digs (Lib.decDigits n) 0 (dec_digs n) (by
    have : 10 ^ (Lib.decDigits n).length ≤ 10 ^ 10 := Nat.pow_le_pow_right (by omega) hl
    omega)
  have hv := dec_val n
  unfold val at hv
  rw [hv] at hM
  unfold Lib.parseUintB
  rw [if_neg (dec_ne n)]
  exact hM
theorem parseInt_neg (n : Nat) (h : n < 10000000000) : Lib.parseIntB 64 (45 :: Lib.decDigits n) = .ok (-(n : Int)) := by
  simp only [Lib.parseIntB]
  rw [if_pos (Or.inr (by decide)), parseUint_dec n h]
  simp only
  rw [if_neg (by simp), if_neg (by simp; omega), if_pos (by decide)]
theorem dec_head (n : Nat) : Lib.trimPrefix (Lib.decDigits n) [45] = Lib.decDigits n := by
  have hg := dec_digs n
  unfold Lib.trimPrefix Lib.hasPrefix
  cases hx : Lib.decDigits n with
  | nil => rfl
  | cons b r =>
    have hb := hg b (by rw [hx]; simp)
    have : ([45] : List UInt8).isPrefixOf (b :: r) = false := by
      simp only [List.isPrefixOf, Bool.and_eq_false_imp, beq_iff_eq]
      intro e
      rw [← e] at hb
      simp at hb
    rw [this]
    rfl
theorem trim_neg (l : List UInt8) : Lib.trimPrefix (45 :: l) [45] = l := by
  unfold Lib.trimPrefix Lib.hasPrefix
  simp [List.isPrefixOf]
theorem dec_small (n : Nat) (h : (Lib.decDigits n).length ≤ 10) : n < 10000000000 := by
  have h1 := val_lt _ _ rfl (dec_digs n)
  rw [dec_val] at h1
  have : (10 : Nat) ^ (Lib.decDigits n).length ≤ 10 ^ 10 := Nat.pow_le_pow_right (by omega) h
  omega
theorem itoa_neg (n : Nat) (h : 0 < n) : Lib.itoa (-(n : Int)) = 45 :: Lib.decDigits n := by
  unfold Lib.itoa
  rw [if_pos (by omega)]
  simp
theorem num_dec (n : Nat) (h : n < 10000000000) : impl_readNumber.ans (mkB (Lib.decDigits n)) = ((n : Int), true) := by
  have hl := dec_len 10 n (by omega) (by omega)
  unfold impl_readNumber.ans
  rw [mkB_data, parseInt_dec n h]
  simp only
  rw [if_pos ⟨by rw [dec_head]; exact hl, itoa_nat n⟩]
theorem num_neg (n : Nat) (h : n < 10000000000) (h0 : 0 < n) : impl_readNumber.ans (mkB (45 :: Lib.decDigits n)) = (-(n : Int), true) := by
  have hl := dec_len 10 n (by omega) (by omega)
  unfold impl_readNumber.ans
  rw [mkB_data, parseInt_neg n h]
  simp only
  rw [if_pos ⟨by rw [trim_neg]; exact hl, itoa_neg n h0⟩]
theorem num_true {l : List UInt8} (h : (impl_readNumber.ans (mkB l)).2 = true) : (sgnR l).2 = true := by
  unfold impl_readNumber.ans at h
  rw [mkB_data] at h
  split at h
  · rename_i v hv
    split at h
    · rename_i hc
      obtain ⟨h1, h2⟩ := hc
      by_cases hn : v < 0
      · obtain ⟨n, rfl⟩ : ∃ n : Nat, v = -(n : Int) := ⟨v.natAbs, by omega⟩
        rw [itoa_neg n (by omega)] at h2
        rw [← h2, trim_neg] at h1
        rw [← h2, sgnR_cons, if_pos (by decide), digR_dec n (dec_small n h1)]
        simp; omega
      · obtain ⟨n, rfl⟩ : ∃ n : Nat, v = (n : Int) := ⟨v.toNat, by omega⟩
        rw [itoa_nat] at h2
        rw [← h2, dec_head] at h1
        rw [← h2, sgnR_dec n (dec_small n h1)]
    · cases h
  · cases h
/-- The program's reading of a signed numeral is the reference's. -/
theorem num_ans (l : List UInt8) : impl_readNumber.ans (mkB l) = if (sgnR l).2 = true then sgnR l else (0, false) := by
  by_cases hs : (sgnR l).2 = true
  · rw [if_pos hs]
    cases l with
    | nil => rw [sgnR_nil] at hs; exact absurd hs (by decide)
    | cons b r =>
      rw [sgnR_cons] at hs ⊢
      by_cases hb : b.toNat = 45
      · rw [if_pos hb] at hs ⊢
        have hb' : b = 45 := UInt8.toNat_inj.1 hb
        by_cases hd : (digR r).2 = true
        · obtain ⟨n, hn, rfl, e⟩ := digR_true hd
          rw [e] at hs ⊢
          simp only [if_true, decide_eq_true_eq] at hs ⊢
          rw [hb', num_neg n hn (by omega), decide_eq_true hs]
        · simp only [if_neg hd] at hs
          cases hs
      · rw [if_neg hb] at hs ⊢
        obtain ⟨n, hn, e1, e⟩ := digR_true hs
        rw [e, e1, num_dec n hn]
  · rw [if_neg hs]
    have h2 : (impl_readNumber.ans (mkB l)).2 = false := by
      cases hx : (impl_readNumber.ans (mkB l)).2 with
      | true => exact absurd (num_true hx) hs
      | false => rfl
    unfold impl_readNumber.ans at h2 ⊢
    split at h2
    · rename_i v hv
      split at h2
      · cases h2
      · rename_i hc
        first | rfl | rw [if_neg hc]
    · rfl
theorem readNumber_f (l : List UInt8) (h : l.length ≤ 281474976710656) : impl_readNumber.f (mkB l) = some (if (sgnR l).2 = true then sgnR l else (0, false)) := by
  unfold impl_readNumber.f
  rw [if_pos (by rw [mkB_size]; exact h), num_ans]

/-! ### a command -/
/-- Numbers, as far as they go. -/
def numsP : List (List UInt8) → List Int → List Int × Bool
  | [], acc => (acc, true)
  | w :: r, acc => if (sgnR w).2 = true then numsP r (acc ++ [(sgnR w).1]) else (acc, false)
theorem numsP_R : ∀ (ws : List (List UInt8)) (acc : List Int), numsR ws acc = if (numsP ws acc).2 = true then numsP ws acc else ([], false)
  | [], acc => by simp [numsR, numsP]
  | w :: r, acc => by
    unfold numsR numsP
    by_cases h : (sgnR w).2 = true
    · rw [if_pos h, if_pos h]; exact numsP_R r _
    · rw [if_neg h, if_neg h]; simp
theorem numsP_len : ∀ (ws : List (List UInt8)) (acc : List Int), (numsP ws acc).2 = true → (numsP ws acc).1.length = acc.length + ws.length
  | [], acc, _ => by simp [numsP]
  | w :: r, acc, h => by
    unfold numsP at h ⊢
    by_cases hs : (sgnR w).2 = true
    · rw [if_pos hs] at h ⊢
      have := numsP_len r _ h
      simp only [List.length_append, List.length_singleton] at this
      simp only [List.length_cons]
      omega
    · rw [if_neg hs] at h
      cases h
def shp (m : Nat) (last more : Bool) : List UInt8 := List.replicate m 105 ++ (if last then [119] else []) ++ (if more then [46] else [])
set_option maxHeartbeats 4000000 in
/-- The shape of a command: of none, or m numbers, perhaps a word, perhaps more numbers. -/
theorem shape_cases (w : List UInt8) : (Ev (fun k => spec_l30Shape.f k (mkB w)) (-1, -1, false) ∧ Ev (fun k => impl_shapeOf.f k (mkB w)) (mkB [], false)) ∨
    ∃ (m : Nat) (last more : Bool), m ≤ 3 ∧ (last = true → more = false) ∧ Ev (fun k => spec_l30Shape.f k (mkB w)) ((m : Int), (if more then 4000 else (m : Int)), last) ∧ Ev (fun k => impl_shapeOf.f k (mkB w)) (mkB (shp m last more), true) := by
  have mk : ∀ (l : List UInt8), (⟨l.toArray⟩ : ByteArray) = mkB l := fun _ => rfl
  have go : ∀ (w : List UInt8) (m : Nat) (last more : Bool), m ≤ 3 → (last = true → more = false) → (∀ k, spec_l30Shape.f (k + 5) (mkB w) = some ((m : Int), (if more then 4000 else (m : Int)), last)) → (∀ k, impl_shapeOf.f (k + 5) (mkB w) = some (mkB (shp m last more), true)) →
      ∃ (m : Nat) (last more : Bool), m ≤ 3 ∧ (last = true → more = false) ∧ Ev (fun k => spec_l30Shape.f k (mkB w)) ((m : Int), (if more then 4000 else (m : Int)), last) ∧ Ev (fun k => impl_shapeOf.f k (mkB w)) (mkB (shp m last more), true) := by
    intro w m last more h1 h2 h3 h4
    refine ⟨m, last, more, h1, h2, ⟨5, fun k hk => ?_⟩, ⟨5, fun k hk => ?_⟩⟩
    · have := h3 (k - 5); rwa [show k - 5 + 5 = k by omega] at this
    · have := h4 (k - 5); rwa [show k - 5 + 5 = k by omega] at this
  by_cases c1 : w = [115, 104, 101, 101, 116]
  · subst c1; right; refine go _ 2 true false (by omega) (by simp) (fun k => ?_) (fun k => ?_) <;> simp [spec_l30Shape.f, spec_l30Shape.j0, spec_l30Shape.j1, spec_l30Shape.j2, spec_l30Shape.j3, impl_shapeOf.f, impl_shapeOf.j0, impl_shapeOf.j1, impl_shapeOf.j2, impl_shapeOf.j3, mkB_toList, mkB, shp]
  by_cases c2 : w = [114, 101, 97, 100]
  · subst c2; right; refine go _ 0 true false (by omega) (by simp) (fun k => ?_) (fun k => ?_) <;> simp [spec_l30Shape.f, spec_l30Shape.j0, spec_l30Shape.j1, spec_l30Shape.j2, spec_l30Shape.j3, impl_shapeOf.f, impl_shapeOf.j0, impl_shapeOf.j1, impl_shapeOf.j2, impl_shapeOf.j3, mkB_toList, mkB, shp]
  by_cases c3 : w = [102, 114, 111, 110, 116] ∨ w = [98, 97, 99, 107] ∨ w = [115, 116, 97, 114, 116, 115] ∨ w = [98, 108, 97, 110, 107, 115]
  · right; rcases c3 with rfl | rfl | rfl | rfl <;> refine go _ 0 false false (by omega) (by simp) (fun k => ?_) (fun k => ?_) <;> simp [spec_l30Shape.f, spec_l30Shape.j0, spec_l30Shape.j1, spec_l30Shape.j2, spec_l30Shape.j3, impl_shapeOf.f, impl_shapeOf.j0, impl_shapeOf.j1, impl_shapeOf.j2, impl_shapeOf.j3, mkB_toList, mkB, shp]
  by_cases c4 : w = [108, 97, 98, 101, 108] ∨ w = [115, 105, 103, 110, 97, 116, 117, 114, 101, 115] ∨ w = [97, 100, 118, 97, 110, 99, 101] ∨ w = [100, 114, 111, 112] ∨ w = [108, 97, 116, 101] ∨ w = [115, 104, 101, 101, 116, 115]
  · right; rcases c4 with rfl | rfl | rfl | rfl | rfl | rfl <;> refine go _ 1 false false (by omega) (by simp) (fun k => ?_) (fun k => ?_) <;> simp [spec_l30Shape.f, spec_l30Shape.j0, spec_l30Shape.j1, spec_l30Shape.j2, spec_l30Shape.j3, impl_shapeOf.f, impl_shapeOf.j0, impl_shapeOf.j1, impl_shapeOf.j2, impl_shapeOf.j3, mkB_toList, mkB, shp]
  by_cases c5 : w = [110, 101, 115, 116, 101, 100] ∨ w = [111, 102, 102, 101, 114] ∨ w = [116, 97, 107, 101] ∨ w = [99, 111, 100, 101]
  · right; rcases c5 with rfl | rfl | rfl | rfl <;> refine go _ 2 false false (by omega) (by simp) (fun k => ?_) (fun k => ?_) <;> simp [spec_l30Shape.f, spec_l30Shape.j0, spec_l30Shape.j1, spec_l30Shape.j2, spec_l30Shape.j3, impl_shapeOf.f, impl_shapeOf.j0, impl_shapeOf.j1, impl_shapeOf.j2, impl_shapeOf.j3, mkB_toList, mkB, shp]
  by_cases c6 : w = [114, 101, 99, 101, 105, 118, 101] ∨ w = [115, 112, 105, 110, 101]
  · right; rcases c6 with rfl | rfl <;> refine go _ 3 false false (by omega) (by simp) (fun k => ?_) (fun k => ?_) <;> simp [spec_l30Shape.f, spec_l30Shape.j0, spec_l30Shape.j1, spec_l30Shape.j2, spec_l30Shape.j3, impl_shapeOf.f, impl_shapeOf.j0, impl_shapeOf.j1, impl_shapeOf.j2, impl_shapeOf.j3, mkB_toList, mkB, shp]
  by_cases c7 : w = [98, 111, 111, 107]
  · subst c7; right; refine go _ 3 false true (by omega) (by simp) (fun k => ?_) (fun k => ?_) <;> simp [spec_l30Shape.f, spec_l30Shape.j0, spec_l30Shape.j1, spec_l30Shape.j2, spec_l30Shape.j3, impl_shapeOf.f, impl_shapeOf.j0, impl_shapeOf.j1, impl_shapeOf.j2, impl_shapeOf.j3, mkB_toList, mkB, shp]
  by_cases c8 : w = [101, 120, 112, 108, 97, 105, 110]
  · subst c8; right; refine go _ 1 false true (by omega) (by simp) (fun k => ?_) (fun k => ?_) <;> simp [spec_l30Shape.f, spec_l30Shape.j0, spec_l30Shape.j1, spec_l30Shape.j2, spec_l30Shape.j3, impl_shapeOf.f, impl_shapeOf.j0, impl_shapeOf.j1, impl_shapeOf.j2, impl_shapeOf.j3, mkB_toList, mkB, shp]
  simp only [not_or] at c3 c4 c5 c6
  obtain ⟨c31, c32, c33, c34⟩ := c3
  obtain ⟨c41, c42, c43, c44, c45, c46⟩ := c4
  obtain ⟨c51, c52, c53, c54⟩ := c5
  obtain ⟨c61, c62⟩ := c6
  left
  refine ⟨⟨5, fun k hk => ?_⟩, ⟨5, fun k hk => ?_⟩⟩ <;> obtain ⟨k, rfl⟩ : ∃ m, k = m + 5 := ⟨k - 5, by omega⟩ <;>
    simp [spec_l30Shape.f, spec_l30Shape.j0, spec_l30Shape.j1, spec_l30Shape.j2, spec_l30Shape.j3, impl_shapeOf.f, impl_shapeOf.j0, impl_shapeOf.j1, impl_shapeOf.j2, impl_shapeOf.j3, mkB_toList, c1, c2, c31, c32, c33, c34, c41, c42, c43, c44, c45, c46, c51, c52, c53, c54, c61, c62, c7, c8, mkB]
theorem cut_shp (m : Nat) (hm : m ≤ 3) (last more : Bool) (h : last = true → more = false) : strings_CutSuffix.f (mkB (shp m last more)) (⟨#[46]⟩ : ByteArray) = some (mkB (shp m last false), more) := by
  unfold strings_CutSuffix.f
  rw [if_pos (by rw [mkB_size]; simp only [shp, List.length_append, List.length_replicate]; split <;> split <;> simp <;> omega)]
  have e : (⟨#[46]⟩ : ByteArray).data.toList = [46] := rfl
  rw [mkB_data, e]
  have h4 : m = 0 ∨ m = 1 ∨ m = 2 ∨ m = 3 := by omega
  rcases h4 with rfl | rfl | rfl | rfl <;> cases last <;> cases more <;> first | rfl | (exact absurd (h rfl) (by decide))
theorem cmd_part (rest : List UInt8) (name word : ByteArray) (us zs : List (List UInt8)) (hv : us.length + zs.length ≤ 2000000) (hw : ∀ v ∈ us, v.length ≤ 2000000)
    (hno : ∀ (q : Nat) (h : q < rest.length), q < us.length → rest[q] ≠ 119) (r : ByteArray × List Int × ByteArray × Bool) : ∀ (d p : Nat) (acc : List Int), p + d = us.length → acc.length ≤ p →
    ((numsP (us.drop p) acc).2 = true → Ev (fun k => impl_readCommand.l0 k (mkB rest) ((us ++ zs).map mkB) ((us.length + zs.length : Nat) : Int) (us.length : Int) name (numsP (us.drop p) acc).1 word) r) →
    ((numsP (us.drop p) acc).2 = false → r = (name, (numsP (us.drop p) acc).1, word, false)) →
    Ev (fun k => impl_readCommand.l0 k (mkB rest) ((us ++ zs).map mkB) ((us.length + zs.length : Nat) : Int) (p : Int) name acc word) r := by
  intro d
  induction d with
  | zero =>
    intro p acc hp ha h1 _
    rw [List.drop_of_length_le (by omega)] at h1
    have e : p = us.length := by omega
    subst e
    exact h1 rfl
  | succ d ih =>
    intro p acc hp ha h1 h2
    have hlt : p < us.length := by omega
    have hg : (us ++ zs).getD p [] = us[p] := by simp [List.getD_eq_getElem?_getD, List.getElem?_append_left hlt, hlt]
    have hmem : us[p] ∈ us := List.getElem_mem hlt
    have hl := hw _ hmem
    rw [List.drop_eq_getElem_cons hlt] at h1 h2
    simp only [numsP] at h1 h2
    refine Ev.step (f := fun k => impl_readCommand.j2 k (mkB rest) (mkB us[p]) ((us ++ zs).map mkB) ((us.length + zs.length : Nat) : Int) (p : Int) false name acc word) (fun k => ?_) ?_
    · simp only [impl_readCommand.l0, rdOf_mkB, hg, List.length_map, List.length_append, mkB_size]
      rw [if_pos (by omega), if_pos (by omega), if_pos (by omega)]
      by_cases hr : p < rest.length
      · have hb := hno p hr hlt
        rw [if_pos (by omega), bt_mkB rest p hr]
        have : ((rest[p].toNat : Int) == 119) = false := by
          rw [beq_eq_false_iff_ne]
          intro e
          exact hb (UInt8.toNat_inj.1 (by simp; omega))
        rw [this]
      · rw [if_neg (by omega)]
    · refine Ev.step (f := fun k => if (sgnR us[p]).2 = true then impl_readCommand.l0 k (mkB rest) ((us ++ zs).map mkB) ((us.length + zs.length : Nat) : Int) ((p + 1 : Nat) : Int) name (acc ++ [(sgnR us[p]).1]) word else some (name, acc, word, false)) (fun k => ?_) ?_
      · simp only [impl_readCommand.j2]
        rw [if_neg (by simp), readNumber_f _ (by omega)]
        simp only [Option.bind_some]
        by_cases hs : (sgnR us[p]).2 = true
        · simp only [if_pos hs]
          rw [if_pos (by omega), wr (by omega) (by omega)]
          rfl
        · simp only [if_neg hs]
          rw [if_neg (by simp)]
      · by_cases hs : (sgnR us[p]).2 = true
        · simp only [if_pos hs] at h1 h2 ⊢
          exact ih (p + 1) _ (by omega) (by simp; omega) h1 h2
        · simp only [if_neg hs] at h1 h2 ⊢
          rw [h2 trivial]
          exact Ev.const rfl
theorem cmd_end (rest : List UInt8) (name word : ByteArray) (vs : List (List UInt8)) (ns : List Int) :
    Ev (fun k => impl_readCommand.l0 k (mkB rest) (vs.map mkB) (vs.length : Int) (vs.length : Int) name ns word) (name, ns, word, decide ((ns.length : Int) ≤ 4000)) := by
  refine Ev.step (f := fun _ => some (name, ns, word, decide ((ns.length : Int) ≤ 4000))) (fun k => ?_) (Ev.const rfl)
  simp only [impl_readCommand.l0]
  rw [if_neg (by omega)]
theorem cmd_word (m : Nat) (name word : ByteArray) (us : List (List UInt8)) (z : List UInt8) (hu : us.length = m) (hm : m ≤ 3) (ns : List Int) :
    Ev (fun k => impl_readCommand.l0 k (mkB (shp m true false)) ((us ++ [z]).map mkB) ((us.length + [z].length : Nat) : Int) (us.length : Int) name ns word) (if z = [] then (name, ns, mkB z, false) else (name, ns, mkB z, decide ((ns.length : Int) ≤ 4000))) := by
  have hl : (shp m true false).length = m + 1 := by simp [shp]
  have hx : (shp m true false)[m]'(by omega) = 119 := by simp [shp]
  have hg : (us ++ [z]).getD us.length [] = z := by simp [List.getD_eq_getElem?_getD]
  refine Ev.step (f := fun k => impl_readCommand.j2 k (mkB (shp m true false)) (mkB z) ((us ++ [z]).map mkB) ((us.length + [z].length : Nat) : Int) (us.length : Int) true name ns word) (fun k => ?_) ?_
  · simp only [impl_readCommand.l0, rdOf_mkB, hg, List.length_map, List.length_append, mkB_size, List.length_singleton, hl]
    rw [if_pos (by omega), if_pos (by omega), if_pos (by omega), if_pos (by omega)]
    subst hu
    rw [bt_mkB _ _ (by omega), hx]
    rfl
  · refine Ev.step (f := fun k => if z = [] then some (name, ns, mkB z, false) else impl_readCommand.l0 k (mkB (shp m true false)) ((us ++ [z]).map mkB) (((us ++ [z]).length : Nat) : Int) (((us ++ [z]).length : Nat) : Int) name ns (mkB z)) (fun k => ?_) ?_
    · simp only [impl_readCommand.j2, mkB_toList]
      rw [if_pos trivial, wr (by omega) (by omega)]
      simp only [List.length_append, List.length_singleton]
      rfl
    · by_cases hz : z = []
      · simp only [if_pos hz]; exact Ev.const rfl
      · simp only [if_neg hz]; exact cmd_end _ name (mkB z) (us ++ [z]) ns
/-- What a command is, by its words. -/
def cmdR (vs : List (List UInt8)) (m : Nat) (last more : Bool) : Option (List Int × List UInt8) :=
  if last = true then (if vs.length = m + 1 then (if vs.getLastD [] = [] then none else if (numsP vs.dropLast []).2 = true then some ((numsP vs.dropLast []).1, vs.getLastD []) else none) else none)
  else if m ≤ vs.length ∧ (more = false → vs.length = m) ∧ vs.length ≤ 4000 ∧ (numsP vs []).2 = true then some ((numsP vs []).1, []) else none
theorem getLast_rd (vs : List (List UInt8)) (h : vs ≠ []) : rdOf ByteArray.empty (vs.map mkB) ((vs.length : Int) - 1) = mkB (vs.getLast h) := by
  have hl : 0 < vs.length := List.length_pos_iff.2 h
  rw [show (vs.length : Int) - 1 = ((vs.length - 1 : Nat) : Int) by omega, rdOf_mkB]
  congr 1
  rw [List.getD_eq_getElem?_getD, List.getElem?_eq_getElem (by omega), List.getLast_eq_getElem]
  rfl
/-- A line as the reference and as the program read it. -/
theorem parse_both (l : List UInt8) (hl : l.length ≤ 1100000) : ∃ rs ri, Ev (fun k => spec_l30Parse.f k (mkB l)) rs ∧ Ev (fun k => impl_readCommand.f k (mkB l)) ri ∧ ((rs.2.2.2 = true ∧ ri = rs) ∨ (rs.2.2.2 = false ∧ ri.2.2.2 = false)) := by
  have hlen := spl_len 32 l
  have hmem := spl_mem 32 l
  have hsp := specSplit_ev l 32 (by omega)
  have hsi : strings_Split.f (mkB l) (⟨#[32]⟩ : ByteArray) = some ((spl 32 l).map mkB) := split_f 32 l (by omega)
  cases hws : spl 32 l with
  | nil => exact absurd hws (spl_ne 32 l)
  | cons w0 vs =>
    rw [hws] at hlen hmem hsp hsi
    simp only [List.length_cons] at hlen
    have hv : ∀ v ∈ vs, v.length ≤ 1100000 := fun v h => by have := hmem v (by simp [h]); omega
    have hr0 : rdOf ByteArray.empty ((w0 :: vs).map mkB) 0 = mkB w0 := rdOf_mkB (w0 :: vs) 0
    have hd1 : ((w0 :: vs).map mkB).drop 1 = vs.map mkB := rfl
    have hc0 : (0 : Int) < ((((w0 :: vs).map mkB).length : Nat) : Int) := by simp only [List.length_map, List.length_cons]; omega
    have hc1 : (1 : Int) ≤ ((((w0 :: vs).map mkB).length : Nat) : Int) := by simp only [List.length_map, List.length_cons]; omega
    -- the reference, behind its shape
    have S : ∀ (sh : Int × Int × Bool) rs, Ev (fun k => spec_l30Shape.f k (mkB w0)) sh → Ev (fun k => (if sh.2.2 = true then (if ((vs.map mkB).length : Int) = 0 then (some ((⟨#[]⟩ : ByteArray), ([] : List Int), (⟨#[]⟩ : ByteArray), false)) else (if 0 ≤ (wrap64 (((vs.map mkB).length : Int) - 1)) then (if (wrap64 (((vs.map mkB).length : Int) - 1)) < ((vs.map mkB).length : Int) then (if (rdOf ByteArray.empty (vs.map mkB) (wrap64 (((vs.map mkB).length : Int) - 1))).toList = ([] : List UInt8) then (some ((⟨#[]⟩ : ByteArray), ([] : List Int), (⟨#[]⟩ : ByteArray), false)) else (if (wrap64 (((vs.map mkB).length : Int) - 1)) ≤ ((vs.map mkB).length : Int) then ((spec_l01Numbers.f k ((vs.map mkB).take ((wrap64 (((vs.map mkB).length : Int) - 1)) : Int).toNat)).bind fun bt148 => (if bt148.2 = true then (if sh.1 ≥ 0 then (if (bt148.1.length : Int) ≥ sh.1 then (some (mkB w0, bt148.1, rdOf ByteArray.empty (vs.map mkB) (wrap64 (((vs.map mkB).length : Int) - 1)), decide ((bt148.1.length : Int) ≤ sh.2.1))) else (some (mkB w0, bt148.1, rdOf ByteArray.empty (vs.map mkB) (wrap64 (((vs.map mkB).length : Int) - 1)), false))) else (some (mkB w0, bt148.1, rdOf ByteArray.empty (vs.map mkB) (wrap64 (((vs.map mkB).length : Int) - 1)), false))) else (some (mkB w0, bt148.1, rdOf ByteArray.empty (vs.map mkB) (wrap64 (((vs.map mkB).length : Int) - 1)), false)))) else (none))) else (none)) else (none))) else ((spec_l01Numbers.f k (vs.map mkB)).bind fun bt153 => (if bt153.2 = true then (if sh.1 ≥ 0 then (if (bt153.1.length : Int) ≥ sh.1 then (some (mkB w0, bt153.1, (⟨#[]⟩ : ByteArray), decide ((bt153.1.length : Int) ≤ sh.2.1))) else (some (mkB w0, bt153.1, (⟨#[]⟩ : ByteArray), false))) else (some (mkB w0, bt153.1, (⟨#[]⟩ : ByteArray), false))) else (some (mkB w0, bt153.1, (⟨#[]⟩ : ByteArray), false)))))) rs →
        Ev (fun k => spec_l30Parse.f k (mkB l)) rs := by
      intro sh rs h1 h2
      unfold spec_l30Parse.f
      refine Ev.go hsp ?_
      refine Ev.congr (fun k => if_pos hc0) ?_
      rw [hr0]
      refine Ev.go h1 ?_
      refine Ev.congr (fun k => if_pos hc1) ?_
      rw [hd1]
      exact h2
    have I : ∀ (shape rest : List UInt8) (there more : Bool) ri, Ev (fun k => impl_shapeOf.f k (mkB w0)) (mkB shape, there) → strings_CutSuffix.f (mkB shape) (⟨#[46]⟩ : ByteArray) = some (mkB rest, more) →
        Ev (fun k => impl_readCommand.j0 k (mkB rest) (vs.map mkB) (if there = true then (if vs.length < rest.length then true else if vs.length > rest.length then !more else false) else true) (mkB w0) (⟨#[]⟩ : ByteArray)) ri → Ev (fun k => impl_readCommand.f k (mkB l)) ri := by
      intro shape rest there more ri h1 h2 h3
      unfold impl_readCommand.f
      rw [hsi]
      simp only [Option.bind_some]
      refine Ev.congr (fun k => if_pos hc0) ?_
      rw [hr0]
      refine Ev.go h1 ?_
      simp only [h2, Option.bind_some]
      refine Ev.congr (fun k => if_pos hc1) ?_
      rw [hd1]
      cases there with
      | false => simpa using h3
      | true =>
        simp only [if_true, mkB_size, List.length_map] at h3 ⊢
        by_cases c1 : vs.length < rest.length
        · rw [if_pos c1] at h3
          exact Ev.congr (fun k => if_pos (by omega)) h3
        · rw [if_neg c1] at h3
          refine Ev.congr (fun k => if_neg (by omega)) ?_
          by_cases c2 : vs.length > rest.length
          · rw [if_pos c2] at h3
            exact Ev.congr (fun k => if_pos (by omega)) h3
          · rw [if_neg c2] at h3
            exact Ev.congr (fun k => if_neg (by omega)) h3
    have J1 : ∀ rest : List UInt8, Ev (fun k => impl_readCommand.j0 k (mkB rest) (vs.map mkB) true (mkB w0) (⟨#[]⟩ : ByteArray)) (mkB w0, ([] : List Int), (⟨#[]⟩ : ByteArray), false) := fun rest =>
      Ev.step (f := fun _ => some (mkB w0, ([] : List Int), (⟨#[]⟩ : ByteArray), false)) (fun k => by simp only [impl_readCommand.j0]; rw [if_pos trivial]) (Ev.const rfl)
    have J2 : ∀ (rest : List UInt8) r, Ev (fun k => impl_readCommand.l0 k (mkB rest) (vs.map mkB) (vs.length : Int) 0 (mkB w0) ([] : List Int) (⟨#[]⟩ : ByteArray)) r → Ev (fun k => impl_readCommand.j0 k (mkB rest) (vs.map mkB) false (mkB w0) (⟨#[]⟩ : ByteArray)) r := fun rest r h =>
      Ev.step (fun k => by simp only [impl_readCommand.j0, List.length_map]; rw [if_neg (by simp)]) h
    have e0 : (⟨#[]⟩ : ByteArray) = mkB [] := rfl
    -- numbers
    have hnR := numsP_R vs []
    have hnL := numsP_len vs []
    rcases shape_cases w0 with ⟨hs, hi⟩ | ⟨m, last, more, hm, hlm, hs, hi⟩
    · refine ⟨(mkB w0, (numsR vs []).1, (⟨#[]⟩ : ByteArray), false), (mkB w0, ([] : List Int), (⟨#[]⟩ : ByteArray), false), S _ _ hs ?_, I [] [] false false _ hi (cut_shp 0 (by omega) false false (by simp)) (by simpa using J1 []), Or.inr ⟨rfl, rfl⟩⟩
      simp only [Bool.false_eq_true, if_false]
      refine Ev.go (specNumbers_ev vs (by omega)) ?_
      by_cases h : (numsR vs []).2 = true
      · refine Ev.congr (fun k => if_pos h) ?_
        exact Ev.congr (fun k => if_neg (by omega)) (Ev.const rfl)
      · exact Ev.congr (fun k => if_neg h) (Ev.const rfl)
    · have hcut := cut_shp m hm last more hlm
      have hrl : (shp m last false).length = m + (if last = true then 1 else 0) := by cases last <;> simp [shp]
      cases last with
      | false =>
        simp only [Bool.false_eq_true, if_false, Nat.add_zero] at hrl
        have hno : ∀ (q : Nat) (h : q < (shp m false false).length), q < vs.length → (shp m false false)[q] ≠ 119 := by
          intro q h _
          simp [shp]
        -- the reference
        have hSp : ∀ rs, (if (numsR vs []).2 = true then (if (m : Int) ≤ ((numsR vs []).1.length : Int) then rs = (mkB w0, (numsR vs []).1, (⟨#[]⟩ : ByteArray), decide (((numsR vs []).1.length : Int) ≤ (if more then 4000 else (m : Int)))) else rs = (mkB w0, (numsR vs []).1, (⟨#[]⟩ : ByteArray), false)) else rs = (mkB w0, (numsR vs []).1, (⟨#[]⟩ : ByteArray), false)) → Ev (fun k => spec_l30Parse.f k (mkB l)) rs := by
          intro rs h
          refine S _ _ hs ?_
          simp only [Bool.false_eq_true, if_false]
          refine Ev.go (specNumbers_ev vs (by omega)) ?_
          by_cases h1 : (numsR vs []).2 = true
          · rw [if_pos h1] at h
            refine Ev.congr (fun k => if_pos h1) ?_
            refine Ev.congr (fun k => if_pos (by omega)) ?_
            by_cases h2 : (m : Int) ≤ ((numsR vs []).1.length : Int)
            · rw [if_pos h2] at h
              rw [h]
              exact Ev.congr (fun k => if_pos h2) (Ev.const rfl)
            · rw [if_neg h2] at h
              rw [h]
              exact Ev.congr (fun k => if_neg h2) (Ev.const rfl)
          · rw [if_neg h1] at h
            rw [h]
            exact Ev.congr (fun k => if_neg h1) (Ev.const rfl)
        by_cases hp : (numsP vs []).2 = true
        · rw [if_pos hp] at hnR
          have hL := hnL hp
          simp only [List.length_nil, Nat.zero_add] at hL
          simp only [hnR, if_pos hp] at hSp
          have hloop : Ev (fun k => impl_readCommand.l0 k (mkB (shp m false false)) (vs.map mkB) (vs.length : Int) 0 (mkB w0) ([] : List Int) (⟨#[]⟩ : ByteArray)) (mkB w0, (numsP vs []).1, (⟨#[]⟩ : ByteArray), decide (((numsP vs []).1.length : Int) ≤ 4000)) := by
            have := cmd_part (shp m false false) (mkB w0) (⟨#[]⟩ : ByteArray) vs [] (by simp; omega) (fun v h => by have := hv v h; omega) hno (mkB w0, (numsP vs []).1, (⟨#[]⟩ : ByteArray), decide (((numsP vs []).1.length : Int) ≤ 4000)) vs.length 0 [] (by omega) (by simp)
              (fun _ => by
                simp only [List.drop_zero, List.append_nil, List.length_nil, Nat.add_zero]
                exact cmd_end _ _ _ vs _) (fun h => by rw [List.drop_zero, hp] at h; cases h)
            simpa using this
          by_cases c1 : vs.length < m
          · refine ⟨_, _, hSp (mkB w0, (numsP vs []).1, (⟨#[]⟩ : ByteArray), false) (by rw [if_neg (by omega)]), I _ _ true more _ hi hcut (by rw [if_pos rfl, hrl, if_pos c1]; exact J1 _), Or.inr ⟨rfl, rfl⟩⟩
          · by_cases c2 : vs.length > m
            · cases more with
              | false =>
                refine ⟨_, _, hSp (mkB w0, (numsP vs []).1, (⟨#[]⟩ : ByteArray), false) (by rw [if_pos (by omega)]; simp; omega), I _ _ true false _ hi hcut (by rw [if_pos rfl, hrl, if_neg c1, if_pos c2]; exact J1 _), Or.inr ⟨rfl, rfl⟩⟩
              | true =>
                refine ⟨(mkB w0, (numsP vs []).1, (⟨#[]⟩ : ByteArray), decide (((numsP vs []).1.length : Int) ≤ 4000)), (mkB w0, (numsP vs []).1, (⟨#[]⟩ : ByteArray), decide (((numsP vs []).1.length : Int) ≤ 4000)), hSp _ (by rw [if_pos (by omega)]; simp), I _ _ true true _ hi hcut (by rw [if_pos rfl, hrl, if_neg c1, if_pos c2]; exact J2 _ _ hloop), ?_⟩
                by_cases hc : ((numsP vs []).1.length : Int) ≤ 4000
                · exact Or.inl ⟨decide_eq_true hc, rfl⟩
                · exact Or.inr ⟨decide_eq_false hc, decide_eq_false hc⟩
            · refine ⟨(mkB w0, (numsP vs []).1, (⟨#[]⟩ : ByteArray), true), (mkB w0, (numsP vs []).1, (⟨#[]⟩ : ByteArray), decide (((numsP vs []).1.length : Int) ≤ 4000)), hSp _ (by rw [if_pos (by omega)]; cases more <;> simp <;> omega), I _ _ true more _ hi hcut (by rw [if_pos rfl, hrl, if_neg c1, if_neg c2]; exact J2 _ _ hloop), Or.inl ⟨rfl, by rw [decide_eq_true (by omega)]⟩⟩
        · rw [if_neg hp] at hnR
          simp only [hnR, Bool.false_eq_true, if_false] at hSp
          have hloop : Ev (fun k => impl_readCommand.l0 k (mkB (shp m false false)) (vs.map mkB) (vs.length : Int) 0 (mkB w0) ([] : List Int) (⟨#[]⟩ : ByteArray)) (mkB w0, (numsP vs []).1, (⟨#[]⟩ : ByteArray), false) := by
            have := cmd_part (shp m false false) (mkB w0) (⟨#[]⟩ : ByteArray) vs [] (by simp; omega) (fun v h => by have := hv v h; omega) hno (mkB w0, (numsP vs []).1, (⟨#[]⟩ : ByteArray), false) vs.length 0 [] (by omega) (by simp)
              (fun h => by rw [List.drop_zero] at h; exact absurd h hp) (fun _ => by rw [List.drop_zero])
            simpa using this
          have hJ : ∃ ri, Ev (fun k => impl_readCommand.j0 k (mkB (shp m false false)) (vs.map mkB) (if true = true then (if vs.length < (shp m false false).length then true else if vs.length > (shp m false false).length then !more else false) else true) (mkB w0) (⟨#[]⟩ : ByteArray)) ri ∧ ri.2.2.2 = false := by
            generalize (if true = true then (if vs.length < (shp m false false).length then true else if vs.length > (shp m false false).length then !more else false) else true) = b
            cases b with
            | true => exact ⟨_, J1 _, rfl⟩
            | false => exact ⟨_, J2 _ _ hloop, rfl⟩
          obtain ⟨ri, h1, h2⟩ := hJ
          exact ⟨_, ri, hSp _ rfl, I _ _ true more _ hi hcut h1, Or.inr ⟨rfl, h2⟩⟩
      | true =>
        have hmore : more = false := hlm rfl
        subst hmore
        simp only [if_true] at hrl
        simp only [if_false, Bool.false_eq_true] at hs
        rcases List.eq_nil_or_concat vs with rfl | ⟨us, z, rfl⟩
        · refine ⟨((⟨#[]⟩ : ByteArray), ([] : List Int), (⟨#[]⟩ : ByteArray), false), _, S _ _ hs (by simp only [if_true]; exact Ev.congr (fun k => if_pos (by simp)) (Ev.const rfl)), I _ _ true false _ hi hcut (by rw [if_pos rfl, hrl, if_pos (by simp)]; exact J1 _), Or.inr ⟨rfl, rfl⟩⟩
        · rw [List.concat_eq_append] at *
          have hne : us ++ [z] ≠ [] := by simp
          have hul : (us ++ [z]).length = us.length + 1 := by simp
          have hw1 : wrap64 ((((us ++ [z]).map mkB).length : Int) - 1) = ((us ++ [z]).length : Int) - 1 := by rw [List.length_map]; exact wr (by omega) (by omega)
          have hgl : rdOf ByteArray.empty ((us ++ [z]).map mkB) (((us ++ [z]).length : Int) - 1) = mkB z := by rw [getLast_rd _ hne]; simp
          have htk : ((us ++ [z]).map mkB).take ((((us ++ [z]).length : Nat) : Int) - 1).toNat = us.map mkB := by
            rw [show ((((us ++ [z]).length : Nat) : Int) - 1).toNat = us.length by omega, ← List.map_take, List.take_left']
            rfl
          have hSp : ∀ rs, (if z = [] then rs = ((⟨#[]⟩ : ByteArray), ([] : List Int), (⟨#[]⟩ : ByteArray), false) else if (numsR us []).2 = true then (if (m : Int) ≤ ((numsR us []).1.length : Int) then rs = (mkB w0, (numsR us []).1, mkB z, decide (((numsR us []).1.length : Int) ≤ (m : Int))) else rs = (mkB w0, (numsR us []).1, mkB z, false)) else rs = (mkB w0, (numsR us []).1, mkB z, false)) → Ev (fun k => spec_l30Parse.f k (mkB l)) rs := by
            intro rs h
            refine S _ _ hs ?_
            simp only [if_true]
            refine Ev.congr (fun k => if_neg (by simp; omega)) ?_
            simp only [hw1, hgl, htk, mkB_toList]
            refine Ev.congr (fun k => if_pos (by omega)) ?_
            refine Ev.congr (fun k => if_pos (by rw [List.length_map]; omega)) ?_
            by_cases hz : z = []
            · rw [if_pos hz] at h
              rw [h]
              exact Ev.congr (fun k => if_pos hz) (Ev.const rfl)
            · rw [if_neg hz] at h
              refine Ev.congr (fun k => if_neg hz) ?_
              refine Ev.congr (fun k => if_pos (by rw [List.length_map]; omega)) ?_
              refine Ev.go (specNumbers_ev us (by omega)) ?_
              by_cases h1 : (numsR us []).2 = true
              · rw [if_pos h1] at h
                refine Ev.congr (fun k => if_pos h1) ?_
                refine Ev.congr (fun k => if_pos (by omega)) ?_
                by_cases h2 : (m : Int) ≤ ((numsR us []).1.length : Int)
                · rw [if_pos h2] at h
                  rw [h]
                  exact Ev.congr (fun k => if_pos h2) (Ev.const rfl)
                · rw [if_neg h2] at h
                  rw [h]
                  exact Ev.congr (fun k => if_neg h2) (Ev.const rfl)
              · rw [if_neg h1] at h
                rw [h]
                exact Ev.congr (fun k => if_neg h1) (Ev.const rfl)
          have huR := numsP_R us []
          have huL := numsP_len us []
          simp only [List.length_nil, Nat.zero_add] at huL
          by_cases c : us.length = m
          · have hj : (if true = true then (if (us ++ [z]).length < (shp m true false).length then true else if (us ++ [z]).length > (shp m true false).length then !false else false) else true) = false := by
              rw [if_pos rfl, hrl, hul, if_neg (by omega), if_neg (by omega)]
            have hno : ∀ (q : Nat) (h : q < (shp m true false).length), q < us.length → (shp m true false)[q] ≠ 119 := by
              intro q h hq
              have : (shp m true false)[q] = 105 := by
                simp only [shp, if_true, Bool.false_eq_true, if_false, List.append_nil]
                rw [List.getElem_append_left (by simp; omega)]
                simp
              rw [this]; decide
            have hpart := cmd_part (shp m true false) (mkB w0) (⟨#[]⟩ : ByteArray) us [z] (by simp; omega) (fun v h => by have := hv v (by simp [h]); omega) hno
            by_cases hp : (numsP us []).2 = true
            · rw [if_pos hp] at huR
              have hL := huL hp
              simp only [huR, if_pos hp] at hSp
              have hloop := hpart (if z = [] then (mkB w0, (numsP us []).1, mkB z, false) else (mkB w0, (numsP us []).1, mkB z, decide (((numsP us []).1.length : Int) ≤ 4000))) us.length 0 [] (by omega) (by simp)
                (fun _ => by rw [List.drop_zero]; exact cmd_word m _ _ us z c hm _) (fun h => by rw [List.drop_zero, hp] at h; cases h)
              have hI := I _ _ true false _ hi hcut (by rw [hj]; exact J2 _ _ (by simpa using hloop))
              by_cases hz : z = []
              · rw [if_pos hz] at hI
                exact ⟨_, _, hSp _ (by rw [if_pos hz]), hI, Or.inr ⟨rfl, rfl⟩⟩
              · rw [if_neg hz] at hI
                refine ⟨(mkB w0, (numsP us []).1, mkB z, true), _, hSp _ (by rw [if_neg hz, if_pos (by omega), decide_eq_true (by omega)]), hI, Or.inl ⟨rfl, by rw [decide_eq_true (by omega)]⟩⟩
            · rw [if_neg hp] at huR
              simp only [huR, Bool.false_eq_true, if_false] at hSp
              have hloop := hpart (mkB w0, (numsP us []).1, (⟨#[]⟩ : ByteArray), false) us.length 0 [] (by omega) (by simp)
                (fun h => by rw [List.drop_zero] at h; exact absurd h hp) (fun _ => by rw [List.drop_zero])
              have hI := I _ _ true false _ hi hcut (by rw [hj]; exact J2 _ _ (by simpa using hloop))
              by_cases hz : z = []
              · exact ⟨_, _, hSp _ (by rw [if_pos hz]), hI, Or.inr ⟨rfl, rfl⟩⟩
              · exact ⟨_, _, hSp _ (by rw [if_neg hz]), hI, Or.inr ⟨rfl, rfl⟩⟩
          · have hj : (if true = true then (if (us ++ [z]).length < (shp m true false).length then true else if (us ++ [z]).length > (shp m true false).length then !false else false) else true) = true := by
              rw [if_pos rfl, hrl, hul]
              by_cases h : us.length + 1 < m + 1
              · rw [if_pos h]
              · rw [if_neg h, if_pos (by omega)]; rfl
            have hI := I _ _ true false _ hi hcut (by rw [hj]; exact J1 _)
            by_cases hz : z = []
            · exact ⟨_, _, hSp _ (by rw [if_pos hz]), hI, Or.inr ⟨rfl, rfl⟩⟩
            · by_cases hp : (numsP us []).2 = true
              · rw [if_pos hp] at huR
                have hL := huL hp
                simp only [huR, if_pos hp] at hSp
                by_cases h2 : m ≤ us.length
                · exact ⟨_, _, hSp (mkB w0, (numsP us []).1, mkB z, false) (by rw [if_neg hz, if_pos (by omega), decide_eq_false (by omega)]), hI, Or.inr ⟨rfl, rfl⟩⟩
                · exact ⟨_, _, hSp (mkB w0, (numsP us []).1, mkB z, false) (by rw [if_neg hz, if_neg (by omega)]), hI, Or.inr ⟨rfl, rfl⟩⟩
              · rw [if_neg hp] at huR
                simp only [huR, Bool.false_eq_true, if_false] at hSp
                exact ⟨_, _, hSp _ (by rw [if_neg hz]), hI, Or.inr ⟨rfl, rfl⟩⟩

theorem FnExactIsDeskCommand : laws_FnExactIsDeskCommand.Pure := by
  intro a0 _
  obtain ⟨l, rfl⟩ : ∃ l, a0 = mkB l := ⟨a0.data.toList, (mkB_self a0).symm⟩
  refine Ev.rounds (g := fun k => laws_FnExactIsDeskCommand.f k (mkB l)) ?_
  unfold laws_FnExactIsDeskCommand.f
  by_cases hbig : ((mkB l).size : Int) > 1048576
  · exact Ev.congr (fun k => if_pos hbig) (Ev.const rfl)
  refine Ev.congr (fun k => if_neg hbig) ?_
  obtain ⟨rs, ri, h1, h2, h3⟩ := parse_both l (by rw [mkB_size] at hbig; omega)
  have g1 : Ev (fun k => spec_IsDeskCommand.f k (mkB l)) rs.2.2.2 := by
    unfold spec_IsDeskCommand.f
    exact Ev.go (f := fun _ bt => some bt.2.2.2) h1 (Ev.const rfl)
  have g2 : Ev (fun k => impl_IsDeskCommand.f k (mkB l)) ri.2.2.2 := by
    unfold impl_IsDeskCommand.f
    exact Ev.go (f := fun _ bt => some bt.2.2.2) h2 (Ev.const rfl)
  refine Ev.go g1 (Ev.go g2 ?_)
  have e : ri.2.2.2 = rs.2.2.2 := by
    rcases h3 with ⟨_, h⟩ | ⟨h, h'⟩
    · rw [h]
    · rw [h, h']
  rw [e]
  exact Ev.congr (fun k => if_neg (by simp)) (Ev.const rfl)

end Go.Proofs.YtdafekighdmhfaaDoor.Pure
