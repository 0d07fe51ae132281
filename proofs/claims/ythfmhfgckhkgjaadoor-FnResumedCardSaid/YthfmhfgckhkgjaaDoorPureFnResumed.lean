/-
  FnResumed: a job goes on with the copies that are not done, and entries lead from valid states to valid states, for every code; no condition.
-/
import Derived.Test.YthfmhfgckhkgjaaDoorPFnResumedx18
set_option linter.unusedVariables false
set_option linter.unusedSimpArgs false
namespace Go.Proofs.YthfmhfgckhkgjaaDoor.Pure
open Go.RowKit Go.Proofs.YthfmhfgckhkgjaaDoor.PFnResumed Go.Proofs.YthfmhfgckhkgjaaDoorW.PrintWords Go.Proofs.YthfmhfgckhkgjaaDoorW.PrintLast

theorem wr {x : Int} (h0 : -9223372036854775808 ≤ x) (h1 : x ≤ 9223372036854775807) : wrap64 x = x := by unfold wrap64; omega
theorem rd_lt {xs : List Int} {i : Int} (h0 : 0 ≤ i) (h : i < xs.length) : rd xs i = xs[i.toNat]'(by omega) := by simp [rd, show i.toNat < xs.length by omega]
theorem Ev.go {α β : Type} {g : Nat → Option α} {f : Nat → α → Option β} {a : α} {r : β} (h : Ev g a) (k : Ev (fun n => f n a) r) : Ev (fun n => (g n).bind (f n)) r := Ev.bind h k
theorem Ev.at_ {α : Type} {g : Nat → Option α} {r : α} (K : Nat) (h : ∀ k, K ≤ k → g k = some r) : Ev g r := ⟨K, h⟩
theorem Ev.const {α : Type} {o : Option α} {r : α} (h : o = some r) : Ev (fun _ => o) r := ⟨0, fun _ _ => h⟩

/-! ### texts -/
def mkB (l : List UInt8) : ByteArray := ⟨l.toArray⟩
theorem mkB_data (l : List UInt8) : (mkB l).data.toList = l := by simp [mkB]
theorem mkB_size (l : List UInt8) : (mkB l).size = l.length := by simp [mkB, ByteArray.size]
theorem mkB_toList (l : List UInt8) : (mkB l).toList = l := ByteArray.toList_mk l
theorem mkB_self (s : ByteArray) : mkB s.data.toList = s := by
 obtain ⟨⟨l⟩⟩ := s
 rfl
theorem mkB_app (a b : List UInt8) : mkB a ++ mkB b = mkB (a ++ b) := by
 apply ByteArray.ext
 rw [ByteArray.data_append]
 simp [mkB]
theorem bt_mkB (l : List UInt8) (p : Nat) (h : p < l.length) : bt (mkB l) (p : Int) = (l[p].toNat : Int) := by
 unfold bt
 rw [dif_pos (by rw [mkB_size]; simpa using h)]
 simp only [Int.toNat_natCast]
 rfl
theorem extract_mkB (l : List UInt8) (a b : Nat) : (mkB l).extract a b = mkB ((l.drop a).take (b - a)) := by
 apply ByteArray.ext
 rw [ByteArray.data_extract]
 simp [mkB]
theorem rdOf_mkB (L : List (List UInt8)) (p : Nat) : rdOf ByteArray.empty (L.map mkB) (p : Int) = mkB (L.getD p []) := by
 unfold rdOf
 simp only [Int.toNat_natCast]
 simp only [List.getD_eq_getElem?_getD, List.getElem?_map]
 cases L[p]? <;> rfl
/-! #### cut at a letter -/
def hd (u : List UInt8) : List (List UInt8) → List (List UInt8)
 | [] => [u]
 | h :: t => (u ++ h) :: t
def spl (c : UInt8) : List UInt8 → List (List UInt8)
 | [] => [[]]
 | b :: r => if b = c then [] :: spl c r else hd [b] (spl c r)
theorem hd_hd (u v : List UInt8) (L : List (List UInt8)) : hd u (hd v L) = hd (u ++ v) L := by cases L <;> simp [hd]
theorem spl_ne (c : UInt8) (l : List UInt8) : spl c l ≠ [] := by
 cases l with
 | nil => simp [spl]
 | cons b r =>
  unfold spl
  split
  ·simp
  ·cases spl c r <;> simp [hd]
theorem hd_nil (L : List (List UInt8)) (h : L ≠ []) : hd [] L = L := by
 cases L with
 | nil => exact absurd rfl h
 | cons x t => simp [hd]
theorem spl_app (c : UInt8) : ∀ (u v : List UInt8), (∀ b ∈ u, b ≠ c) → spl c (u ++ v) = hd u (spl c v)
 | [], v, _ => by rw [List.nil_append, hd_nil _ (spl_ne c v)]
 | b :: u, v, h => by
  rw [List.cons_append]
  unfold spl
  rw [if_neg (h b (by simp)), spl_app c u v (fun x hx => h x (by simp [hx])), hd_hd]
  cases v <;> rfl
theorem spl_none (c : UInt8) (u : List UInt8) (h : ∀ b ∈ u, b ≠ c) : spl c u = [u] := by
 have := spl_app c u [] h
 simpa [spl, hd] using this
theorem spl_sep (c : UInt8) (u v : List UInt8) (h : ∀ b ∈ u, b ≠ c) : spl c (u ++ c :: v) = u :: spl c v := by
 rw [spl_app c u _ h]
 conv => lhs; unfold spl
 rw [if_pos rfl]
 simp [hd]
theorem spl_len (c : UInt8) : ∀ l : List UInt8, (spl c l).length ≤ l.length + 1
 | [] => by simp [spl]
 | b :: r => by
  have ih := spl_len c r
  unfold spl
  split
  ·simp only [List.length_cons]; omega
  ·cases hx : spl c r with
   | nil => simp [hd]
   | cons x t => rw [hx] at ih; simp only [hd, List.length_cons] at ih ⊢; omega
theorem spl_mem (c : UInt8) : ∀ (l w : List UInt8), w ∈ spl c l → w.length ≤ l.length
 | [], w, h => by
  simp [spl] at h
  simp [h]
 | b :: r, w, h => by
  unfold spl at h
  split at h
  ·rcases List.mem_cons.1 h with rfl | h
   ·simp
   ·have := spl_mem c r w h
    simp only [List.length_cons]; omega
  ·cases hx : spl c r with
   | nil => exact absurd hx (spl_ne c r)
   | cons x t =>
    rw [hx] at h
    simp only [hd] at h
    rcases List.mem_cons.1 h with rfl | h
    ·have := spl_mem c r x (by rw [hx]; simp)
     simp; omega
    ·have := spl_mem c r w (by rw [hx]; simp [h])
     simp only [List.length_cons]; omega
theorem splitK_spl (c : UInt8) : ∀ l : List UInt8, Lib.splitK [c] 0 (Lib.count l [c]) l = spl c l
 | [] => rfl
 | b :: r => by
  have ih := splitK_spl c r
  by_cases hb : b = c
  ·subst hb
   rw [Lib.count_cons_eq, Nat.add_comm]
   unfold Lib.splitK spl
   have hix : Lib.index (b :: r) [b] = 0 := by rw [Lib.index]; simp [List.isPrefixOf]
   rw [hix, if_neg (by simp), if_pos rfl, ← ih]
   simp
  ·rw [Lib.count_cons_ne b c r hb]
   have hp : ([c] : List UInt8).isPrefixOf (b :: r) = false := by simp [List.isPrefixOf, Ne.symm hb]
   have hix : Lib.index (b :: r) [c] = if Lib.index r [c] == -1 then -1 else Lib.index r [c] + 1 := by rw [Lib.index, hp]; simp
   have hge := Lib.index_ge r [c]
   unfold spl
   rw [if_neg hb, ← ih]
   cases hn : Lib.count r [c] with
   | zero => simp [Lib.splitK, hd]
   | succ k =>
    conv => lhs; unfold Lib.splitK
    conv => rhs; unfold Lib.splitK
    rw [hix]
    by_cases hm : Lib.index r [c] = -1
    ·rw [if_pos (beq_iff_eq.2 hm), if_pos (by simp), if_pos (beq_iff_eq.2 hm)]
     simp [hd]
    ·rw [if_neg (fun e => hm (beq_iff_eq.1 e)), if_neg (fun e => by have := beq_iff_eq.1 e; omega), if_neg (fun e => hm (beq_iff_eq.1 e))]
     have e : (Lib.index r [c] + 1).toNat = (Lib.index r [c]).toNat + 1 := by omega
     rw [e]
     simp [hd]
theorem map_inj {α β : Type} {f : α → β} (hf : ∀ x y, f x = f y → x = y) : ∀ {xs ys : List α}, xs.map f = ys.map f → xs = ys
 | [], [], _ => rfl
 | [], _ :: _, h => by simp at h
 | _ :: _, [], h => by simp at h
 | x :: xs, y :: ys, h => by
  simp only [List.map_cons, List.cons.injEq] at h
  rw [hf _ _ h.1, map_inj hf h.2]
theorem splitB_spl (c : UInt8) (l : List UInt8) : Lib.splitB (mkB [c]) 0 (Lib.countB (mkB l) (mkB [c])) (mkB l) = (spl c l).map mkB := by
 apply map_inj (f := fun s : ByteArray => s.data.toList) (fun x y h => by rw [← mkB_self x, ← mkB_self y]; exact congrArg mkB h)
 rw [Lib.splitB_data, mkB_data, mkB_data]
 have e : Lib.countB (mkB l) (mkB [c]) = Lib.count l [c] := by
  unfold Lib.countB
  rw [mkB_data, mkB_data]
 rw [e, splitK_spl, List.map_map]
 conv => lhs; rw [← List.map_id (spl c l)]
 apply List.map_congr_left
 intro x _
 simp [mkB_data]
theorem split_f (c : UInt8) (l : List UInt8) (h : l.length < 4294967281) : strings_Split.f (mkB l) (mkB [c]) = some ((spl c l).map mkB) := by
 unfold strings_Split.f
 rw [if_pos ⟨by rw [mkB_size]; exact h, by rw [mkB_size]; simp⟩, splitB_spl]
theorem specSplit_l0 (l : List UInt8) (c : UInt8) (hl : l.length ≤ 1000000000) : ∀ (d k : Nat) (acc : List ByteArray) (s p : Nat), p + d = l.length → d + 1 < k → s ≤ p → acc.length ≤ p →
  spec_l01Split.l0 k (mkB l) (c.toNat : Int) acc (s : Int) (p : Int) = some (acc ++ (hd ((l.drop s).take (p - s)) (spl c (l.drop p))).map mkB) := by
 intro d
 induction d with
 | zero =>
  intro k acc s p hp hk hs ha
  obtain ⟨k, rfl⟩ : ∃ m, k = m + 2 := ⟨k - 2, by omega⟩
  simp only [spec_l01Split.l0, mkB_size]
  rw [if_pos (by omega), if_pos (by omega), if_pos (by omega), if_pos (by omega), if_pos (by omega), wr (by omega) (by omega), if_neg (by omega)]
  rw [List.drop_of_length_le (i := p) (by omega)]
  simp only [Int.toNat_natCast, extract_mkB, spl, hd, List.append_nil, List.map_cons, List.map_nil]
 | succ d ih =>
  intro k acc s p hp hk hs ha
  obtain ⟨k, rfl⟩ : ∃ m, k = m + 1 := ⟨k - 1, by omega⟩
  have hlt : p < l.length := by omega
  have hdrop : l.drop p = l[p] :: l.drop (p + 1) := List.drop_eq_getElem_cons hlt
  simp only [spec_l01Split.l0, mkB_size]
  rw [if_pos (by omega), if_neg (by omega), if_pos (by omega), if_pos (by omega), bt_mkB l p hlt, wr (x := (p : Int) + 1) (by omega) (by omega)]
  have e1 : (p : Int) + 1 = ((p + 1 : Nat) : Int) := by omega
  by_cases hb : l[p] = c
  ·rw [if_pos (by rw [hb]), if_pos (by omega), if_pos (by omega), if_pos (by omega), e1, ih k _ (p + 1) (p + 1) (by omega) (by omega) (by omega) (by simp; omega)]
   rw [hdrop]
   conv => rhs; unfold spl
   rw [if_pos hb]
   rw [Nat.sub_self, List.take_zero, hd_nil _ (spl_ne c _)]
   simp only [Int.toNat_natCast, extract_mkB, hd, List.append_nil, List.map_cons, List.append_assoc, List.cons_append, List.nil_append]
  ·rw [if_neg (fun e => hb (UInt8.toNat_inj.1 (by omega))), e1, ih k _ s (p + 1) (by omega) (by omega) (by omega) (by omega)]
   rw [hdrop]
   conv => rhs; unfold spl
   rw [if_neg hb, hd_hd]
   congr 4
   rw [show p + 1 - s = (p - s) + 1 by omega, List.take_succ_eq_append_getElem (by simp; omega)]
   simp [show s + (p - s) = p by omega]
theorem specSplit_ev (l : List UInt8) (c : UInt8) (hl : l.length ≤ 1000000000) : Ev (fun k => spec_l01Split.f k (mkB l) (c.toNat : Int)) ((spl c l).map mkB) :=
 Ev.at_ (l.length + 2) fun k hk => by
  unfold spec_l01Split.f
  have := specSplit_l0 l c hl l.length k [] 0 0 (by omega) (by omega) (by omega) (by simp)
  simpa [hd_nil _ (spl_ne c l)] using this

/-! #### numerals -/
theorem dec_len : ∀ (k n : Nat), 1 ≤ k → n < 10 ^ k → (Lib.decDigits n).length ≤ k
 | 0, _, h, _ => by omega
 | k + 1, n, _, hn => by
  rw [Lib.decDigits]
  split
  ·simp
  ·rename_i h
   have hk : 1 ≤ k := by
    rcases Nat.eq_zero_or_pos k with rfl | h'
    ·simp at hn; omega
    ·exact h'
   have := dec_len k (n / 10) hk (by rw [Nat.pow_succ] at hn; omega)
   simp; omega
theorem dec_ne (n : Nat) : Lib.decDigits n ≠ [] := by
 rw [Lib.decDigits]
 split <;> simp
theorem dec_digs (n : Nat) : ∀ b ∈ Lib.decDigits n, 48 ≤ b.toNat ∧ b.toNat ≤ 57 := by
 induction n using Nat.strongRecOn with
 | _ n ih =>
  rw [Lib.decDigits]
  split
  ·rename_i h
   intro b hb
   rw [List.mem_singleton.1 hb]
   simp; omega
  ·rename_i h
   intro b hb
   rcases List.mem_append.1 hb with hb | hb
   ·exact ih (n / 10) (by omega) b hb
   ·rw [List.mem_singleton.1 hb]
    simp; omega
/-- What digits spell. -/
def val (l : List UInt8) : Nat := l.foldl (fun a b => 10 * a + (b.toNat - 48)) 0
theorem val_app (l : List UInt8) (b : UInt8) : val (l ++ [b]) = 10 * val l + (b.toNat - 48) := by simp [val]
theorem dec_val (n : Nat) : val (Lib.decDigits n) = n := by
 induction n using Nat.strongRecOn with
 | _ n ih =>
  rw [Lib.decDigits]
  split
  ·rename_i h
   simp [val]; omega
  ·rename_i h
   rw [val_app, ih (n / 10) (by omega)]
   simp; omega
theorem val_lt : ∀ (m : Nat) (l : List UInt8), l.length = m → (∀ b ∈ l, 48 ≤ b.toNat ∧ b.toNat ≤ 57) → val l < 10 ^ m := by
 intro m
 induction m with
 | zero =>
  intro l hl _
  rw [List.length_eq_zero_iff.1 hl]
  simp [val]
 | succ m ih =>
  intro l hl hd
  have hne : l ≠ [] := by intro e; simp [e] at hl
  have e := List.dropLast_concat_getLast hne
  have h1 := ih l.dropLast (by simp; omega) (fun b hb => hd b ((List.dropLast_sublist l).subset hb))
  have h2 := hd (l.getLast hne) (List.getLast_mem hne)
  rw [← e, val_app, Nat.pow_succ]
  omega
theorem specDec_ev : ∀ (n : Nat), n ≤ 9223372036854775807 → Ev (fun k => spec_l01Dec.f k (n : Int)) (mkB (Lib.decDigits n)) := by
 intro n
 induction n using Nat.strongRecOn with
 | _ n ih =>
  intro hn
  by_cases h : n < 10
  ·refine Ev.step (f := fun _ => some (mkB (Lib.decDigits n))) (fun k => ?_) (Ev.const rfl)
   simp only [spec_l01Dec.f]
   rw [if_pos (by omega), wr (by omega) (by omega), Lib.decDigits, dif_pos h]
   simp only [strOfNums, List.map_cons, List.map_nil, mkB]
   rw [show ((48 + (n : Int)) % 256).toNat = 48 + n by omega]
  ·have h1 := ih (n / 10) (by omega) (by omega)
   have hl := dec_len 19 (n / 10) (by omega) (by omega)
   refine Ev.step (fun k => ?_) (Ev.go h1 (f := fun _ t => some (mkB (Lib.decDigits n))) (Ev.const rfl))
   simp only [spec_l01Dec.f]
   rw [if_neg (by omega), Int.tdiv_eq_ediv_of_nonneg (by omega), wr (x := (n : Int) / 10) (by omega) (by omega), show ((n : Int) / 10) = ((n / 10 : Nat) : Int) by omega]
   cases hf : spec_l01Dec.f k ((n / 10 : Nat) : Int) with
   | none => rfl
   | some t =>
    have ht : t = mkB (Lib.decDigits (n / 10)) := by
     obtain ⟨K, hK⟩ := h1
     have a := hK (K + k) (by omega)
     have b : spec_l01Dec.f (K + k) ((n / 10 : Nat) : Int) = some t := at_rounds (g := fun k => spec_l01Dec.f k ((n / 10 : Nat) : Int)) (fun k => spec_l01Dec.mono _ k) (by omega) hf
     exact Option.some.inj (b.symm.trans a)
    subst ht
    have hm : Int.tmod (n : Int) 10 = ((n % 10 : Nat) : Int) := by rw [Int.tmod_eq_emod_of_nonneg (by omega)]; omega
    have hs : strOfNums [(wrap64 (48 + Int.tmod (n : Int) 10)) % 256] = mkB [UInt8.ofNat (48 + n % 10)] := by
     rw [hm, wr (by omega) (by omega)]
     simp only [strOfNums, List.map_cons, List.map_nil, mkB]
     rw [show ((48 + ((n % 10 : Nat) : Int)) % 256).toNat = 48 + n % 10 by omega]
    simp only [Option.bind_some, hs, mkB_size]
    rw [if_pos (by simp; omega), mkB_app]
    conv => rhs; rw [Lib.decDigits, dif_neg h]
def digR (l : List UInt8) : Int × Bool := if 1 ≤ l.length ∧ l.length ≤ 10 ∧ ∀ b ∈ l, 48 ≤ b.toNat ∧ b.toNat ≤ 57 then ((val l : Int), decide (Lib.decDigits (val l) = l)) else (0, false)
theorem specDigits_l0 (l : List UInt8) (h1 : 1 ≤ l.length) (h2 : l.length ≤ 10) : ∀ (d p : Nat), p + d = l.length → (∀ b ∈ l.take p, 48 ≤ b.toNat ∧ b.toNat ≤ 57) →
  Ev (fun k => spec_l01Digits.l0 k (mkB l) (val (l.take p) : Int) (p : Int)) (digR l) := by
 intro d
 induction d with
 | zero =>
  intro p hp hd
  have ht : l.take p = l := List.take_of_length_le (by omega)
  rw [ht] at hd ⊢
  have hv := val_lt l.length l rfl hd
  have hv2 : val l < 10 ^ 10 := Nat.lt_of_lt_of_le hv (Nat.pow_le_pow_right (by omega) h2)
  refine Ev.step (f := fun k => (spec_l01Dec.f k (val l : Int)).bind fun t => some ((val l : Int), (t.toList == (mkB l).toList))) (fun k => ?_) (Ev.go (specDec_ev (val l) (by omega)) (Ev.const ?_))
  ·simp only [spec_l01Digits.l0, mkB_size]
   rw [if_neg (by omega)]
  ·unfold digR
   rw [if_pos ⟨h1, h2, hd⟩, mkB_toList, mkB_toList]
   congr 2
   exact Bool.beq_eq_decide_eq _ _
 | succ d ih =>
  intro p hp hd
  have hlt : p < l.length := by omega
  have hmem : l[p] ∈ l := List.getElem_mem hlt
  have hno : ¬ (48 ≤ l[p].toNat ∧ l[p].toNat ≤ 57) → digR l = (0, false) := fun hn => by
   unfold digR
   rw [if_neg (fun x => hn (x.2.2 _ hmem))]
  by_cases hb1 : l[p].toNat < 48
  ·rw [hno (by omega)]
   refine Ev.step (f := fun _ => some (0, false)) (fun k => ?_) (Ev.const rfl)
   simp only [spec_l01Digits.l0, mkB_size]
   rw [if_pos (by omega), if_pos (by omega), bt_mkB l p hlt, if_pos (by omega)]
  ·by_cases hb2 : 57 < l[p].toNat
   ·rw [hno (by omega)]
    refine Ev.step (f := fun _ => some (0, false)) (fun k => ?_) (Ev.const rfl)
    simp only [spec_l01Digits.l0, mkB_size]
    rw [if_pos (by omega), if_pos (by omega), bt_mkB l p hlt, if_neg (by omega), if_pos (by omega)]
   ·have e : l.take (p + 1) = l.take p ++ [l[p]] := List.take_succ_eq_append_getElem hlt
    have hv := val_lt p (l.take p) (by simp; omega) hd
    have hv2 : val (l.take p) < 10 ^ 10 := Nat.lt_of_lt_of_le hv (Nat.pow_le_pow_right (by omega) (by omega))
    have hn := ih (p + 1) (by omega) (by
     rw [e]
     intro b hb
     rcases List.mem_append.1 hb with hb | hb
     ·exact hd b hb
     ·rw [List.mem_singleton.1 hb]; omega)
    refine Ev.step (fun k => ?_) hn
    simp only [spec_l01Digits.l0, mkB_size]
    rw [if_pos (by omega), if_pos (by omega), bt_mkB l p hlt, if_neg (by omega), if_neg (by omega), e, val_app]
    rw [wr (x := 10 * _) (by omega) (by omega), wr (x := (p : Int) + 1) (by omega) (by omega), wr (by omega) (by omega)]
    congr 1
    ·omega
theorem specDigits_ev (l : List UInt8) : Ev (fun k => spec_l01Digits.f k (mkB l)) (digR l) := by
 unfold spec_l01Digits.f
 simp only [mkB_size]
 by_cases h1 : l.length < 1
 ·have e : digR l = (0, false) := by unfold digR; rw [if_neg (by omega)]
  rw [e]
  simp only [if_pos (show (l.length : Int) < 1 by omega)]
  exact Ev.step (f := fun _ => some (0, false)) (fun k => by simp [spec_l01Digits.j0]) (Ev.const rfl)
 ·simp only [if_neg (show ¬ (l.length : Int) < 1 by omega)]
  by_cases h2 : l.length ≤ 10
  ·have := specDigits_l0 l (by omega) h2 l.length 0 (by omega) (by simp)
   refine Ev.step (fun k => ?_) this
   simp only [spec_l01Digits.j0]
   rw [if_neg (by simp; omega)]
   rfl
  ·have e : digR l = (0, false) := by unfold digR; rw [if_neg (by omega)]
   rw [e]
   refine Ev.step (f := fun _ => some (0, false)) (fun k => ?_) (Ev.const rfl)
   simp only [spec_l01Digits.j0]
   rw [if_pos (by simp; omega)]
theorem digR_dec (n : Nat) (h : n < 10000000000) : digR (Lib.decDigits n) = ((n : Int), true) := by
 unfold digR
 have h1 := dec_len 10 n (by omega) (by omega)
 have h2 : 1 ≤ (Lib.decDigits n).length := by have := dec_ne n; exact List.length_pos_iff.2 this
 rw [if_pos ⟨h2, h1, dec_digs n⟩, dec_val]
 simp
theorem digR_bd (l : List UInt8) : 0 ≤ (digR l).1 ∧ (digR l).1 < 10000000000 := by
 unfold digR
 split
 ·rename_i h
  have := val_lt l.length l rfl h.2.2
  have h2 : val l < 10 ^ 10 := Nat.lt_of_lt_of_le this (Nat.pow_le_pow_right (by omega) h.2.1)
  simp only
  omega
 ·simp

/-! #### signed numerals, lists of numerals -/
def sgnR : List UInt8 → Int × Bool
 | [] => digR []
 | b :: r => if b.toNat = 45 then (-(digR r).1, if (digR r).2 then decide ((digR r).1 > 0) else false) else digR (b :: r)
theorem sgnR_cons (b : UInt8) (r : List UInt8) : sgnR (b :: r) = if b.toNat = 45 then (-(digR r).1, if (digR r).2 then decide ((digR r).1 > 0) else false) else digR (b :: r) := rfl
theorem specSigned_ev (l : List UInt8) : Ev (fun k => spec_l01Signed.f k (mkB l)) (sgnR l) := by
 cases l with
 | nil =>
  refine Ev.step (f := fun k => (spec_l01Digits.f k (mkB [])).bind fun t => some (t.1, t.2)) (fun k => ?_) (Ev.go (specDigits_ev []) (Ev.const rfl))
  simp only [spec_l01Signed.f, mkB_size, spec_l01Signed.j0]
  rw [if_neg (show ¬ ((([] : List UInt8).length : Int) > 0) by simp), if_neg (by decide)]
 | cons b r =>
  have hb : bt (mkB (b :: r)) 0 = (b.toNat : Int) := bt_mkB (b :: r) 0 (by simp)
  have hs : ((mkB (b :: r)).size : Int) > 0 := by rw [mkB_size]; simp
  rw [sgnR_cons]
  by_cases h : b.toNat = 45
  ·rw [if_pos h]
   have hd := digR_bd r
   have he : (mkB (b :: r)).extract 1 (mkB (b :: r)).size = mkB r := by rw [mkB_size, extract_mkB]; simp
   refine Ev.step (f := fun k => (spec_l01Digits.f k (mkB r)).bind fun t => if t.2 = true then some (wrap64 (-t.1), decide (t.1 > 0)) else some (wrap64 (-t.1), false)) (fun k => ?_) (Ev.go (specDigits_ev r) ?_)
   ·simp only [spec_l01Signed.f, if_pos hs, hb, h, spec_l01Signed.j0, he]
    rw [if_pos (by decide), if_pos (by omega)]
   ·rw [wr (by omega) (by omega)]
    cases (digR r).2 <;> exact Ev.const (by simp)
  ·rw [if_neg h]
   refine Ev.step (f := fun k => (spec_l01Digits.f k (mkB (b :: r))).bind fun t => some (t.1, t.2)) (fun k => ?_) (Ev.go (specDigits_ev (b :: r)) (Ev.const rfl))
   simp only [spec_l01Signed.f, if_pos hs, hb, spec_l01Signed.j0]
   rw [if_neg (by simp; omega)]
theorem sgnR_dec (n : Nat) (h : n < 10000000000) : sgnR (Lib.decDigits n) = ((n : Int), true) := by
 have hd := digR_dec n h
 have hg := dec_digs n
 cases hx : Lib.decDigits n with
 | nil => exact absurd hx (dec_ne n)
 | cons b r =>
  rw [hx] at hd hg
  rw [sgnR_cons]
  rw [if_neg (by have := hg b (by simp); omega), hd]
def numsR : List (List UInt8) → List Int → List Int × Bool
 | [], acc => (acc, true)
 | w :: r, acc => if (sgnR w).2 = true then numsR r (acc ++ [(sgnR w).1]) else ([], false)
theorem specNumbers_l0 (ws : List (List UInt8)) (hl : ws.length ≤ 1000000000) : ∀ (d p : Nat) (acc : List Int), p + d = ws.length → acc.length = p →
  Ev (fun k => spec_l01Numbers.l0 k (ws.map mkB) acc (p : Int)) (numsR (ws.drop p) acc) := by
 intro d
 induction d with
 | zero =>
  intro p acc hp ha
  rw [List.drop_of_length_le (by omega)]
  refine Ev.step (f := fun _ => some (acc, true)) (fun k => ?_) (Ev.const rfl)
  simp only [spec_l01Numbers.l0, List.length_map]
  rw [if_neg (by omega)]
 | succ d ih =>
  intro p acc hp ha
  have hlt : p < ws.length := by omega
  rw [List.drop_eq_getElem_cons hlt]
  have hg : ws.getD p [] = ws[p] := by simp [List.getD_eq_getElem?_getD, hlt]
  refine Ev.step (f := fun k => (spec_l01Signed.f k (mkB ws[p])).bind fun t => if t.2 = true then (if acc.length < 17592186044416 then spec_l01Numbers.l0 k (ws.map mkB) (acc ++ [t.1]) (wrap64 ((p : Int) + 1)) else none) else some (([] : List Int), false)) (fun k => ?_) (Ev.go (specSigned_ev _) ?_)
  ·simp only [spec_l01Numbers.l0, List.length_map, rdOf_mkB, hg]
   rw [if_pos (by omega), if_pos (by omega)]
  ·unfold numsR
   by_cases h : (sgnR ws[p]).2 = true
   ·simp only [if_pos h]
    simp only [if_pos (show acc.length < 17592186044416 by omega)]
    rw [wr (by omega) (by omega)]
    exact ih (p + 1) _ (by omega) (by simp; omega)
   ·simp only [if_neg h]
    exact Ev.const rfl
theorem specNumbers_ev (ws : List (List UInt8)) (hl : ws.length ≤ 1000000000) : Ev (fun k => spec_l01Numbers.f k (ws.map mkB)) (numsR ws []) :=
 specNumbers_l0 ws hl ws.length 0 [] (by omega) rfl
theorem itoa_nat (n : Nat) : Lib.itoa (n : Int) = Lib.decDigits n := by unfold Lib.itoa; rw [if_neg (by omega)]; simp
theorem parseUintM_digs : ∀ (l : List UInt8) (acc : Nat), (∀ b ∈ l, 48 ≤ b.toNat ∧ b.toNat ≤ 57) → (acc + 1) * 10 ^ l.length ≤ 1000000000000000000 →
  Lib.parseUintM 18446744073709551615 acc l = .ok (l.foldl (fun a b => 10 * a + (b.toNat - 48)) acc)
 | [], acc, _, _ => rfl
 | c :: r, acc, hd, hb => by
  have h := hd c (by simp)
  have hp : (acc + 1) * 10 ≤ 1000000000000000000 := by
   have h1 : 1 ≤ 10 ^ r.length := Nat.one_le_pow _ _ (by decide)
   rw [List.length_cons, Nat.pow_succ] at hb
   calc (acc + 1) * 10 = (acc + 1) * (1 * 10) := by omega
    _ ≤ (acc + 1) * (10 ^ r.length * 10) := Nat.mul_le_mul_left _ (Nat.mul_le_mul_right _ h1)
    _ ≤ _ := hb
  unfold Lib.parseUintM
  rw [if_pos h, if_neg (by omega), if_neg (by omega), parseUintM_digs r _ (fun b hb => hd b (by simp [hb])) ?_]
  ·simp only [List.foldl_cons]
   congr 2
   omega
  ·have h2 : acc * 10 + (c.toNat - 48) + 1 ≤ (acc + 1) * 10 := by omega
   calc (acc * 10 + (c.toNat - 48) + 1) * 10 ^ r.length ≤ ((acc + 1) * 10) * 10 ^ r.length := Nat.mul_le_mul_right _ h2
    _ = (acc + 1) * 10 ^ (c :: r).length := by rw [List.length_cons, Nat.pow_succ, Nat.mul_assoc, Nat.mul_comm 10]
    _ ≤ _ := hb
theorem parseInt_dec (n : Nat) (h : n < 10000000000) : Lib.parseIntB 64 (Lib.decDigits n) = .ok (n : Int) := by
 have hl := dec_len 10 n (by omega) (by omega)
 have hg := dec_digs n
 have hv := dec_val n
 cases hx : Lib.decDigits n with
 | nil => exact absurd hx (dec_ne n)
 | cons b r =>
  rw [hx] at hl hg hv
  have hb := hg b (by simp)
  have hM := parseUintM_digs (b :: r) 0 hg (by
   have : 10 ^ (b :: r).length ≤ 10 ^ 10 := Nat.pow_le_pow_right (by omega) hl
   omega)
  unfold val at hv
  rw [hv] at hM
  have hU : Lib.parseUintB 64 (b :: r) = .ok n := by
   unfold Lib.parseUintB
   rw [if_neg (by simp)]
   exact hM
  simp only [Lib.parseIntB]
  rw [if_neg (by omega), hU]
  simp only
  rw [if_neg (by omega), if_neg (by omega), if_neg (by omega)]

theorem specNumber_ev (n : Nat) (hn : n ≤ 9223372036854775807) : Ev (fun k => spec_l01Number.f k (n : Int)) (mkB (Lib.decDigits n)) := by
 unfold spec_l01Number.f
 simp only [if_neg (show ¬ (n : Int) < 0 by omega)]
 exact Ev.go (specDec_ev n hn) (Ev.const rfl)
theorem decimal_f (n : Nat) (hn : n ≤ 9223372036854775807) : impl_decimal.f (n : Int) = some (mkB (Lib.decDigits n)) := by
 unfold impl_decimal.f
 rw [if_pos (by omega), itoa_nat]
 rfl
/-- Three numerals, a space between. -/
def three (a b c : Nat) : List UInt8 := Lib.decDigits a ++ [32] ++ Lib.decDigits b ++ [32] ++ Lib.decDigits c
theorem dec_32 (n : Nat) : ∀ b ∈ Lib.decDigits n, b ≠ 32 := fun b hb e => by
 have := dec_digs n b hb
 rw [e] at this
 simp at this
theorem spl_three (a b c : Nat) : spl 32 (three a b c) = [Lib.decDigits a, Lib.decDigits b, Lib.decDigits c] := by
 unfold three
 rw [show Lib.decDigits a ++ [32] ++ Lib.decDigits b ++ [32] ++ Lib.decDigits c = Lib.decDigits a ++ 32 :: (Lib.decDigits b ++ 32 :: Lib.decDigits c) by simp]
 rw [spl_sep 32 _ _ (dec_32 a), spl_sep 32 _ _ (dec_32 b), spl_none 32 _ (dec_32 c)]
theorem readDecimal_dec (n : Nat) (h : n < 10000000000) : impl_readDecimal.f (mkB (Lib.decDigits n)) = some ((n : Int), true) := by
 have hl := dec_len 10 n (by omega) (by omega)
 unfold impl_readDecimal.f
 rw [if_pos (by rw [mkB_size]; omega)]
 unfold impl_readDecimal.ans
 rw [mkB_data, parseInt_dec n h]
 simp only
 rw [if_pos ⟨by rw [mkB_size]; exact hl, by omega, itoa_nat n⟩]
theorem readDecimal_f (l : List UInt8) (h : l.length ≤ 281474976710656) : impl_readDecimal.f (mkB l) = some (impl_readDecimal.ans (mkB l)) := by
 unfold impl_readDecimal.f
 rw [if_pos (by rw [mkB_size]; exact h)]

/-! ### the journal -/
def lineR (a b i : Nat) : List UInt8 := three a b ((7 * a + 3 * b + 11 * i) % 9973)
theorem line_c (a b i : Nat) (ha : a ≤ 10000000000) (hb : b ≤ 10000000000) (hi : i ≤ 10000000000) :
  Int.tmod (wrap64 ((wrap64 ((wrap64 (7 * (a : Int))) + (wrap64 (3 * (b : Int))))) + (wrap64 (11 * (i : Int))))) 9973 = (((7 * a + 3 * b + 11 * i) % 9973 : Nat) : Int) := by
 rw [wr (x := 7 * (a : Int)) (by omega) (by omega), wr (x := 3 * (b : Int)) (by omega) (by omega), wr (x := 11 * (i : Int)) (by omega) (by omega), wr (x := 7 * (a : Int) + 3 * (b : Int)) (by omega) (by omega), wr (by omega) (by omega), Int.tmod_eq_emod_of_nonneg (by omega)]
 omega
theorem three_len (a b c : Nat) (ha : a < 10000000000000000000) (hb : b < 10000000000000000000) (hc : c < 10000000000000000000) : (Lib.decDigits a).length ≤ 19 ∧ (Lib.decDigits b).length ≤ 19 ∧ (Lib.decDigits c).length ≤ 19 :=
 ⟨dec_len 19 a (by omega) (by omega), dec_len 19 b (by omega) (by omega), dec_len 19 c (by omega) (by omega)⟩
theorem implLine_f (a b i : Nat) (ha : a ≤ 10000000000) (hb : b ≤ 10000000000) (hi : i ≤ 10000000000) : impl_entryLine.f (a : Int) (b : Int) (i : Int) = some (mkB (lineR a b i)) := by
 obtain ⟨h1, h2, h3⟩ := three_len a b ((7 * a + 3 * b + 11 * i) % 9973) (by omega) (by omega) (by omega)
 have e32 : (⟨#[32]⟩ : ByteArray) = mkB [32] := rfl
 unfold impl_entryLine.f lineR three
 rw [line_c a b i ha hb hi, decimal_f a (by omega), decimal_f b (by omega), decimal_f _ (by omega), e32]
 simp only [Option.bind_some, mkB_app, mkB_size, List.length_append, List.length_singleton]
 rw [if_pos (by omega), if_pos (by omega), if_pos (by omega), if_pos (by omega)]
theorem specLine_ev (a b i : Nat) (ha : a ≤ 10000000000) (hb : b ≤ 10000000000) (hi : i ≤ 10000000000) : Ev (fun k => spec_l29Line.f k (a : Int) (b : Int) (i : Int)) (mkB (lineR a b i)) := by
 obtain ⟨h1, h2, h3⟩ := three_len a b ((7 * a + 3 * b + 11 * i) % 9973) (by omega) (by omega) (by omega)
 have e32 : (⟨#[32]⟩ : ByteArray) = mkB [32] := rfl
 have e0 : (⟨#[]⟩ : ByteArray) = mkB [] := rfl
 unfold spec_l29Line.f
 refine Ev.go ?_ (Ev.const rfl)
 rw [line_c a b i ha hb hi, e32]
 unfold spec_l01Join.f
 rw [e0]
 generalize hc : (7 * a + 3 * b + 11 * i) % 9973 = c at *
 refine Ev.step (f := fun k => (spec_l01Number.f k (a : Int)).bind fun t => (if (mkB []).size + t.size ≤ 9223372036854775807 then spec_l01Join.l0 k [(a : Int), (b : Int), (c : Int)] (mkB [32]) (mkB [] ++ t) 1 else none)) (fun k => ?_) (Ev.go (specNumber_ev a (by omega)) ?_)
 ·simp only [spec_l01Join.l0]
  rw [if_pos (by simp), if_neg (by omega), if_pos (by omega)]
  simp only [show rd [(a : Int), (b : Int), (c : Int)] 0 = (a : Int) from rfl, show wrap64 (0 + 1) = 1 by unfold wrap64; omega]
 refine Ev.congr (fun k => if_pos (by simp only [mkB_size, List.length_nil]; omega)) ?_
 rw [mkB_app]
 refine Ev.step (f := fun k => (spec_l01Number.f k (b : Int)).bind fun t => (if (mkB ([] ++ Lib.decDigits a) ++ mkB [32]).size + t.size ≤ 9223372036854775807 then spec_l01Join.l0 k [(a : Int), (b : Int), (c : Int)] (mkB [32]) (mkB ([] ++ Lib.decDigits a) ++ mkB [32] ++ t) 2 else none)) (fun k => ?_) (Ev.go (specNumber_ev b (by omega)) ?_)
 ·simp only [spec_l01Join.l0]
  rw [if_pos (by simp), if_pos (by omega), if_pos (by simp only [mkB_size, List.nil_append, List.length_singleton]; omega), if_pos (by omega)]
  simp only [show rd [(a : Int), (b : Int), (c : Int)] 1 = (b : Int) from rfl, show wrap64 (1 + 1) = 2 by unfold wrap64; omega]
 rw [mkB_app, mkB_app]
 refine Ev.congr (fun k => if_pos (by simp only [mkB_size, List.nil_append, List.length_append, List.length_singleton]; omega)) ?_
 refine Ev.step (f := fun k => (spec_l01Number.f k (c : Int)).bind fun t => (if (mkB ([] ++ Lib.decDigits a ++ [32] ++ Lib.decDigits b) ++ mkB [32]).size + t.size ≤ 9223372036854775807 then spec_l01Join.l0 k [(a : Int), (b : Int), (c : Int)] (mkB [32]) (mkB ([] ++ Lib.decDigits a ++ [32] ++ Lib.decDigits b) ++ mkB [32] ++ t) 3 else none)) (fun k => ?_) (Ev.go (specNumber_ev c (by omega)) ?_)
 ·simp only [spec_l01Join.l0]
  rw [if_pos (by simp), if_pos (by omega), if_pos (by simp only [mkB_size, List.nil_append, List.length_append, List.length_singleton]; omega), if_pos (by omega)]
  simp only [show rd [(a : Int), (b : Int), (c : Int)] 2 = (c : Int) from rfl, show wrap64 (2 + 1) = 3 by unfold wrap64; omega]
 rw [mkB_app, mkB_app]
 refine Ev.congr (fun k => if_pos (by simp only [mkB_size, List.nil_append, List.length_append, List.length_singleton]; omega)) ?_
 refine Ev.step (f := fun _ => some (mkB (lineR a b i))) (fun k => ?_) (Ev.const rfl)
 simp only [spec_l01Join.l0]
 rw [if_neg (by simp)]
 unfold lineR three
 rw [hc]
 simp
/-- The state after an entry. -/
structure St where
 j : Int
 d : Int
 f : Int
 e : Int
def Inv (m : St) : Prop := 0 ≤ m.j ∧ m.j ≤ 1000000000 ∧ 0 ≤ m.d ∧ m.d ≤ 1000000 ∧ 0 ≤ m.f ∧ m.f ≤ 1000000 ∧ 0 ≤ m.e ∧ m.e ≤ 1000000000
def aft (m : St) (k v : Int) : Option St :=
 if 0 ≤ v ∧ v ≤ 1000000000 then
  if k = 1 then (if m.j = 0 ∧ 1 ≤ v then some ⟨v, m.d, m.f, m.e⟩ else none)
  else if k = 2 then (if 0 < m.j ∧ m.d + v ≤ 1000000 then some ⟨m.j, m.d + v, m.f, m.e⟩ else none)
  else if k = 3 then (if 0 < m.j ∧ v < 12 ∧ m.f + 1 ≤ 1000000 then some ⟨m.j, m.d, m.f + 1, m.e⟩ else none)
  else if k = 4 then (if 0 < m.j ∧ v = m.d ∧ m.e < 1000000000 then some ⟨0, 0, 0, m.e + 1⟩ else none)
  else none
 else none
theorem aft_in {m m' : St} {k v : Int} (h : aft m k v = some m') : 1 ≤ k ∧ k ≤ 4 ∧ 0 ≤ v ∧ v ≤ 1000000000 := by
 unfold aft at h
 split at h
 ·rename_i hv
  refine ⟨?_, ?_, hv.1, hv.2⟩ <;>
  ·repeat' split at h
   all_goals first | (cases h; done) | omega
 ·cases h
theorem aft_inv {m m' : St} {k v : Int} (hm : Inv m) (h : aft m k v = some m') : Inv m' := by
 unfold aft at h
 unfold Inv at hm ⊢
 repeat' split at h
 all_goals first | (cases h; done) | (have e := Option.some.inj h; subst e; simp only; omega)
def pk (m : St) (b : Bool) : Int × Int × Int × Int × Bool := (m.j, m.d, m.f, m.e, b)
theorem specMake_f (m : St) (k v : Int) (hm : Inv m) : (∃ m', aft m k v = some m' ∧ spec_l29Make.f m.j m.d m.f m.e k v = some (pk m' true)) ∨ (aft m k v = none ∧ ∃ m', spec_l29Make.f m.j m.d m.f m.e k v = some (pk m' false)) := by
 unfold Inv at hm
 have hin : spec_l01In.f v 0 1000000000 = some (decide (0 ≤ v ∧ v ≤ 1000000000)) := by
  unfold spec_l01In.f
  by_cases h : v ≥ 0
  ·rw [if_pos h]; simp; omega
  ·rw [if_neg h]; simp; omega
 unfold spec_l29Make.f aft
 rw [hin]
 simp only [Option.bind_some, decide_eq_true_eq]
 by_cases hv : 0 ≤ v ∧ v ≤ 1000000000
 ·rw [if_pos hv, if_pos hv]
  by_cases k1 : k = 1
  ·rw [if_pos k1, if_pos k1]
   by_cases hj : m.j = 0
   ·rw [if_pos hj]
    by_cases h1 : 1 ≤ v
    ·rw [if_pos ⟨hj, h1⟩]; exact Or.inl ⟨_, rfl, by simp [pk]; omega⟩
    ·rw [if_neg (by omega)]; exact Or.inr ⟨rfl, ⟨v, m.d, m.f, m.e⟩, by simp [pk]; omega⟩
   ·rw [if_neg hj, if_neg (by omega)]; exact Or.inr ⟨rfl, ⟨v, m.d, m.f, m.e⟩, by simp [pk]⟩
  ·rw [if_neg k1, if_neg k1]
   by_cases k2 : k = 2
   ·rw [if_pos k2, if_pos k2, wr (by omega) (by omega)]
    by_cases hj : m.j > 0
    ·rw [if_pos hj]
     by_cases h1 : m.d + v ≤ 1000000
     ·rw [if_pos ⟨hj, h1⟩]; exact Or.inl ⟨_, rfl, by simp [pk]; omega⟩
     ·rw [if_neg (by omega)]; exact Or.inr ⟨rfl, ⟨m.j, m.d + v, m.f, m.e⟩, by simp [pk]; omega⟩
    ·rw [if_neg hj, if_neg (by omega)]; exact Or.inr ⟨rfl, ⟨m.j, m.d + v, m.f, m.e⟩, by simp [pk]⟩
   ·rw [if_neg k2, if_neg k2]
    by_cases k3 : k = 3
    ·rw [if_pos k3, if_pos k3, wr (by omega) (by omega)]
     by_cases hj : m.j > 0
     ·rw [if_pos hj]
      by_cases h2 : v < 12
      ·rw [if_pos h2]
       by_cases h1 : m.f + 1 ≤ 1000000
       ·rw [if_pos ⟨hj, h2, h1⟩]; exact Or.inl ⟨_, rfl, by simp [pk]; omega⟩
       ·rw [if_neg (by omega)]; exact Or.inr ⟨rfl, ⟨m.j, m.d, m.f + 1, m.e⟩, by simp [pk]; omega⟩
      ·rw [if_neg h2, if_neg (by omega)]; exact Or.inr ⟨rfl, ⟨m.j, m.d, m.f + 1, m.e⟩, by simp [pk]⟩
     ·rw [if_neg hj, if_neg (by omega)]; exact Or.inr ⟨rfl, ⟨m.j, m.d, m.f + 1, m.e⟩, by simp [pk]⟩
    ·rw [if_neg k3, if_neg k3]
     by_cases k4 : k = 4
     ·rw [if_pos k4, if_pos k4, wr (by omega) (by omega)]
      by_cases hj : m.j > 0
      ·rw [if_pos hj]
       by_cases h2 : v = m.d
       ·rw [if_pos h2]
        by_cases h1 : m.e < 1000000000
        ·rw [if_pos ⟨hj, h2, h1⟩]; exact Or.inl ⟨_, rfl, by simp [pk]; omega⟩
        ·rw [if_neg (by omega)]; exact Or.inr ⟨rfl, ⟨0, 0, 0, m.e + 1⟩, by simp [pk]; omega⟩
       ·rw [if_neg h2, if_neg (by omega)]; exact Or.inr ⟨rfl, ⟨0, 0, 0, m.e + 1⟩, by simp [pk]⟩
      ·rw [if_neg hj, if_neg (by omega)]; exact Or.inr ⟨rfl, ⟨0, 0, 0, m.e + 1⟩, by simp [pk]⟩
     ·rw [if_neg k4, if_neg k4]; exact Or.inr ⟨rfl, m, rfl⟩
 ·rw [if_neg hv, if_neg hv]; exact Or.inr ⟨rfl, m, rfl⟩
theorem implAfter_f (q : Nat) (m : St) (k v : Int) (hm : Inv m) : (∃ m', aft m k v = some m' ∧ impl_after.f (q + 1) m.j m.d m.f m.e k v = some (pk m' true)) ∨ (aft m k v = none ∧ ∃ m', impl_after.f (q + 1) m.j m.d m.f m.e k v = some (pk m' false)) := by
 unfold Inv at hm
 have hin : impl_inRange.f v 0 1000000000 = some (decide (0 ≤ v ∧ v ≤ 1000000000)) := by
  unfold impl_inRange.f
  by_cases h : 0 ≤ v
  ·rw [if_pos h]; simp; omega
  ·rw [if_neg h]; simp; omega
 unfold impl_after.f aft
 rw [hin]
 simp only [Option.bind_some, decide_eq_true_eq, impl_after.j0]
 by_cases hv : 0 ≤ v ∧ v ≤ 1000000000
 ·rw [if_pos hv, if_pos hv]
  by_cases hx : ((m.j == 0) != (k == 1)) = true
  ·rw [if_pos hx]
   refine Or.inr ⟨?_, m, rfl⟩
   by_cases k1 : k = 1
   ·rw [if_pos k1, if_neg]
    intro h; rw [h.1, k1] at hx; simp at hx
   ·have hj : m.j = 0 := by
     by_cases h : m.j = 0
     ·exact h
     ·rw [show (m.j == 0) = false by simp [h], show (k == 1) = false by simp [k1]] at hx
      exact absurd hx (by decide)
    have nj : ∀ p : Prop, ¬ (0 < m.j ∧ p) := fun p h => by omega
    rw [if_neg k1, if_neg (nj _), if_neg (nj _), if_neg (nj _)]
    repeat' split
    all_goals rfl
  ·rw [if_neg hx]
   by_cases k1 : k = 1
   ·have hj : m.j = 0 := by
     by_cases h : m.j = 0
     ·exact h
     ·rw [show (m.j == 0) = false by simp [h], show (k == 1) = true by simp [k1]] at hx
      exact absurd rfl hx
    rw [if_pos k1, if_pos k1]
    by_cases h1 : 1 ≤ v
    ·rw [if_pos ⟨hj, h1⟩]; exact Or.inl ⟨_, rfl, by simp [pk]; omega⟩
    ·rw [if_neg (by omega)]; exact Or.inr ⟨rfl, ⟨v, m.d, m.f, m.e⟩, by simp [pk]; omega⟩
   ·have hj : 0 < m.j := by
     by_cases h : m.j = 0
     ·rw [show (m.j == 0) = true by simp [h], show (k == 1) = false by simp [k1]] at hx
      exact absurd rfl hx
     ·omega
    rw [if_neg k1, if_neg k1]
    by_cases k2 : k = 2
    ·rw [if_pos k2, if_pos k2, wr (by omega) (by omega)]
     by_cases h1 : m.d + v ≤ 1000000
     ·rw [if_pos ⟨hj, h1⟩]; exact Or.inl ⟨_, rfl, by simp [pk]; omega⟩
     ·rw [if_neg (by omega)]; exact Or.inr ⟨rfl, ⟨m.j, m.d + v, m.f, m.e⟩, by simp [pk]; omega⟩
    ·rw [if_neg k2, if_neg k2]
     by_cases k3 : k = 3
     ·rw [if_pos k3, if_pos k3, wr (by omega) (by omega)]
      by_cases h2 : v < 12
      ·rw [if_pos h2]
       by_cases h1 : m.f + 1 ≤ 1000000
       ·rw [if_pos ⟨hj, h2, h1⟩]; exact Or.inl ⟨_, rfl, by simp [pk]; omega⟩
       ·rw [if_neg (by omega)]; exact Or.inr ⟨rfl, ⟨m.j, m.d, m.f + 1, m.e⟩, by simp [pk]; omega⟩
      ·rw [if_neg h2, if_neg (by omega)]; exact Or.inr ⟨rfl, ⟨m.j, m.d, m.f + 1, m.e⟩, by simp [pk]⟩
     ·rw [if_neg k3, if_neg k3]
      by_cases k4 : k = 4
      ·rw [if_pos k4, if_pos k4, wr (by omega) (by omega)]
       by_cases h2 : v = m.d
       ·rw [if_pos h2]
        by_cases h1 : m.e < 1000000000
        ·rw [if_pos ⟨hj, h2, h1⟩]; exact Or.inl ⟨_, rfl, by simp [pk]; omega⟩
        ·rw [if_neg (by omega)]; exact Or.inr ⟨rfl, ⟨0, 0, 0, m.e + 1⟩, by simp [pk]; omega⟩
       ·rw [if_neg h2, if_neg (by omega)]; exact Or.inr ⟨rfl, ⟨0, 0, 0, m.e + 1⟩, by simp [pk]⟩
      ·rw [if_neg k4, if_neg k4]; exact Or.inr ⟨rfl, m, rfl⟩
 ·rw [if_neg hv, if_neg hv]; exact Or.inr ⟨rfl, m, by rw [if_pos trivial]; rfl⟩

/-- One line: the entry and the state after it, where the line is one. -/
def accL (m : St) (L : List UInt8) (i : Nat) : Option (Int × Int × St) :=
 match aft m (val ((spl 32 L).getD 0 []) : Int) (val ((spl 32 L).getD 1 []) : Int) with
 | some m' => if L = lineR (val ((spl 32 L).getD 0 [])) (val ((spl 32 L).getD 1 [])) i then some ((val ((spl 32 L).getD 0 []) : Int), (val ((spl 32 L).getD 1 []) : Int), m') else none
 | none => none
theorem accL_of {m m' : St} {a b i : Nat} (h : aft m (a : Int) (b : Int) = some m') : accL m (lineR a b i) i = some ((a : Int), (b : Int), m') := by
 unfold accL
 have e : spl 32 (lineR a b i) = [Lib.decDigits a, Lib.decDigits b, Lib.decDigits ((7 * a + 3 * b + 11 * i) % 9973)] := spl_three _ _ _
 rw [e]
 simp only [List.getD_cons_zero, List.getD_cons_succ, dec_val, h]
 rw [if_pos trivial]
theorem accL_some {m m' : St} {L : List UInt8} {i : Nat} {x y : Int} (h : accL m L i = some (x, y, m')) : ∃ a b : Nat, x = a ∧ y = b ∧ aft m (a : Int) (b : Int) = some m' ∧ L = lineR a b i := by
 unfold accL at h
 split at h
 ·rename_i m1 h1
  split at h
  ·rename_i hl
   simp only [Option.some.injEq, Prod.mk.injEq] at h
   obtain ⟨rfl, rfl, rfl⟩ := h
   exact ⟨_, _, rfl, rfl, h1, hl⟩
  ·cases h
 ·cases h
/-- What is recovered from the lines from the i-th on. -/
def recR : List (List UInt8) → Nat → St → List S31 → List S31 × St
 | [], _, m, out => (out, m)
 | L :: r, i, m, out => if i < 200 then (match accL m L i with
  | some (a, b, m') => recR r (i + 1) m' (out ++ [⟨a, b⟩])
  | none => (out, m)) else (out, m)
theorem specRec_stop (x3 : List ByteArray) (out : List S31) (i : Int) (ns : List Int) (a b c d : Int) : Ev (fun k => spec_l29Recover.j2 k x3 out i ns true a b c d) out :=
 Ev.step (f := fun _ => some out) (fun k => by simp only [spec_l29Recover.j2]; rw [if_pos trivial]) (Ev.const rfl)
theorem numsR_three (a b c : Nat) (ha : a < 10000000000) (hb : b < 10000000000) (hc : c < 10000000000) : numsR [Lib.decDigits a, Lib.decDigits b, Lib.decDigits c] [] = ([(a : Int), (b : Int), (c : Int)], true) := by
 simp only [numsR, sgnR_dec a ha, sgnR_dec b hb, sgnR_dec c hc, List.nil_append, List.cons_append, if_true]
theorem specRec_l0 (ls : List (List UInt8)) (hl : ls.length ≤ 1000000) (hw : ∀ w ∈ ls, w.length ≤ 1000000) : ∀ (d i : Nat) (m : St) (out : List S31), i + d + 1 = ls.length → Inv m → out.length = i →
  Ev (fun k => spec_l29Recover.l0 k (ls.map mkB) out (i : Int) m.j m.d m.f m.e) (recR ((ls.dropLast).drop i) i m out).1 := by
 intro d
 induction d with
 | zero =>
  intro i m out hi hm ho
  rw [List.drop_of_length_le (by simp; omega)]
  refine Ev.step (f := fun k => spec_l29Recover.j1 k (ls.map mkB) out (i : Int) false m.j m.d m.f m.e) (fun k => ?_) (Ev.step (f := fun _ => some out) (fun k => ?_) (Ev.const rfl))
  ·simp only [spec_l29Recover.l0, List.length_map]
   rw [wr (by omega) (by omega), if_neg (by omega)]
  ·simp only [spec_l29Recover.j1]
   rw [if_neg (by simp)]
 | succ d ih =>
  intro i m out hi hm ho
  have hlt : i < ls.dropLast.length := by simp; omega
  have hlt' : i < ls.length := by omega
  have hg : ls.getD i [] = ls.dropLast[i] := by simp [List.getD_eq_getElem?_getD, hlt']
  rw [List.drop_eq_getElem_cons hlt]
  generalize hL : ls.dropLast[i] = L at *
  have hLm : L ∈ ls := by rw [← hL]; exact (List.dropLast_sublist ls).subset (List.getElem_mem hlt)
  have hLw := hw L hLm
  have hsl := spl_len 32 L
  refine Ev.step (f := fun k => spec_l29Recover.j1 k (ls.map mkB) out (i : Int) (decide ((i : Int) < 200)) m.j m.d m.f m.e) (fun k => ?_) ?_
  ·simp only [spec_l29Recover.l0, List.length_map]
   rw [wr (by omega) (by omega), if_pos (by omega)]
  by_cases h2 : i < 200
  ·have hsp : Ev (fun k => spec_l01Split.f k (mkB L) 32) ((spl 32 L).map mkB) := specSplit_ev L 32 (by omega)
   refine Ev.step (f := fun k => (spec_l01Split.f k (mkB L) 32).bind fun t => (spec_l01Numbers.f k t).bind fun bt => (if bt.2 = true then spec_l29Recover.j2 k (ls.map mkB) out (i : Int) bt.1 ((bt.1.length : Int) != 3) m.j m.d m.f m.e else spec_l29Recover.j2 k (ls.map mkB) out (i : Int) bt.1 true m.j m.d m.f m.e)) (fun k => ?_) (Ev.go hsp (Ev.go (specNumbers_ev _ (by omega)) ?_))
   ·simp only [spec_l29Recover.j1, rdOf_mkB, hg, List.length_map]
    rw [if_pos (by simp; omega), if_pos (by omega), if_pos (by omega)]
   simp only [recR]
   rw [if_pos h2]
   cases hacc : accL m L i with
   | some r =>
    obtain ⟨x, y, m'⟩ := r
    obtain ⟨a, b, rfl, rfl, haft, hline⟩ := accL_some hacc
    have hin := aft_in haft
    have hc : (7 * a + 3 * b + 11 * i) % 9973 < 9973 := Nat.mod_lt _ (by omega)
    have hws : spl 32 L = [Lib.decDigits a, Lib.decDigits b, Lib.decDigits ((7 * a + 3 * b + 11 * i) % 9973)] := by rw [hline]; exact spl_three _ _ _
    rw [hws, numsR_three a b _ (by omega) (by omega) (by omega)]
    simp only [if_true]
    have hmk : spec_l29Make.f m.j m.d m.f m.e (a : Int) (b : Int) = some (pk m' true) := by
     rcases specMake_f m (a : Int) (b : Int) hm with ⟨m2, h1, h3⟩ | ⟨h1, _⟩
     ·rw [haft] at h1
      rw [Option.some.inj h1]
      exact h3
     ·rw [haft] at h1; cases h1
    refine Ev.step (f := fun k => (spec_l29Line.f k (a : Int) (b : Int) (i : Int)).bind fun t => (if t.toList = (mkB L).toList then spec_l29Recover.l0 k (ls.map mkB) (out ++ [(⟨(a : Int), (b : Int)⟩ : S31)]) ((i + 1 : Nat) : Int) m'.j m'.d m'.f m'.e else some out)) (fun k => ?_) (Ev.go (specLine_ev a b i (by omega) (by omega) (by omega)) ?_)
    ·simp only [spec_l29Recover.j2]
     rw [if_neg (by simp), if_pos (by simp), if_pos (by simp)]
     simp only [show rd [(a : Int), (b : Int), (((7 * a + 3 * b + 11 * i) % 9973 : Nat) : Int)] 0 = (a : Int) from rfl, show rd [(a : Int), (b : Int), (((7 * a + 3 * b + 11 * i) % 9973 : Nat) : Int)] 1 = (b : Int) from rfl, hmk, Option.bind_some, pk, if_true, rdOf_mkB, hg, List.length_map]
     rw [wr (x := (i : Int) + 1) (by omega) (by omega)]
     simp only [if_pos (show (0 : Int) ≤ (i : Int) by omega), if_pos (show (i : Int) < (ls.length : Int) by omega), if_pos (show out.length < 8796093022208 by omega)]
     rfl
    ·simp only [hline, if_true]
     have := ih (i + 1) m' (out ++ [⟨(a : Int), (b : Int)⟩]) (by omega) (aft_inv hm haft) (by simp; omega)
     simpa using this
   | none =>
    simp only
    cases hns : numsR (spl 32 L) [] with
    | mk ns ok =>
     cases ok with
     | false => exact specRec_stop _ _ _ _ _ _ _ _
     | true =>
      simp only [if_true]
      by_cases h3 : ns.length = 3
      ·have hne : ((ns.length : Int) != 3) = false := by simp; omega
       rw [hne]
       rcases specMake_f m (rd ns 0) (rd ns 1) hm with ⟨m2, h1, h4⟩ | ⟨h1, m2, h4⟩
       ·have hin := aft_in h1
        obtain ⟨a, ha⟩ : ∃ a : Nat, rd ns 0 = a := ⟨(rd ns 0).toNat, by omega⟩
        obtain ⟨b, hb⟩ : ∃ b : Nat, rd ns 1 = b := ⟨(rd ns 1).toNat, by omega⟩
        rw [ha, hb] at h1 h4 hin
        refine Ev.step (f := fun k => (spec_l29Line.f k (a : Int) (b : Int) (i : Int)).bind fun t => (if t.toList = (mkB L).toList then spec_l29Recover.l0 k (ls.map mkB) (out ++ [(⟨(a : Int), (b : Int)⟩ : S31)]) ((i + 1 : Nat) : Int) m2.j m2.d m2.f m2.e else some out)) (fun k => ?_) (Ev.go (specLine_ev a b i (by omega) (by omega) (by omega)) ?_)
        ·simp only [spec_l29Recover.j2]
         rw [if_neg (by simp), if_pos (by omega), if_pos (by omega)]
         simp only [ha, hb, h4, Option.bind_some, pk, if_true, rdOf_mkB, hg, List.length_map]
         rw [wr (x := (i : Int) + 1) (by omega) (by omega)]
         simp only [if_pos (show (0 : Int) ≤ (i : Int) by omega), if_pos (show (i : Int) < (ls.length : Int) by omega), if_pos (show out.length < 8796093022208 by omega)]
         rfl
        ·have hnl : ¬ (mkB (lineR a b i)).toList = (mkB L).toList := fun e => by
          rw [mkB_toList, mkB_toList] at e
          rw [← e, accL_of h1] at hacc
          cases hacc
         simp only [if_neg hnl]
         exact Ev.const rfl
       ·refine Ev.step (f := fun _ => some out) (fun k => ?_) (Ev.const rfl)
        simp only [spec_l29Recover.j2]
        rw [if_neg (by simp), if_pos (by omega), if_pos (by omega)]
        simp only [h4, Option.bind_some, pk]
        rw [if_neg (by simp)]
      ·have hne : ((ns.length : Int) != 3) = true := by simp; omega
       rw [hne]
       exact specRec_stop _ _ _ _ _ _ _ _
  ·simp only [recR]
   rw [if_neg h2]
   refine Ev.step (f := fun _ => some out) (fun k => ?_) (Ev.const rfl)
   simp only [spec_l29Recover.j1]
   rw [if_neg (by simp; omega)]

def tup (r : List S31 × St) : List S31 × Int × Int × Int × Int := (r.1, r.2.j, r.2.d, r.2.f, r.2.e)
theorem implRec_stop (out : List S31) (x7 : Int) (x8 : ByteArray) (x9 x25 : List ByteArray) (x26 x27 : Int) (m : St) :
  Ev (fun k => impl_recovered.j1 k out x7 x8 x9 x25 x26 x27 true m.j m.d m.f m.e) (tup (out, m)) :=
 Ev.step (f := fun _ => some (tup (out, m))) (fun k => by simp only [impl_recovered.j1]; rw [if_pos trivial]; rfl) (Ev.const rfl)
theorem implAfter_ev {m m' : St} {k v : Int} (hm : Inv m) (h : aft m k v = some m') : Ev (fun q => impl_after.f q m.j m.d m.f m.e k v) (pk m' true) :=
 Ev.at_ 1 fun q hq => by
  obtain ⟨q, rfl⟩ : ∃ z, q = z + 1 := ⟨q - 1, by omega⟩
  rcases implAfter_f q m k v hm with ⟨m2, h1, h3⟩ | ⟨h1, _⟩
  ·rw [h] at h1
   rw [Option.some.inj h1]
   exact h3
  ·rw [h] at h1; cases h1
theorem implAfter_no {m : St} {k v : Int} (hm : Inv m) (h : aft m k v = none) : ∃ m' : St, Ev (fun q => impl_after.f q m.j m.d m.f m.e k v) (pk m' false) := by
 rcases implAfter_f 0 m k v hm with ⟨m2, h1, h3⟩ | ⟨_, m', h3⟩
 ·rw [h] at h1; cases h1
 ·exact ⟨m', Ev.of (fun q => impl_after.mono _ _ _ _ _ _ q) h3⟩
theorem implRec_l0 (ls : List (List UInt8)) (hl : ls.length ≤ 1000000) (hw : ∀ w ∈ ls, w.length ≤ 1000000) : ∀ (d i : Nat) (m : St) (out : List S31), i + d = ls.length → Inv m → out.length = i → i ≤ 200 →
  Ev (fun k => impl_recovered.l0 k out (ls.map mkB) (ls.length : Int) (i : Int) m.j m.d m.f m.e) (tup (recR (ls.drop i) i m out)) := by
 intro d
 induction d with
 | zero =>
  intro i m out hi hm ho h200
  rw [List.drop_of_length_le (by omega)]
  refine Ev.step (f := fun _ => some (tup (out, m))) (fun k => ?_) (Ev.const rfl)
  simp only [impl_recovered.l0]
  rw [if_neg (by omega)]
  rfl
 | succ d ih =>
  intro i m out hi hm ho h200
  have hlt : i < ls.length := by omega
  have hg : ls.getD i [] = ls[i] := by simp [List.getD_eq_getElem?_getD, hlt]
  rw [List.drop_eq_getElem_cons hlt]
  generalize hL : ls[i] = L at *
  have hLm : L ∈ ls := by rw [← hL]; exact List.getElem_mem hlt
  have hLw := hw L hLm
  have hsl := spl_len 32 L
  have e32 : (⟨#[32]⟩ : ByteArray) = mkB [32] := rfl
  have hsp : strings_Split.f (mkB L) (mkB [32]) = some ((spl 32 L).map mkB) := split_f 32 L (by omega)
  refine Ev.step (f := fun k => if ((spl 32 L).length : Int) = 3 then impl_recovered.j1 k out (i : Int) (mkB L) ((spl 32 L).map mkB) (ls.map mkB) (ls.length : Int) (i : Int) ((out.length : Int) == 200) m.j m.d m.f m.e else impl_recovered.j1 k out (i : Int) (mkB L) ((spl 32 L).map mkB) (ls.map mkB) (ls.length : Int) (i : Int) true m.j m.d m.f m.e) (fun k => ?_) ?_
  ·simp only [impl_recovered.l0, rdOf_mkB, hg, List.length_map, e32, hsp, Option.bind_some]
   rw [if_pos (by omega), if_pos (by omega), if_pos (by omega)]
  simp only [recR]
  by_cases h2 : i < 200
  ·rw [if_pos h2]
   have hfl : ((out.length : Int) == 200) = false := by simp; omega
   rw [hfl]
   cases hacc : accL m L i with
   | some r =>
    obtain ⟨x, y, m'⟩ := r
    obtain ⟨a, b, rfl, rfl, haft, hline⟩ := accL_some hacc
    have hin := aft_in haft
    have hws : spl 32 L = [Lib.decDigits a, Lib.decDigits b, Lib.decDigits ((7 * a + 3 * b + 11 * i) % 9973)] := by rw [hline]; exact spl_three _ _ _
    refine Ev.congr (fun k => if_pos (by rw [hws]; rfl)) ?_
    refine Ev.step (f := fun k => (impl_after.f k m.j m.d m.f m.e (a : Int) (b : Int)).bind fun t => if t.2.2.2.2 = true then impl_recovered.l0 k (out ++ [(⟨(a : Int), (b : Int)⟩ : S31)]) (ls.map mkB) (ls.length : Int) ((i + 1 : Nat) : Int) t.1 t.2.1 t.2.2.1 t.2.2.2.1 else some (out, m.j, m.d, m.f, m.e)) (fun k => ?_) (Ev.go (implAfter_ev hm haft) ?_)
    ·simp only [impl_recovered.j1, hws, List.map_cons, List.map_nil, List.length_cons, List.length_nil]
     rw [if_neg (by simp), if_pos (by omega)]
     simp only [show rdOf ByteArray.empty [mkB (Lib.decDigits a), mkB (Lib.decDigits b), mkB (Lib.decDigits ((7 * a + 3 * b + 11 * i) % 9973))] 0 = mkB (Lib.decDigits a) from rfl, show rdOf ByteArray.empty [mkB (Lib.decDigits a), mkB (Lib.decDigits b), mkB (Lib.decDigits ((7 * a + 3 * b + 11 * i) % 9973))] 1 = mkB (Lib.decDigits b) from rfl, readDecimal_dec a (by omega), readDecimal_dec b (by omega), Option.bind_some, if_true, implLine_f a b i (by omega) (by omega) (by omega)]
     rw [if_pos (by omega), wr (x := (i : Int) + 1) (by omega) (by omega)]
     simp only [hline, if_true, if_pos (show out.length < 8796093022208 by omega)]
     rfl
    ·simp only [pk, if_true]
     exact ih (i + 1) m' _ (by omega) (aft_inv hm haft) (by simp; omega) (by omega)
   | none =>
    simp only
    by_cases h3 : (spl 32 L).length = 3
    ·refine Ev.congr (fun k => if_pos (by omega)) ?_
     have hd0 : rdOf ByteArray.empty ((spl 32 L).map mkB) 0 = mkB ((spl 32 L).getD 0 []) := rdOf_mkB _ 0
     have hd1 : rdOf ByteArray.empty ((spl 32 L).map mkB) 1 = mkB ((spl 32 L).getD 1 []) := rdOf_mkB _ 1
     have hlen : ∀ p, ((spl 32 L).getD p []).length ≤ 1000000 := fun p => by
      by_cases hp : p < (spl 32 L).length
      ·have e : (spl 32 L).getD p [] = (spl 32 L)[p] := by simp [List.getD_eq_getElem?_getD, hp]
       have := spl_mem 32 L _ (List.getElem_mem hp)
       rw [e]; omega
      ·have e : (spl 32 L).getD p [] = [] := by simp [List.getD_eq_getElem?_getD, hp]
       rw [e]; simp
     have r0 := readDecimal_f ((spl 32 L).getD 0 []) (by have := hlen 0; omega)
     have r1 := readDecimal_f ((spl 32 L).getD 1 []) (by have := hlen 1; omega)
     generalize impl_readDecimal.ans (mkB ((spl 32 L).getD 0 [])) = b0 at r0
     generalize impl_readDecimal.ans (mkB ((spl 32 L).getD 1 [])) = b1 at r1
     obtain ⟨n0, o0⟩ := b0
     obtain ⟨n1, o1⟩ := b1
     refine Ev.step (f := fun k => (impl_after.f k m.j m.d m.f m.e n0 n1).bind fun t => if o0 = true then (if o1 = true then (if t.2.2.2.2 = true then ((impl_entryLine.f n0 n1 (i : Int)).bind fun t216 => (if t216.toList = (mkB L).toList then (if out.length < 8796093022208 then impl_recovered.l0 k (out ++ [(⟨n0, n1⟩ : S31)]) (ls.map mkB) (ls.length : Int) (wrap64 ((i : Int) + 1)) t.1 t.2.1 t.2.2.1 t.2.2.2.1 else none) else (some (out, m.j, m.d, m.f, m.e)))) else (some (out, m.j, m.d, m.f, m.e))) else (some (out, m.j, m.d, m.f, m.e))) else (some (out, m.j, m.d, m.f, m.e))) (fun k => ?_) ?_
     ·simp only [impl_recovered.j1, List.length_map, hd0, hd1, r0, r1, Option.bind_some]
      rw [if_neg (by simp), if_pos (by omega), if_pos (by omega)]
     ·cases ha : aft m n0 n1 with
      | some m2 =>
       refine Ev.go (implAfter_ev hm ha) ?_
       have hin := aft_in ha
       obtain ⟨a, rfl⟩ : ∃ a : Nat, n0 = a := ⟨n0.toNat, by omega⟩
       obtain ⟨b, rfl⟩ : ∃ b : Nat, n1 = b := ⟨n1.toNat, by omega⟩
       have hnl : ¬ (mkB (lineR a b i)).toList = (mkB L).toList := fun e => by
        rw [mkB_toList, mkB_toList] at e
        rw [← e, accL_of ha] at hacc
        cases hacc
       simp only [implLine_f a b i (by omega) (by omega) (by omega), Option.bind_some, if_neg hnl]
       refine Ev.const ?_
       repeat' split
       all_goals rfl
      | none =>
       obtain ⟨m2, h4⟩ := implAfter_no hm ha
       have hf : (pk m2 false).2.2.2.2 = false := rfl
       generalize pk m2 false = z at h4 hf
       refine Ev.go h4 ?_
       refine Ev.congr (f := fun _ => some (tup (out, m))) (fun n => ?_) (Ev.const rfl)
       cases o0 <;> cases o1 <;> simp [hf, tup]
    ·refine Ev.congr (fun k => if_neg (by omega)) ?_
     exact implRec_stop _ _ _ _ _ _ _ _
  ·rw [if_neg h2]
   have hfl : ((out.length : Int) == 200) = true := by simp; omega
   rw [hfl]
   refine Ev.congr (fun k => ite_self _) ?_
   exact implRec_stop _ _ _ _ _ _ _ _
theorem inv0 : Inv ⟨0, 0, 0, 0⟩ := by unfold Inv; simp
def recAll (l : List UInt8) : List S31 × St := recR (spl 10 l).dropLast 0 ⟨0, 0, 0, 0⟩ []
theorem implRec_ev (l : List UInt8) (hl : l.length ≤ 900000) : Ev (fun k => impl_recovered.f k (mkB l)) (tup (recAll l)) := by
 have e10 : (⟨#[10]⟩ : ByteArray) = mkB [10] := rfl
 have hn := spl_len 10 l
 have h0 : 0 < (spl 10 l).length := List.length_pos_iff.2 (spl_ne 10 l)
 unfold impl_recovered.f
 rw [e10, split_f 10 l (by omega)]
 simp only [Option.bind_some, List.length_map]
 rw [wr (by omega) (by omega)]
 refine Ev.congr (fun k => if_pos (by omega)) (Ev.congr (fun k => if_pos (by omega)) ?_)
 have hd : ((spl 10 l).map mkB).take (((spl 10 l).length : Int) - 1).toNat = (spl 10 l).dropLast.map mkB := by
  rw [← List.map_take, List.dropLast_eq_take, show (((spl 10 l).length : Int) - 1).toNat = (spl 10 l).length - 1 by omega]
 rw [hd]
 have := implRec_l0 (spl 10 l).dropLast (by simp; omega) (fun w hw => by
  have := spl_mem 10 l w ((List.dropLast_sublist _).subset hw)
  omega) (spl 10 l).dropLast.length 0 ⟨0, 0, 0, 0⟩ [] (by omega) inv0 rfl (by omega)
 unfold recAll
 simpa using this
theorem specRec_ev (l : List UInt8) (hl : l.length ≤ 900000) : Ev (fun k => spec_l29Recover.f k (mkB l)) (recAll l).1 := by
 have hn := spl_len 10 l
 have h0 : 0 < (spl 10 l).length := List.length_pos_iff.2 (spl_ne 10 l)
 have hsp : Ev (fun k => spec_l01Split.f k (mkB l) 10) ((spl 10 l).map mkB) := specSplit_ev l 10 (by omega)
 unfold spec_l29Recover.f
 refine Ev.go hsp ?_
 have := specRec_l0 (spl 10 l) (by omega) (fun w hw => by
  have := spl_mem 10 l w hw
  omega) ((spl 10 l).length - 1) 0 ⟨0, 0, 0, 0⟩ [] (by omega) inv0 rfl
 unfold recAll
 simpa using this

/-! ### a job goes on -/
def runR : List S31 → St → Option St
 | [], m => some m
 | e :: r, m => match aft m e.f0 e.f1 with
  | some m' => runR r m'
  | none => none
theorem runR_snoc : ∀ (out : List S31) (m m1 m2 : St) (e : S31), runR out m = some m1 → aft m1 e.f0 e.f1 = some m2 → runR (out ++ [e]) m = some m2
 | [], m, m1, m2, e, h, h2 => by
  simp only [runR, Option.some.injEq] at h
  subst h
  simp only [List.nil_append, runR, h2]
 | x :: r, m, m1, m2, e, h, h2 => by
  simp only [List.cons_append, runR] at h ⊢
  cases hx : aft m x.f0 x.f1 with
  | none => rw [hx] at h; cases h
  | some m' =>
   rw [hx] at h
   simp only at h ⊢
   exact runR_snoc r m' m1 m2 e h h2
theorem recR_run : ∀ (ls : List (List UInt8)) (i : Nat) (m m0 : St) (out : List S31), runR out m0 = some m → runR (recR ls i m out).1 m0 = some (recR ls i m out).2
 | [], i, m, m0, out, h => by simpa [recR] using h
 | L :: r, i, m, m0, out, h => by
  unfold recR
  by_cases h2 : i < 200
  ·rw [if_pos h2]
   cases hacc : accL m L i with
   | none => simpa using h
   | some x =>
    obtain ⟨a, b, m'⟩ := x
    obtain ⟨p, q, rfl, rfl, haft, _⟩ := accL_some hacc
    simp only
    exact recR_run r (i + 1) m' m0 _ (runR_snoc out m0 m m' ⟨(p : Int), (q : Int)⟩ h haft)
  ·rw [if_neg h2]
   simpa using h
theorem recR_len : ∀ (ls : List (List UInt8)) (i : Nat) (m : St) (out : List S31), out.length = i → i ≤ 200 → (recR ls i m out).1.length ≤ 200
 | [], i, m, out, ho, h200 => by simp [recR]; omega
 | L :: r, i, m, out, ho, h200 => by
  unfold recR
  by_cases h2 : i < 200
  ·rw [if_pos h2]
   cases hacc : accL m L i with
   | none => simp; omega
   | some x =>
    obtain ⟨a, b, m'⟩ := x
    simp only
    exact recR_len r (i + 1) m' _ (by simp; omega) (by omega)
  ·rw [if_neg h2]
   simp; omega
theorem rdT_lt' {xs : List S31} {i : Nat} (h : i < xs.length) : rd_T31 xs (i : Int) = xs[i] := by
 simp [rd_T31, h]
theorem specRun_l0 (xs : List S31) (hl : xs.length ≤ 200) (mf : St) : ∀ (d i : Nat) (m : St), i + d = xs.length → Inv m → runR (xs.drop i) m = some mf →
  Ev (fun k => spec_l29Run.l0 k xs (i : Int) m.j m.d m.f m.e) (pk mf true) := by
 intro d
 induction d with
 | zero =>
  intro i m hi hm hr
  rw [List.drop_of_length_le (by omega)] at hr
  simp only [runR, Option.some.injEq] at hr
  subst hr
  refine Ev.step (f := fun _ => some (pk m true)) (fun k => ?_) (Ev.const rfl)
  simp only [spec_l29Run.l0]
  rw [if_neg (by omega), decide_eq_true (by omega)]
  rfl
 | succ d ih =>
  intro i m hi hm hr
  have hlt : i < xs.length := by omega
  rw [List.drop_eq_getElem_cons hlt] at hr
  simp only [runR] at hr
  cases hx : aft m xs[i].f0 xs[i].f1 with
  | none => rw [hx] at hr; cases hr
  | some m' =>
   rw [hx] at hr
   simp only at hr
   have hmk : spec_l29Make.f m.j m.d m.f m.e xs[i].f0 xs[i].f1 = some (pk m' true) := by
    rcases specMake_f m xs[i].f0 xs[i].f1 hm with ⟨m2, h1, h3⟩ | ⟨h1, _⟩
    ·rw [hx] at h1
     rw [Option.some.inj h1]
     exact h3
    ·rw [hx] at h1; cases h1
   refine Ev.step (fun k => ?_) (ih (i + 1) m' (by omega) (aft_inv hm hx) hr)
   simp only [spec_l29Run.l0]
   rw [if_pos (by omega), if_pos (by omega), rdT_lt' hlt, hmk, wr (by omega) (by omega)]
   simp only [Option.bind_some, pk, if_true]
   rfl
theorem specRun_ev (l : List UInt8) : Ev (fun k => spec_l29Run.f k (recAll l).1) (pk (recAll l).2 true) := by
 unfold spec_l29Run.f
 have := specRun_l0 (recAll l).1 (recR_len _ _ _ _ rfl (by omega)) (recAll l).2 (recAll l).1.length 0 ⟨0, 0, 0, 0⟩ (by omega) inv0 (by
  rw [List.drop_zero]
  exact recR_run _ _ _ _ _ rfl)
 simpa using this
def resume (l : List UInt8) (c : Int) : Int × Int × Int :=
 if l.length > 8000 then (0, 0, 3) else if 0 ≤ c ∧ c ≤ 1000000 then (if (recAll l).2.j = 0 then (0, 0, 5) else ((recAll l).2.j, mx 0 (wrap64 (c - (recAll l).2.d)), 0)) else (0, 0, 2)
theorem specRes_ev (l : List UInt8) (c : Int) : Ev (fun k => spec_ResumeJob.f k (mkB l) c) (resume l c) := by
 have hin : spec_l01In.f c 0 1000000 = some (decide (0 ≤ c ∧ c ≤ 1000000)) := by
  unfold spec_l01In.f
  by_cases h : c ≥ 0
  ·rw [if_pos h]; simp; omega
  ·rw [if_neg h]; simp; omega
 unfold spec_ResumeJob.f resume
 rw [mkB_size]
 by_cases h : l.length > 8000
 ·rw [if_pos h]
  exact Ev.congr (fun k => if_pos (by omega)) (Ev.const rfl)
 ·rw [if_neg h]
  refine Ev.congr (fun k => if_neg (by omega)) ?_
  rw [hin]
  simp only [Option.bind_some, decide_eq_true_eq]
  by_cases hc : 0 ≤ c ∧ c ≤ 1000000
  ·simp only [if_pos hc]
   refine Ev.go (specRec_ev l (by omega)) (Ev.go (specRun_ev l) ?_)
   simp only [pk]
   by_cases hj : (recAll l).2.j = 0
   ·simp only [if_pos hj]; exact Ev.congr (fun k => if_pos hj) (Ev.const rfl)
   ·simp only [if_neg hj]; exact Ev.congr (fun k => if_neg hj) (Ev.const rfl)
  ·simp only [if_neg hc]; exact Ev.const rfl
theorem implRes_ev (l : List UInt8) (c : Int) : Ev (fun k => impl_ResumeJob.f k (mkB l) c) (resume l c) := by
 have hin : impl_isRun.f c = some (decide (0 ≤ c ∧ c ≤ 1000000)) := by
  unfold impl_isRun.f impl_inRange.f
  by_cases h : 0 ≤ c
  ·rw [if_pos h]; simp; omega
  ·rw [if_neg h]; simp; omega
 unfold impl_ResumeJob.f resume
 rw [mkB_size]
 by_cases h : l.length > 8000
 ·rw [if_pos h]
  exact Ev.congr (fun k => if_pos (by omega)) (Ev.const rfl)
 ·rw [if_neg h]
  refine Ev.congr (fun k => if_neg (by omega)) ?_
  rw [hin]
  simp only [Option.bind_some, decide_eq_true_eq]
  by_cases hc : 0 ≤ c ∧ c ≤ 1000000
  ·simp only [if_pos hc]
   refine Ev.go (implRec_ev l (by omega)) ?_
   simp only [tup]
   by_cases hj : (recAll l).2.j = 0
   ·simp only [if_pos hj]; exact Ev.congr (fun k => if_pos hj) (Ev.const rfl)
   ·simp only [if_neg hj]; exact Ev.congr (fun k => if_neg hj) (Ev.const rfl)
  ·simp only [if_neg hc]; exact Ev.const rfl

/-! ### draws -/
/-- It ends, with an answer of a kind. -/
def Tot {α : Type} (g : Nat → Option α) (Q : α → Prop) : Prop := ∃ r, Ev g r ∧ Q r
theorem Tot.go {α β : Type} {g : Nat → Option α} {f : Nat → α → Option β} {Q : α → Prop} {R : β → Prop} (h : Tot g Q) (k : ∀ a, Q a → Tot (fun n => f n a) R) : Tot (fun n => (g n).bind (f n)) R := by
 obtain ⟨a, h1, h2⟩ := h
 obtain ⟨r, h3, h4⟩ := k a h2
 exact ⟨r, Ev.go h1 h3, h4⟩
theorem Tot.now {α : Type} {Q : α → Prop} {r : α} (h : Q r) : Tot (fun _ => some r) Q := ⟨r, Ev.const rfl, h⟩
theorem Tot.of {α : Type} {Q : α → Prop} {o : Option α} {r : α} (e : o = some r) (h : Q r) : Tot (fun _ => o) Q := ⟨r, Ev.const e, h⟩
theorem Tot.ite {α : Type} {c : Prop} [Decidable c] {f g : Nat → Option α} {Q : α → Prop} (h1 : c → Tot f Q) (h2 : ¬ c → Tot g Q) : Tot (fun k => if c then f k else g k) Q := by
 by_cases h : c
 ·obtain ⟨r, a, b⟩ := h1 h; exact ⟨r, Ev.congr (fun k => if_pos h) a, b⟩
 ·obtain ⟨r, a, b⟩ := h2 h; exact ⟨r, Ev.congr (fun k => if_neg h) a, b⟩
theorem Tot.pos {α : Type} {c : Prop} [Decidable c] {f g : Nat → Option α} {Q : α → Prop} (h : c) (h1 : Tot f Q) : Tot (fun k => if c then f k else g k) Q := Tot.ite (fun _ => h1) (fun n => absurd h n)
theorem Tot.neg {α : Type} {c : Prop} [Decidable c] {f g : Nat → Option α} {Q : α → Prop} (h : ¬ c) (h1 : Tot g Q) : Tot (fun k => if c then f k else g k) Q := Tot.ite (fun n => absurd n h) (fun _ => h1)
theorem Tot.step {α : Type} {g f : Nat → Option α} {Q : α → Prop} (h : ∀ k, g (k + 1) = f k) (k : Tot f Q) : Tot g Q := by
 obtain ⟨r, a, b⟩ := k
 exact ⟨r, Ev.step h a, b⟩
theorem Tot.congr {α : Type} {g f : Nat → Option α} {Q : α → Prop} (h : ∀ k, g k = f k) (k : Tot f Q) : Tot g Q := by
 obtain ⟨r, a, b⟩ := k
 exact ⟨r, Ev.congr h a, b⟩
theorem Tot.mono {α : Type} {g : Nat → Option α} {Q R : α → Prop} (h : Tot g Q) (m : ∀ r, Q r → R r) : Tot g R := by
 obtain ⟨r, a, b⟩ := h
 exact ⟨r, a, m r b⟩
theorem Tot.ev {α : Type} {g : Nat → Option α} {r : α} (h : Ev g r) : Tot g (fun x => x = r) := ⟨r, h, rfl⟩
theorem Tot.shift {α : Type} {g : Nat → Option α} {Q : α → Prop} (h : Tot (fun k => g (k + 1)) Q) : Tot g Q := Tot.step (fun _ => rfl) h
/-- A source of numbers. -/
structure Src (C : List Int) (a s : Int) : Prop where
 len : C.length ≤ 4096
 byte : ∀ x ∈ C, 0 ≤ x ∧ x ≤ 255
 a0 : 0 ≤ a
 a1 : a ≤ C.length
 s0 : 0 ≤ s
 s1 : s ≤ 2147483646
theorem Src.rd {C : List Int} {a s : Int} (h : Src C a s) {i : Int} (h0 : 0 ≤ i) (h1 : i < C.length) : 0 ≤ Go.Proofs.YthfmhfgckhkgjaaDoorW.PrintWords.rd C i ∧ Go.Proofs.YthfmhfgckhkgjaaDoorW.PrintWords.rd C i ≤ 255 := by
 rw [rd_lt h0 h1]
 exact h.byte _ (List.getElem_mem _)
theorem next_is {C : List Int} {a s : Int} (h : Src C a s) (n : Int) (hn : n ≤ 1000000000000) : ∃ r a' s', spec_l01Next.f C a s n = some (r, a', s') ∧ Src C a' s' ∧ 0 ≤ r ∧ (1 ≤ n → r < n) ∧ (n ≤ 1 → r = 0) := by
 unfold spec_l01Next.f
 by_cases h1 : n ≤ 1
 ·rw [if_pos h1]
  exact ⟨0, a, s, rfl, h, by omega, by omega, fun _ => rfl⟩
 rw [if_neg h1]
 have hs0 := h.s0
 have hs1 := h.s1
 have ha0 := h.a0
 have ha1 := h.a1
 have hl := h.len
 have e1 : wrap64 (s * 48271) = s * 48271 := wr (by omega) (by omega)
 have e2 : wrap64 (s * 48271 + 61) = s * 48271 + 61 := wr (by omega) (by omega)
 have e3 : Int.tmod (s * 48271 + 61) 2147483647 = (s * 48271 + 61) % 2147483647 := Int.tmod_eq_emod_of_nonneg (by omega)
 simp only [e1, e2, e3]
 generalize ht : (s * 48271 + 61) % 2147483647 = t
 have t0 : 0 ≤ t ∧ t ≤ 2147483646 := by omega
 have e4 : Int.tdiv t 31 = t / 31 := Int.tdiv_eq_ediv_of_nonneg t0.1
 have e5 : wrap64 (t / 31) = t / 31 := wr (by omega) (by omega)
 simp only [e4, e5]
 have key : ∀ X : Int, 0 ≤ X → 0 ≤ Int.tmod X n ∧ Int.tmod X n < n := fun X hX => by
  rw [Int.tmod_eq_emod_of_nonneg hX]
  exact ⟨Int.emod_nonneg _ (by omega), Int.emod_lt_of_pos _ (by omega)⟩
 have hn0 : ¬ n = 0 := by omega
 by_cases h2 : a < C.length
 ·have hb := h.rd h.a0 h2
  have e6 : wrap64 (a + 1) = a + 1 := wr (by omega) (by omega)
  have e7 : wrap64 (a + 1 - 1) = a := by rw [wr (by omega) (by omega)]; omega
  have hS : Src C (a + 1) t := ⟨h.len, h.byte, by omega, by omega, t0.1, t0.2⟩
  rw [if_pos h2, if_pos h.a0]
  simp only [e6, e7]
  have e8 : wrap64 (rd C a) = rd C a := wr (by omega) (by omega)
  have e9 : wrap64 (t / 31 + rd C a) = t / 31 + rd C a := wr (by omega) (by omega)
  simp only [e8, e9, if_neg hn0, if_pos h.a0, if_pos h2]
  have k1 := key (rd C a) hb.1
  have k2 := key (t / 31 + rd C a) (by omega)
  by_cases h3 : n ≤ 256
  ·rw [if_pos h3]
   by_cases h4 : Int.tmod (a + 1) 2 = 0
   ·rw [if_pos h4]
    exact ⟨_, _, _, rfl, hS, k1.1, fun _ => k1.2, by omega⟩
   ·rw [if_neg h4]
    exact ⟨_, _, _, rfl, hS, k2.1, fun _ => k2.2, by omega⟩
  ·rw [if_neg h3]
   exact ⟨_, _, _, rfl, hS, k2.1, fun _ => k2.2, by omega⟩
 ·rw [if_neg h2, if_neg hn0]
  have k3 := key (t / 31) (by omega)
  exact ⟨_, _, _, rfl, ⟨h.len, h.byte, h.a0, h.a1, t0.1, t0.2⟩, k3.1, fun _ => k3.2, by omega⟩
/-- One draw, and what goes on behind it. -/
theorem Tot.next {β : Type} {C : List Int} {a s n : Int} {f : Nat → Int × Int × Int → Option β} {R : β → Prop} (h : Src C a s) (hn : n ≤ 1000000000000)
  (k : ∀ r a' s', Src C a' s' → 0 ≤ r → (1 ≤ n → r < n) → (n ≤ 1 → r = 0) → Tot (fun m => f m (r, a', s')) R) : Tot (fun m => (spec_l01Next.f C a s n).bind (f m)) R := by
 obtain ⟨r, a', s', e, h1, h2, h3, h4⟩ := next_is h n hn
 rw [e]
 exact k r a' s' h1 h2 h3 h4
theorem from_l0 (C : List Int) (hl : C.length ≤ 4096) (hb : ∀ x ∈ C, 0 ≤ x ∧ x ≤ 255) : ∀ (d : Nat) (i s : Int), 0 ≤ i → i + d = C.length → 0 ≤ s → s ≤ 2147483646 →
  Tot (fun k => spec_l01From.l0 k C i C 0 s) (fun r => r.1 = C ∧ Src C r.2.1 r.2.2) := by
 intro d
 induction d with
 | zero =>
  intro i s hi hd h0 h1
  refine Tot.step (f := fun _ => some (C, 0, s)) (fun k => ?_) (Tot.now ⟨rfl, hl, hb, by simp, by simp, h0, h1⟩)
  simp only [spec_l01From.l0]
  rw [if_neg (by omega)]
 | succ d ih =>
  intro i s hi hd h0 h1
  by_cases h64 : i < 64
  ·have hr : 0 ≤ rd C i ∧ rd C i ≤ 255 := by
    rw [rd_lt hi (by omega)]
    exact hb _ (List.getElem_mem _)
   have e1 : wrap64 (s * 71) = s * 71 := wr (by omega) (by omega)
   have e2 : wrap64 (rd C i) = rd C i := wr (by omega) (by omega)
   have e3 : wrap64 (s * 71 + rd C i) = s * 71 + rd C i := wr (by omega) (by omega)
   have e4 : Int.tmod (s * 71 + rd C i) 2147483647 = (s * 71 + rd C i) % 2147483647 := Int.tmod_eq_emod_of_nonneg (by omega)
   refine Tot.step (fun k => ?_) (ih (i + 1) ((s * 71 + rd C i) % 2147483647) (by omega) (by omega) (by omega) (by omega))
   simp only [spec_l01From.l0]
   rw [if_pos (by omega), if_pos h64, if_pos hi, wr (x := i + 1) (by omega) (by omega), e1, e2, e3, e4]
  ·refine Tot.step (f := fun _ => some (C, 0, s)) (fun k => ?_) (Tot.now ⟨rfl, hl, hb, by simp, by simp, h0, h1⟩)
   simp only [spec_l01From.l0]
   rw [if_pos (by omega), if_neg h64]
theorem from_tot (C : List Int) (hl : C.length ≤ 4096) (hb : ∀ x ∈ C, 0 ≤ x ∧ x ≤ 255) : Tot (fun k => spec_l01From.f k C) (fun r => r.1 = C ∧ Src C r.2.1 r.2.2) :=
 from_l0 C hl hb C.length 0 88007 (by omega) (by omega) (by omega) (by omega)
theorem byteI {x : Int} (h : (Lit.int .u8 x).wf = true) : 0 ≤ x ∧ x ≤ 255 := by
 simp [Lit.wf, IntKind.min, IntKind.max, IntKind.bits, IntKind.signed] at h
 omega

theorem pick_is {C : List Int} {a s : Int} (h : Src C a s) (l : List Int) (h1 : 1 ≤ l.length) (h2 : l.length ≤ 1000000) : ∃ r a' s', spec_l01Pick.f C a s l = some (r, a', s') ∧ Src C a' s' ∧ r ∈ l := by
 obtain ⟨r, a', s', e, g1, g2, g3, _⟩ := next_is h (l.length : Int) (by omega)
 have hr : r < (l.length : Int) := g3 (by omega)
 refine ⟨rd l r, a', s', ?_, g1, ?_⟩
 ·unfold spec_l01Pick.f
  rw [e]
  simp only [Option.bind_some]
  rw [if_pos g2, if_pos hr]
 ·rw [rd_lt g2 hr]
  exact List.getElem_mem _
theorem Tot.pick {β : Type} {C : List Int} {a s : Int} {l : List Int} {f : Nat → Int × Int × Int → Option β} {R : β → Prop} (h : Src C a s) (h1 : 1 ≤ l.length) (h2 : l.length ≤ 1000000)
  (k : ∀ r a' s', Src C a' s' → r ∈ l → Tot (fun m => f m (r, a', s')) R) : Tot (fun m => (spec_l01Pick.f C a s l).bind (f m)) R := by
 obtain ⟨r, a', s', e, g1, g2⟩ := pick_is h l h1 h2
 rw [e]
 exact k r a' s' g1 g2

theorem damage_is {C : List Int} {a s : Int} (h : Src C a s) (t : List UInt8) (ht : t.length ≤ 1000000) : ∃ u a' s', spec_l01Damage.f C a s (mkB t) = some (mkB u, a', s') ∧ Src C a' s' ∧ u.length ≤ t.length + 1 := by
 unfold spec_l01Damage.f
 simp only [mkB_size]
 rw [wr (x := (t.length : Int) + 1) (by omega) (by omega)]
 obtain ⟨p, a1, s1, e1, g1, p0, p1, _⟩ := next_is h ((t.length : Int) + 1) (by omega)
 have p2 := p1 (by omega)
 rw [e1]
 simp only [Option.bind_some]
 obtain ⟨c, a2, s2, e2, g2, c0, c1, _⟩ := next_is g1 8 (by omega)
 rw [e2]
 simp only [Option.bind_some]
 obtain ⟨q, rfl⟩ : ∃ q : Nat, p = q := ⟨p.toNat, by omega⟩
 simp only [Int.toNat_natCast, extract_mkB]
 by_cases hc0 : c = 0
 ·rw [if_pos hc0, if_pos (by omega), if_pos (by omega)]
  exact ⟨_, _, _, rfl, g2, by simp; omega⟩
 rw [if_neg hc0]
 by_cases hc1 : c = 1
 ·rw [if_pos hc1, if_pos (by omega), if_pos (by omega)]
  obtain ⟨x, a3, s3, e3, g3, x0, x1, _⟩ := next_is g2 8 (by omega)
  have x2 := x1 (by omega)
  rw [e3]
  simp only [Option.bind_some]
  rw [if_pos x0, if_pos (by simpa using x2)]
  have hy : ∃ z : UInt8, rdOf ByteArray.empty ([(⟨#[48]⟩ : ByteArray), (⟨#[49]⟩ : ByteArray), (⟨#[32]⟩ : ByteArray), (⟨#[45]⟩ : ByteArray), (⟨#[46]⟩ : ByteArray), (⟨#[44]⟩ : ByteArray), (⟨#[10]⟩ : ByteArray), (⟨#[120]⟩ : ByteArray)] : List ByteArray) x = mkB [z] := by
   have hx : x = 0 ∨ x = 1 ∨ x = 2 ∨ x = 3 ∨ x = 4 ∨ x = 5 ∨ x = 6 ∨ x = 7 := by omega
   rcases hx with rfl | rfl | rfl | rfl | rfl | rfl | rfl | rfl <;> exact ⟨_, rfl⟩
  obtain ⟨z, hz⟩ := hy
  rw [hz]
  simp only [mkB_app, mkB_size, List.length_append, List.length_singleton, List.length_take, List.length_drop]
  rw [if_pos (by omega), if_pos (by omega)]
  exact ⟨_, _, _, rfl, g3, by simp only [List.length_append, List.length_singleton, List.length_take, List.length_drop]; omega⟩
 rw [if_neg hc1]
 by_cases hc2 : c = 2
 ·rw [if_pos hc2]
  by_cases hq : (q : Int) < (t.length : Int)
  ·rw [if_pos hq, if_pos (by omega), if_pos (by omega), wr (x := (q : Int) + 1) (by omega) (by omega), if_pos (by omega), if_pos (by omega), show ((q : Int) + 1).toNat = q + 1 by omega]
   simp only [mkB_app, mkB_size, List.length_append, List.length_take, List.length_drop]
   rw [if_pos (by omega)]
   exact ⟨_, _, _, rfl, g2, by simp only [List.length_append, List.length_take, List.length_drop]; omega⟩
  ·rw [if_neg hq]
   exact ⟨_, _, _, rfl, g2, by omega⟩
 ·rw [if_neg hc2]
  exact ⟨_, _, _, rfl, g2, by omega⟩
theorem Tot.damage {β : Type} {C : List Int} {a s : Int} {t : List UInt8} {f : Nat → ByteArray × Int × Int → Option β} {R : β → Prop} (h : Src C a s) (ht : t.length ≤ 1000000)
  (k : ∀ u a' s', Src C a' s' → u.length ≤ t.length + 1 → Tot (fun m => f m (mkB u, a', s')) R) : Tot (fun m => (spec_l01Damage.f C a s (mkB t)).bind (f m)) R := by
 obtain ⟨u, a', s', e, g1, g2⟩ := damage_is h t ht
 rw [e]
 exact k u a' s' g1 g2

/-! ### draws of journals -/
theorem drawEntry_j0 {C : List Int} {a s : Int} (h : Src C a s) (b : Bool) : Tot (fun k => spec_l29DrawEntry.j0 k b C a s) (fun r => Src C r.2.2.1 r.2.2.2) := by
 refine Tot.shift ?_
 simp only [spec_l29DrawEntry.j0]
 refine Tot.ite (fun _ => ?_) (fun _ => ?_)
 ·exact Tot.next h (by omega) fun r a s h _ _ _ => Tot.now h
 ·exact Tot.next h (by omega) fun r a s h _ _ _ => Tot.now h
theorem drawEntry_tot {C : List Int} {a s : Int} (h : Src C a s) (x0 x1 x2 x3 : Int) : Tot (fun k => spec_l29DrawEntry.f k C a s x0 x1 x2 x3) (fun r => Src C r.2.2.1 r.2.2.2) := by
 unfold spec_l29DrawEntry.f
 refine Tot.next h (by omega) fun r a s h _ _ _ => ?_
 refine Tot.ite (fun _ => ?_) (fun _ => ?_)
 ·refine Tot.next h (by omega) fun r a s h _ _ _ => ?_
  exact Tot.pick h (by simp) (by simp) fun r a s h _ => Tot.now h
 ·refine Tot.ite (fun _ => ?_) (fun _ => ?_)
  ·exact Tot.next h (by omega) fun r a s h _ _ _ => Tot.now h
  ·refine Tot.next h (by omega) fun r a s h _ _ _ => ?_
   refine Tot.ite (fun _ => Tot.now h) (fun _ => ?_)
   exact Tot.ite (fun _ => drawEntry_j0 h _) (fun _ => drawEntry_j0 h _)
theorem drawList_l1 {C : List Int} {a s : Int} (h : Src C a s) : ∀ (d : Nat) (xs : List S31), d + xs.length ≤ 300 → Tot (fun k => spec_l29Draw.l1 k xs (d : Int) C a s) (fun r => r.1.length ≤ 300 ∧ Src C r.2.1 r.2.2)
 | 0, xs, hx => by
  refine Tot.shift ?_
  simp only [spec_l29Draw.l1]
  exact Tot.neg (by omega) (Tot.now ⟨by simp; omega, h⟩)
 | d + 1, xs, hx => by
  refine Tot.shift ?_
  simp only [spec_l29Draw.l1]
  refine Tot.pos (by omega) (Tot.pos (by omega) ?_)
  rw [show wrap64 (((d + 1 : Nat) : Int) - 1) = (d : Int) by rw [wr (by omega) (by omega)]; omega]
  exact drawList_l1 h d _ (by simp; omega)
theorem drawList_l0 : ∀ (d : Nat) {C : List Int} {a s : Int} (h : Src C a s) (xs : List S31) (m : St), Inv m → d + xs.length ≤ 20 → Tot (fun k => spec_l29Draw.l0 k xs (d : Int) C a s m.j m.d m.f m.e) (fun r => r.1.length ≤ 300 ∧ Src C r.2.1 r.2.2)
 | 0, C, a, s, h, xs, m, hm, hx => by
  refine Tot.shift ?_
  simp only [spec_l29Draw.l0]
  refine Tot.neg (by omega) ?_
  refine Tot.next h (by omega) fun r a s h _ _ _ => ?_
  refine Tot.ite (fun _ => ?_) (fun _ => Tot.now ⟨by simp; omega, h⟩)
  refine Tot.next h (by omega) fun r a s h r0 r1 _ => ?_
  have r2 := r1 (by omega)
  rw [show wrap64 (199 + (r, a, s).1) = ((199 + r.toNat : Nat) : Int) by rw [wr (by simp only; omega) (by simp only; omega)]; simp only; omega]
  exact drawList_l1 h _ _ (by simp; omega)
 | d + 1, C, a, s, h, xs, m, hm, hx => by
  refine Tot.shift ?_
  simp only [spec_l29Draw.l0]
  refine Tot.pos (by omega) ?_
  refine Tot.go (drawEntry_tot h _ _ _ _) fun e he => ?_
  rw [show wrap64 (((d + 1 : Nat) : Int) - 1) = (d : Int) by rw [wr (by omega) (by omega)]; omega]
  rcases specMake_f m e.1 e.2.1 hm with ⟨m', h1, h2⟩ | ⟨_, m', h2⟩
  ·simp only [h2, Option.bind_some, pk, if_true]
   exact Tot.pos (by omega) (drawList_l0 d he _ m' (aft_inv hm h1) (by simp; omega))
  ·simp only [h2, Option.bind_some, pk, Bool.false_eq_true, if_false]
   refine Tot.next he (by omega) fun r a s h _ _ _ => ?_
   refine Tot.ite (fun _ => ?_) (fun _ => ?_)
   ·exact drawList_l0 d h _ m hm (by omega)
   ·exact Tot.pos (by omega) (drawList_l0 d h _ m hm (by simp; omega))
theorem drawList_tot {C : List Int} {a s : Int} (h : Src C a s) : Tot (fun k => spec_l29Draw.f k C a s) (fun r => r.1.length ≤ 300 ∧ Src C r.2.1 r.2.2) := by
 unfold spec_l29Draw.f
 refine Tot.next h (by omega) fun r a s h r0 r1 _ => ?_
 have r2 := r1 (by omega)
 obtain ⟨q, rfl⟩ : ∃ q : Nat, r = q := ⟨r.toNat, by omega⟩
 exact drawList_l0 q h [] ⟨0, 0, 0, 0⟩ inv0 (by simp; omega)
/-! #### a journal's text -/
def runT (xs : List S31) (n : Int) (m : St) : Int × Int × Int × Int × Bool := match runR xs m with
 | some m' => pk m' (decide (n ≤ 200))
 | none => (0, 0, 0, 0, false)
theorem specRunA_l0 (xs : List S31) (hl : xs.length ≤ 1000000) : ∀ (d i : Nat) (m : St), i + d = xs.length → Inv m →
  Ev (fun k => spec_l29Run.l0 k xs (i : Int) m.j m.d m.f m.e) (runT (xs.drop i) (xs.length : Int) m) := by
 intro d
 induction d with
 | zero =>
  intro i m hi hm
  rw [List.drop_of_length_le (by omega)]
  refine Ev.step (f := fun _ => some (pk m (decide ((xs.length : Int) ≤ 200)))) (fun k => ?_) (Ev.const rfl)
  simp only [spec_l29Run.l0]
  rw [if_neg (by omega)]
  rfl
 | succ d ih =>
  intro i m hi hm
  have hlt : i < xs.length := by omega
  rw [List.drop_eq_getElem_cons hlt]
  rcases specMake_f m xs[i].f0 xs[i].f1 hm with ⟨m', h1, h2⟩ | ⟨h1, m', h2⟩
  ·have e : runT (xs[i] :: xs.drop (i + 1)) (xs.length : Int) m = runT (xs.drop (i + 1)) (xs.length : Int) m' := by
    unfold runT
    simp only [runR, h1]
   rw [e]
   refine Ev.step (fun k => ?_) (ih (i + 1) m' (by omega) (aft_inv hm h1))
   simp only [spec_l29Run.l0]
   rw [if_pos (by omega), if_pos (by omega), rdT_lt' hlt, h2, wr (by omega) (by omega)]
   simp only [Option.bind_some, pk, if_true]
   rfl
  ·have e : runT (xs[i] :: xs.drop (i + 1)) (xs.length : Int) m = (0, 0, 0, 0, false) := by
    unfold runT
    simp only [runR, h1]
   rw [e]
   refine Ev.step (f := fun _ => some (0, 0, 0, 0, false)) (fun k => ?_) (Ev.const rfl)
   simp only [spec_l29Run.l0]
   rw [if_pos (by omega), if_pos (by omega), rdT_lt' hlt, h2]
   simp only [Option.bind_some, pk, Bool.false_eq_true, if_false]
theorem specRunA_ev (xs : List S31) (hl : xs.length ≤ 1000000) : Ev (fun k => spec_l29Run.f k xs) (runT xs (xs.length : Int) ⟨0, 0, 0, 0⟩) := by
 unfold spec_l29Run.f
 have := specRunA_l0 xs hl xs.length 0 ⟨0, 0, 0, 0⟩ (by omega) inv0
 simpa using this
theorem implRunA_l0 (xs : List S31) (hl : xs.length ≤ 1000000) : ∀ (d i : Nat) (m : St), i + d = xs.length → Inv m →
  Ev (fun k => impl_runEntries.l0 k xs xs (xs.length : Int) (i : Int) m.j m.d m.f m.e) (runT (xs.drop i) (xs.length : Int) m) := by
 intro d
 induction d with
 | zero =>
  intro i m hi hm
  rw [List.drop_of_length_le (by omega)]
  refine Ev.step (f := fun _ => some (pk m (decide ((xs.length : Int) ≤ 200)))) (fun k => ?_) (Ev.const rfl)
  simp only [impl_runEntries.l0]
  rw [if_neg (by omega)]
  rfl
 | succ d ih =>
  intro i m hi hm
  have hlt : i < xs.length := by omega
  rw [List.drop_eq_getElem_cons hlt]
  cases h1 : aft m xs[i].f0 xs[i].f1 with
  | some m' =>
   have e : runT (xs[i] :: xs.drop (i + 1)) (xs.length : Int) m = runT (xs.drop (i + 1)) (xs.length : Int) m' := by
    unfold runT
    simp only [runR, h1]
   rw [e]
   refine Ev.step (f := fun k => (impl_after.f k m.j m.d m.f m.e xs[i].f0 xs[i].f1).bind fun t => if t.2.2.2.2 = true then impl_runEntries.l0 k xs xs (xs.length : Int) ((i + 1 : Nat) : Int) t.1 t.2.1 t.2.2.1 t.2.2.2.1 else some (0, 0, 0, 0, false)) (fun k => ?_) (Ev.go (implAfter_ev hm h1) ?_)
   ·simp only [impl_runEntries.l0]
    rw [if_pos (by omega), if_pos (by omega), if_pos (by omega), rdT_lt' hlt, wr (by omega) (by omega)]
    rfl
   ·simp only [pk, if_true]
    exact ih (i + 1) m' (by omega) (aft_inv hm h1)
  | none =>
   have e : runT (xs[i] :: xs.drop (i + 1)) (xs.length : Int) m = (0, 0, 0, 0, false) := by
    unfold runT
    simp only [runR, h1]
   rw [e]
   obtain ⟨m', hno⟩ := implAfter_no hm h1
   refine Ev.step (f := fun k => (impl_after.f k m.j m.d m.f m.e xs[i].f0 xs[i].f1).bind fun t => if t.2.2.2.2 = true then impl_runEntries.l0 k xs xs (xs.length : Int) ((i + 1 : Nat) : Int) t.1 t.2.1 t.2.2.1 t.2.2.2.1 else some (0, 0, 0, 0, false)) (fun k => ?_) (Ev.go hno ?_)
   ·simp only [impl_runEntries.l0]
    rw [if_pos (by omega), if_pos (by omega), if_pos (by omega), rdT_lt' hlt, wr (by omega) (by omega)]
    rfl
   ·simp only [pk, Bool.false_eq_true, if_false]
    exact Ev.const rfl
theorem implRunA_ev (xs : List S31) (hl : xs.length ≤ 1000000) : Ev (fun k => impl_runEntries.f k xs) (runT xs (xs.length : Int) ⟨0, 0, 0, 0⟩) := by
 unfold impl_runEntries.f
 have := implRunA_l0 xs hl xs.length 0 ⟨0, 0, 0, 0⟩ (by omega) inv0
 simpa using this
theorem runR_ok : ∀ (xs : List S31) (m m' : St), runR xs m = some m' → ∀ e ∈ xs, 1 ≤ e.f0 ∧ e.f0 ≤ 4 ∧ 0 ≤ e.f1 ∧ e.f1 ≤ 1000000000
 | [], _, _, _, e, he => by cases he
 | x :: r, m, m', h, e, he => by
  simp only [runR] at h
  cases hx : aft m x.f0 x.f1 with
  | none => rw [hx] at h; cases h
  | some m1 =>
   rw [hx] at h
   rcases List.mem_cons.1 he with rfl | he
   ·exact aft_in hx
   ·exact runR_ok r m1 m' h e he
/-- The text of entries from the i-th on. -/
def jl : List S31 → Nat → List UInt8
 | [], _ => []
 | e :: r, i => lineR e.f0.toNat e.f1.toNat i ++ 10 :: jl r (i + 1)
theorem lineR_len (a b i : Nat) (ha : a ≤ 10000000000) (hb : b ≤ 10000000000) : (lineR a b i).length ≤ 59 := by
 obtain ⟨h1, h2, h3⟩ := three_len a b ((7 * a + 3 * b + 11 * i) % 9973) (by omega) (by omega) (by omega)
 unfold lineR three
 simp only [List.length_append, List.length_singleton]
 omega
theorem jl_len : ∀ (xs : List S31) (i : Nat), (∀ e ∈ xs, 1 ≤ e.f0 ∧ e.f0 ≤ 4 ∧ 0 ≤ e.f1 ∧ e.f1 ≤ 1000000000) → (jl xs i).length ≤ 60 * xs.length
 | [], _, _ => by simp [jl]
 | e :: r, i, h => by
  have h1 := jl_len r (i + 1) (fun x hx => h x (by simp [hx]))
  have h2 := h e (by simp)
  have h3 := lineR_len e.f0.toNat e.f1.toNat i (by omega) (by omega)
  simp only [jl, List.length_append, List.length_cons]
  omega
def nums8 (l : List UInt8) : List Int := l.map fun b => (b.toNat : Int)
theorem strOfNums_8 (l : List UInt8) : strOfNums (nums8 l) = mkB l := by
 unfold strOfNums nums8 mkB
 congr 2
 rw [List.map_map]
 conv => rhs; rw [← List.map_id l]
 apply List.map_congr_left
 intro x _
 simp
theorem bytesOf_8 (l : List UInt8) : bytesOf (mkB l) = nums8 l := by
 unfold bytesOf nums8
 rw [mkB_data]
theorem specJT_l0 (xs : List S31) (hx : ∀ e ∈ xs, 1 ≤ e.f0 ∧ e.f0 ≤ 4 ∧ 0 ≤ e.f1 ∧ e.f1 ≤ 1000000000) (hl : xs.length ≤ 1000) : ∀ (d i : Nat) (acc : List UInt8), i + d = xs.length → acc.length ≤ 60 * i →
  Ev (fun k => spec_JournalText.l0 k xs (nums8 acc) (i : Int)) (mkB (acc ++ jl (xs.drop i) i), 0) := by
 intro d
 induction d with
 | zero =>
  intro i acc hi ha
  rw [List.drop_of_length_le (by omega)]
  refine Ev.step (f := fun _ => some (mkB (acc ++ []), 0)) (fun k => ?_) (Ev.const rfl)
  simp only [spec_JournalText.l0]
  rw [if_neg (by omega), strOfNums_8, List.append_nil]
 | succ d ih =>
  intro i acc hi ha
  have hlt : i < xs.length := by omega
  rw [List.drop_eq_getElem_cons hlt]
  have he := hx _ (List.getElem_mem hlt)
  have hlen := lineR_len xs[i].f0.toNat xs[i].f1.toNat i (by omega) (by omega)
  have hline := specLine_ev xs[i].f0.toNat xs[i].f1.toNat i (by omega) (by omega) (by omega)
  rw [show ((xs[i].f0.toNat : Nat) : Int) = xs[i].f0 by omega, show ((xs[i].f1.toNat : Nat) : Int) = xs[i].f1 by omega] at hline
  have hn := ih (i + 1) (acc ++ (lineR xs[i].f0.toNat xs[i].f1.toNat i ++ [10])) (by omega) (by simp; omega)
  have e : acc ++ (lineR xs[i].f0.toNat xs[i].f1.toNat i ++ [10]) ++ jl (xs.drop (i + 1)) (i + 1) = acc ++ jl (xs[i] :: xs.drop (i + 1)) i := by simp [jl]
  rw [e] at hn
  refine Ev.step (f := fun k => (spec_l29Line.f k xs[i].f0 xs[i].f1 (i : Int)).bind fun t => if t.size + 1 ≤ 9223372036854775807 then (if (nums8 acc).length + (t ++ (⟨#[10]⟩ : ByteArray)).size < 140737488355328 then spec_JournalText.l0 k xs (nums8 acc ++ bytesOf (t ++ (⟨#[10]⟩ : ByteArray))) ((i + 1 : Nat) : Int) else none) else none) (fun k => ?_) (Ev.go hline ?_)
  ·simp only [spec_JournalText.l0]
   rw [if_pos (by omega), if_pos (by omega), rdT_lt' hlt, wr (by omega) (by omega)]
   rfl
  ·have e10 : (⟨#[10]⟩ : ByteArray) = mkB [10] := rfl
   rw [e10, mkB_app, bytesOf_8]
   refine Ev.congr (fun k => if_pos (by rw [mkB_size]; omega)) ?_
   refine Ev.congr (fun k => if_pos (by rw [mkB_size]; simp [nums8]; omega)) ?_
   rw [show nums8 acc ++ nums8 (lineR xs[i].f0.toNat xs[i].f1.toNat i ++ [10]) = nums8 (acc ++ (lineR xs[i].f0.toNat xs[i].f1.toNat i ++ [10])) by simp [nums8]]
   exact hn
/-- A journal's text, and its code. -/
def jt (xs : List S31) : List UInt8 × Int := match runR xs ⟨0, 0, 0, 0⟩ with
 | some _ => if xs.length ≤ 200 then (jl xs 0, 0) else ([], 1)
 | none => ([], 1)
theorem specJT_ev (xs : List S31) (hl : xs.length ≤ 1000000) : Ev (fun k => spec_JournalText.f k xs) (mkB (jt xs).1, (jt xs).2) := by
 unfold spec_JournalText.f jt
 refine Ev.go (specRunA_ev xs hl) ?_
 unfold runT
 cases hr : runR xs ⟨0, 0, 0, 0⟩ with
 | none => exact Ev.congr (fun k => if_neg (by simp)) (Ev.const rfl)
 | some m =>
  simp only [pk]
  by_cases h : xs.length ≤ 200
  ·rw [if_pos h]
   refine Ev.congr (fun k => if_pos (by simp; omega)) ?_
   have := specJT_l0 xs (runR_ok xs _ _ hr) (by omega) xs.length 0 [] (by omega) (by simp)
   simpa [nums8] using this
  ·rw [if_neg h]
   exact Ev.congr (fun k => if_neg (by simp; omega)) (Ev.const rfl)
theorem jt_len (xs : List S31) : (jt xs).1.length ≤ 12000 := by
 unfold jt
 cases hr : runR xs ⟨0, 0, 0, 0⟩ with
 | none => simp
 | some m =>
  simp only
  split
  ·have := jl_len xs 0 (runR_ok xs _ _ hr)
   simp only; omega
  ·simp
theorem drawText_tot {C : List Int} {a s : Int} (h : Src C a s) : Tot (fun k => spec_l29DrawText.f k C a s) (fun r => (∃ u, r.1 = mkB u ∧ u.length ≤ 20000) ∧ Src C r.2.1 r.2.2) := by
 unfold spec_l29DrawText.f
 refine Tot.go (drawList_tot h) fun xs hxs => ?_
 refine Tot.go (Tot.ev (specJT_ev xs.1 (by omega))) fun t ht => ?_
 subst ht
 have hl := jt_len xs.1
 refine Tot.next hxs.2 (by omega) fun r a s h _ _ _ => ?_
 refine Tot.ite (fun _ => ?_) (fun _ => ?_)
 ·exact Tot.damage h (by omega) fun u a s h hu => Tot.now ⟨⟨u, rfl, by omega⟩, h⟩
 ·refine Tot.next h (by omega) fun r a s h _ _ _ => ?_
  refine Tot.ite (fun _ => ?_) (fun _ => ?_)
  ·refine Tot.next h (by omega) fun r a s h r0 r1 _ => ?_
   have r2 := r1 (by omega)
   have e : wrap64 (8000 + (r, a, s).1) = 8000 + r := wr (by simp only; omega) (by simp only; omega)
   rw [e]
   refine Tot.pos (by omega) (Tot.pos (by omega) (Tot.now ⟨⟨List.replicate (8000 + r).toNat 0, ?_, by simp; omega⟩, h⟩))
   have := strOfNums_8 (List.replicate (8000 + r).toNat 0)
   simpa [nums8] using this
  ·exact Tot.now ⟨⟨_, rfl, by omega⟩, h⟩

/-! ### the law: a job goes on -/
theorem drawMachine_j0 {C : List Int} {a s : Int} (h : Src C a s) (x0 x1 x2 x3 : Int) : Tot (fun k => spec_l29DrawMachine.j0 k C a s x0 x1 x2 x3) (fun r => Src C r.2.2.2.2.1 r.2.2.2.2.2) := by
 refine Tot.shift ?_
 simp only [spec_l29DrawMachine.j0]
 refine Tot.next h (by omega) fun r a s h _ _ _ => ?_
 refine Tot.ite (fun _ => Tot.pick h (by simp) (by simp) fun r a s h _ => Tot.now h) (fun _ => ?_)
 refine Tot.ite (fun _ => Tot.pick h (by simp) (by simp) fun r a s h _ => Tot.now h) (fun _ => ?_)
 exact Tot.ite (fun _ => Tot.pick h (by simp) (by simp) fun r a s h _ => Tot.now h) (fun _ => Tot.now h)
theorem drawMachine_tot {C : List Int} {a s : Int} (h : Src C a s) : Tot (fun k => spec_l29DrawMachine.f k C a s) (fun r => Src C r.2.2.2.2.1 r.2.2.2.2.2) := by
 unfold spec_l29DrawMachine.f
 refine Tot.next h (by omega) fun r a s h _ _ _ => ?_
 refine Tot.next h (by omega) fun r a s h _ _ _ => ?_
 refine Tot.ite (fun _ => ?_) (fun _ => drawMachine_j0 h _ _ _ _)
 refine Tot.next h (by omega) fun r a s h _ _ _ => ?_
 refine Tot.next h (by omega) fun r a s h _ _ _ => ?_
 refine Tot.next h (by omega) fun r a s h _ _ _ => ?_
 exact drawMachine_j0 h _ _ _ _
theorem drawMake_tot (C : List Int) (hl : C.length ≤ 4096) (hb : ∀ x ∈ C, 0 ≤ x ∧ x ≤ 255) : Tot (fun k => spec_DrawMakeEntry.f k C) (fun _ => True) := by
 unfold spec_DrawMakeEntry.f
 refine Tot.go (from_tot C hl hb) fun x hx => ?_
 obtain ⟨e, hx⟩ := hx
 rw [e]
 refine Tot.go (drawMachine_tot hx) fun m hm => ?_
 exact Tot.go (drawEntry_tot hm _ _ _ _) fun y hy => Tot.now trivial
theorem drawResume_tot (C : List Int) (hl : C.length ≤ 4096) (hb : ∀ x ∈ C, 0 ≤ x ∧ x ≤ 255) : Tot (fun k => spec_DrawResumeJob.f k C) (fun r => ∃ u, r.1 = mkB u ∧ u.length ≤ 20000) := by
 unfold spec_DrawResumeJob.f
 refine Tot.go (from_tot C hl hb) fun x hx => ?_
 obtain ⟨e, hx⟩ := hx
 rw [e]
 refine Tot.go (drawText_tot hx) fun t ht => ?_
 refine Tot.next ht.2 (by omega) fun r a s h _ _ _ => ?_
 refine Tot.next h (by omega) fun r a s h _ _ _ => ?_
 refine Tot.pick h (by simp) (by simp) fun r a s h _ => ?_
 exact Tot.pick h (by simp) (by simp) fun r a s h _ => Tot.now ht.1
instance (m : St) : Decidable (Inv m) := by unfold Inv; infer_instance
def machB (m : St) : Bool := decide (Inv m ∧ (0 < m.j ∨ m.d = 0 ∧ m.f = 0))
theorem inR (n a b : Int) : impl_inRange.f n a b = some (decide (a ≤ n ∧ n ≤ b)) := by
 unfold impl_inRange.f
 by_cases h : a ≤ n
 ·rw [if_pos h]; simp; omega
 ·rw [if_neg h]; simp; omega
theorem inS (n a b : Int) : spec_l01In.f n a b = some (decide (a ≤ n ∧ n ≤ b)) := by
 unfold spec_l01In.f
 by_cases h : n ≥ a
 ·rw [if_pos h]; simp; omega
 ·rw [if_neg h]; simp; omega
theorem implMach (m : St) : impl_IsMachine.f m.j m.d m.f m.e = some (machB m) := by
 unfold impl_IsMachine.f impl_isRun.f machB Inv
 simp only [inR, Option.bind_some, decide_eq_true_eq]
 by_cases h1 : 0 ≤ m.j ∧ m.j ≤ 1000000000
 ·rw [if_pos h1]
  by_cases h2 : 0 ≤ m.d ∧ m.d ≤ 1000000
  ·rw [if_pos h2]
   by_cases h3 : 0 ≤ m.f ∧ m.f ≤ 1000000
   ·rw [if_pos h3]
    by_cases h4 : 0 ≤ m.e ∧ m.e ≤ 1000000000
    ·rw [if_pos h4]
     by_cases h5 : m.j = 0
     ·rw [if_pos h5]
      by_cases h6 : m.d = 0
      ·rw [if_pos h6]
       congr 1
       by_cases h7 : m.f = 0
       ·rw [decide_eq_true ⟨by omega, Or.inr ⟨h6, h7⟩⟩]; simp [h7]
       ·rw [decide_eq_false (by omega)]; simp [h7]
      ·rw [if_neg h6, decide_eq_false (by omega)]
     ·rw [if_neg h5, decide_eq_true (by omega)]
    ·rw [if_neg h4, decide_eq_false (by omega)]
   ·rw [if_neg h3, decide_eq_false (by omega)]
  ·rw [if_neg h2, decide_eq_false (by omega)]
 ·rw [if_neg h1, decide_eq_false (by omega)]
theorem specMach (m : St) : spec_IsMachine.f m.j m.d m.f m.e = some (machB m) := by
 unfold spec_IsMachine.f machB Inv
 simp only [inS, Option.bind_some, decide_eq_true_eq]
 by_cases h1 : 0 ≤ m.j ∧ m.j ≤ 1000000000
 ·rw [if_pos h1]
  by_cases h2 : 0 ≤ m.d ∧ m.d ≤ 1000000
  ·rw [if_pos h2]
   by_cases h3 : 0 ≤ m.f ∧ m.f ≤ 1000000
   ·rw [if_pos h3]
    by_cases h4 : 0 ≤ m.e ∧ m.e ≤ 1000000000
    ·rw [if_pos h4]
     by_cases h5 : m.j > 0
     ·rw [if_pos h5, decide_eq_true (by omega)]
     ·rw [if_neg h5]
      by_cases h6 : m.d = 0
      ·rw [if_pos h6]
       congr 1
       by_cases h7 : m.f = 0
       ·rw [decide_eq_true ⟨by omega, Or.inr ⟨h6, h7⟩⟩]; simp [h7]
       ·rw [decide_eq_false (by omega)]; simp [h7]
      ·rw [if_neg h6, decide_eq_false (by omega)]
    ·rw [if_neg h4, decide_eq_false (by omega)]
   ·rw [if_neg h3, decide_eq_false (by omega)]
  ·rw [if_neg h2, decide_eq_false (by omega)]
 ·rw [if_neg h1, decide_eq_false (by omega)]
theorem aft_mach {m m' : St} {k v : Int} (hm : machB m = true) (h : aft m k v = some m') : machB m' = true ∧ m.e ≤ m'.e := by
 unfold machB at hm ⊢
 simp only [decide_eq_true_eq] at hm ⊢
 obtain ⟨h1, h2⟩ := hm
 have h3 := aft_inv h1 h
 refine ⟨⟨h3, ?_⟩, ?_⟩ <;>
 ·unfold aft at h
  unfold Inv at h1
  repeat' split at h
  all_goals first | (cases h; done) | (have e := Option.some.inj h; subst e; simp only; omega) | (have e := Option.some.inj h; subst e; simp)
def mkR (m : St) (k v : Int) : Int × Int × Int × Int × Int := if machB m = true then (match aft m k v with
 | some x => (x.j, x.d, x.f, x.e, 0)
 | none => (0, 0, 0, 0, 5)) else (0, 0, 0, 0, 1)
theorem machInv {m : St} (h : machB m = true) : Inv m := by
 unfold machB at h
 simp only [decide_eq_true_eq] at h
 exact h.1
theorem implMk (m : St) (k v : Int) : Ev (fun q => impl_MakeEntry.f q m.j m.d m.f m.e k v) (mkR m k v) := by
 unfold impl_MakeEntry.f mkR
 rw [implMach]
 simp only [Option.bind_some]
 by_cases h : machB m = true
 ·rw [if_pos h]
  refine Ev.congr (fun q => if_pos h) ?_
  cases ha : aft m k v with
  | some x =>
   refine Ev.go (implAfter_ev (machInv h) ha) ?_
   simp only [pk, if_true]
   exact Ev.const rfl
  | none =>
   obtain ⟨x, hx⟩ := implAfter_no (machInv h) ha
   refine Ev.go hx ?_
   simp only [pk, Bool.false_eq_true, if_false]
   exact Ev.const rfl
 ·rw [if_neg h]
  exact Ev.congr (fun q => if_neg h) (Ev.const rfl)
theorem specMk (m : St) (k v : Int) : spec_MakeEntry.f m.j m.d m.f m.e k v = some (mkR m k v) := by
 unfold spec_MakeEntry.f mkR
 rw [specMach]
 simp only [Option.bind_some]
 by_cases h : machB m = true
 ·rw [if_pos h, if_pos h]
  rcases specMake_f m k v (machInv h) with ⟨x, h1, h2⟩ | ⟨h1, x, h2⟩
  ·rw [h1, h2]; simp only [Option.bind_some, pk, if_true]
  ·rw [h1, h2]; simp only [Option.bind_some, pk, Bool.false_eq_true, if_false]
 ·rw [if_neg h, if_neg h]
theorem implJ2_ev (l : List UInt8) (h : ¬ l.length > 8000) : Ev (fun k => impl_RecoverJournal.f k (mkB l)) ((recAll l).1, 0) := by
 unfold impl_RecoverJournal.f
 rw [mkB_size]
 exact Ev.congr (fun k => if_neg (by omega)) (Ev.go (implRec_ev l (by omega)) (Ev.const rfl))
theorem implRJ (l : List UInt8) : Ev (fun k => impl_RunJournal.f k (recAll l).1) ((recAll l).2.j, (recAll l).2.d, (recAll l).2.f, (recAll l).2.e, 0) := by
 have hlen : (recAll l).1.length ≤ 200 := recR_len _ _ _ _ rfl (by omega)
 unfold impl_RunJournal.f
 have hr : runR (recAll l).1 ⟨0, 0, 0, 0⟩ = some (recAll l).2 := recR_run _ _ _ _ _ rfl
 have := implRunA_ev (recAll l).1 (by omega)
 unfold runT at this
 rw [hr] at this
 refine Ev.go this ?_
 simp only [pk]
 exact Ev.congr (fun k => if_pos (by simp; omega)) (Ev.const rfl)
theorem resumed_j1 (l : List UInt8) (c : Int) : Ev (fun k => laws_FnResumed.j1 k (mkB l) c (resume l c).1 (resume l c).2.1 (resume l c).2.2 false) true := by
 by_cases h0 : (resume l c).2.2 = 0
 ·have hl : ¬ l.length > 8000 := by
   intro h
   unfold resume at h0
   rw [if_pos h] at h0
   cases h0
  refine Ev.step (f := fun k => (impl_RecoverJournal.f k (mkB l)).bind fun t => (impl_RunJournal.f k t.1).bind fun u => if t.2 = 0 then (if u.2.2.2.2 = 0 then (if u.1 = (resume l c).1 then some ((resume l c).2.1 == mx 0 (wrap64 (c - u.2.1))) else some false) else some false) else some false) (fun k => ?_) (Ev.go (implJ2_ev l hl) (Ev.go (implRJ l) ?_))
  ·simp only [laws_FnResumed.j1]
   rw [if_neg (by simp), if_pos h0]
  ·have e : resume l c = ((recAll l).2.j, mx 0 (wrap64 (c - (recAll l).2.d)), 0) := by
    unfold resume at h0 ⊢
    rw [if_neg hl] at h0 ⊢
    split at h0
    ·rename_i hc
     rw [if_pos hc]
     split at h0
     ·cases h0
     ·rename_i hj
      rw [if_neg hj]
    ·cases h0
   rw [e]
   simp only [if_true, beq_self_eq_true]
   exact Ev.const rfl
 ·refine Ev.step (f := fun _ => some true) (fun k => ?_) (Ev.const rfl)
  simp only [laws_FnResumed.j1]
  rw [if_neg (by simp), if_neg h0]
theorem FnResumed : laws_FnResumed.Pure := by
 intro C _ hC hw
 refine Ev.rounds (g := fun k => laws_FnResumed.f k C) ?_
 unfold laws_FnResumed.f laws_big.f
 simp only [Option.bind_some, decide_eq_true_eq]
 by_cases hbig : (C.length : Int) > 4096
 ·exact Ev.congr (fun k => if_pos hbig) (Ev.const rfl)
 refine Ev.congr (fun k => if_neg hbig) ?_
 have hb : ∀ x ∈ C, 0 ≤ x ∧ x ≤ 255 := fun x hx => byteI (hw x hx)
 obtain ⟨⟨t, c⟩, h1, u, hu, hul⟩ := drawResume_tot C (by omega) hb
 simp only at hu
 subst hu
 obtain ⟨⟨x0, x1, x2, x3, x4, x5⟩, h2, _⟩ := drawMake_tot C (by omega) hb
 refine Ev.go h1 ?_
 refine Ev.go (implRes_ev u c) (Ev.go (specRes_ev u c) (Ev.go h2 (Ev.go (implMk ⟨x0, x1, x2, x3⟩ x4 x5) ?_)))
 have hs := specMk ⟨x0, x1, x2, x3⟩ x4 x5
 simp only at hs ⊢
 rw [hs]
 have hi := implMach ⟨x0, x1, x2, x3⟩
 have hp := specMach ⟨x0, x1, x2, x3⟩
 simp only at hi hp
 simp only [Option.bind_some, if_true, beq_self_eq_true, Bool.not_true, Bool.or_self, Bool.false_eq_true, if_false, hi, hp, bne_self_eq_false]
 generalize hM : mkR ⟨x0, x1, x2, x3⟩ x4 x5 = M
 by_cases h0 : M.2.2.2.2 = 0
 ·have hx : ∃ m' : St, machB m' = true ∧ x3 ≤ m'.e ∧ M = (m'.j, m'.d, m'.f, m'.e, 0) := by
   rw [← hM] at h0 ⊢
   unfold mkR at h0 ⊢
   split at h0
   ·rename_i hm
    cases ha : aft ⟨x0, x1, x2, x3⟩ x4 x5 with
    | none => rw [ha] at h0; cases h0
    | some m' =>
     obtain ⟨g1, g2⟩ := aft_mach hm ha
     exact ⟨m', g1, g2, by rw [if_pos hm]⟩
   ·cases h0
  obtain ⟨m', g1, g2, g3⟩ := hx
  rw [g3]
  have hi' := implMach m'
  refine Ev.step (f := fun k => laws_FnResumed.j1 k (mkB u) c (resume u c).1 (resume u c).2.1 (resume u c).2.2 false) (fun k => ?_) (resumed_j1 u c)
  simp only [laws_FnResumed.j0]
  rw [if_neg (by simp), if_pos trivial, hi', g1]
  simp only [Option.bind_some, if_true]
  rw [decide_eq_false (by omega)]
 ·refine Ev.step (f := fun k => laws_FnResumed.j1 k (mkB u) c (resume u c).1 (resume u c).2.1 (resume u c).2.2 false) (fun k => ?_) (resumed_j1 u c)
  simp only [laws_FnResumed.j0]
  rw [if_neg (by simp), if_neg h0]

end Go.Proofs.YthfmhfgckhkgjaaDoor.Pure
