/- The contracts of the reference's All and Bad and of the comparisons of lists; no condition but the reach and the kinds. -/
import Derived.Test.YtjinijaegfolbaaL02d
namespace Go.Proofs.Ytjinijaegfolbaa.L02
open Go.RowKit Go.Proofs.Ytjinijaegfolbaa.PAll Go.Proofs.YtjinijaegfolbaaW.PrintWords Go.Proofs.YtjinijaegfolbaaW.PrintLast Go.Proofs.YtjinijaegfolbaaW.PrintMore Go.Proofs.Ytjinijaegfolbaa.Plain
set_option linter.unusedVariables false
set_option linter.unusedSimpArgs false
theorem refPut_any (a : Nat) (ha : a < 65536) (k : Nat) (hk : 20 ≤ k) : periluneref02_Put.f k (a : Int) = some ((putN a : Nat) : Int) :=
  at_rounds (g := fun k => periluneref02_Put.f k (a : Int)) (periluneref02_Put.mono _) hk (refPut_eq a ha)
theorem refGet_any (a : Nat) (ha : a < 65536) (k : Nat) (hk : 20 ≤ k) : periluneref02_Get.f k (a : Int) = some (((a % 32768 : Nat) : Int), obits a 16) :=
  at_rounds (g := fun k => periluneref02_Get.f k (a : Int)) (periluneref02_Get.mono _) hk (refGet_eq a ha)
theorem rd_nat (l : List Int) (hb : ∀ x ∈ l, (Lit.int .u16 x).wf = true) (i : Int) (h0 : 0 ≤ i) (h : i < (l.length : Int)) : ∃ n : Nat, rd l i = n ∧ n < 65536 := by
  have := rd_range l hb i h0 h
  exact ⟨(rd l i).toNat, by omega, by omega⟩
theorem refAll_loop (l : List Int) (hb : ∀ x ∈ l, (Lit.int .u16 x).wf = true) (hl : l.length ≤ 70368744177663) : ∀ d (i : Nat) k, i + d = l.length → d + 30 < k →
    periluneref02_All.l0 k l ((l.take i).map putI) (i : Int) = some (l.map putI)
  | 0, i, k, h, hk => by
    obtain ⟨k, rfl⟩ : ∃ m, k = m + 1 := ⟨k - 1, by omega⟩
    simp only [periluneref02_All.l0]
    rw [if_neg (by omega), List.take_of_length_le (by omega)]
  | d + 1, i, k, h, hk => by
    obtain ⟨k, rfl⟩ : ∃ m, k = m + 1 := ⟨k - 1, by omega⟩
    have hw : wrap64 ((i : Int) + 1) = ((i + 1 : Nat) : Int) := by rw [w64 (by omega) (by omega)]; omega
    have hi : (i : Int) < (l.length : Int) := by omega
    obtain ⟨n, hn, hn2⟩ := rd_nat l hb i (by omega) hi
    have ht := take_next l i (by omega) hi
    rw [show ((i : Int) + 1).toNat = i + 1 by omega, Int.toNat_natCast] at ht
    simp only [periluneref02_All.l0]
    rw [if_pos hi, if_pos (by omega), hn, refPut_any n hn2 k (by omega)]
    simp only [Option.bind_some]
    rw [if_pos (by rw [List.length_map, List.length_take]; omega), hw]
    have := refAll_loop l hb hl d (i + 1) k (by omega) (by omega)
    rw [ht, List.map_append, hn] at this
    exact this
theorem refAll_c (A : Option Addr) (c : Nat) (l : List Int) (w : World) (hr : Kd.C (Kd.int .u16) w A l.length l) (hc : l.length ≤ c) (hl : l.length * 2 ≤ 140737488351232) (hb : ∀ x ∈ l, (Lit.int .u16 x).wf = true) :
    Calls Try.prog 22 #[.slice A l.length c] w fun e w' => ∃ v, e = .returned v ∧ Kd.R (Kd.int .u16) 24 w' w.heap.size (fun _ => True) v (l.map putI) ∧ Below w.heap.size w w' :=
  periluneref02_All.calls (l.length + 40) A c l _ w hr hc (by unfold periluneref02_All.f; exact refAll_loop l hb (by omega) l.length 0 _ (by omega) (by omega))
theorem refBad_loop (l : List Int) (hb : ∀ x ∈ l, (Lit.int .u16 x).wf = true) (hl : l.length ≤ 17592186044415) : ∀ d (i : Nat) k, i + d = l.length → d + 30 < k →
    periluneref02_Bad.l0 k l (bads l i) (i : Int) = some (bads l l.length)
  | 0, i, k, h, hk => by
    obtain ⟨k, rfl⟩ : ∃ m, k = m + 1 := ⟨k - 1, by omega⟩
    simp only [periluneref02_Bad.l0]
    obtain rfl : i = l.length := by omega
    rw [if_neg (by omega)]
  | d + 1, i, k, h, hk => by
    obtain ⟨k, rfl⟩ : ∃ m, k = m + 1 := ⟨k - 1, by omega⟩
    have hw : wrap64 ((i : Int) + 1) = ((i + 1 : Nat) : Int) := by rw [w64 (by omega) (by omega)]; omega
    have hi : (i : Int) < (l.length : Int) := by omega
    obtain ⟨n, hn, hn2⟩ := rd_nat l hb i (by omega) hi
    have ho : ob16 (rd l (i : Int)) = obits n 16 := by rw [hn]; unfold ob16; rw [Int.toNat_natCast]
    have hlen := bads_length l i
    have ih := refBad_loop l hb hl d (i + 1) k (by omega) (by omega)
    simp only [periluneref02_Bad.l0]
    rw [if_pos hi, if_pos (by omega), hn, refGet_any n hn2 k (by omega)]
    simp only [Option.bind_some]
    cases hx : obits n 16 with
    | true =>
      rw [if_pos rfl, hw]
      rw [bads_no l i (by rw [ho, hx])] at ih
      exact ih
    | false =>
      rw [if_neg (by decide), if_pos (by omega), hw]
      rw [bads_yes l i (by rw [ho, hx])] at ih
      exact ih
theorem refBad_c (A : Option Addr) (c : Nat) (l : List Int) (w : World) (hr : Kd.C (Kd.int .u16) w A l.length l) (hc : l.length ≤ c) (hl : l.length * 8 ≤ 140737488351232) (hb : ∀ x ∈ l, (Lit.int .u16 x).wf = true) :
    Calls Try.prog 24 #[.slice A l.length c] w fun e w' => ∃ v, e = .returned v ∧ Kd.R (Kd.int .i64) 3 w' w.heap.size (fun _ => True) v (bads l l.length) ∧ Below w.heap.size w w' :=
  periluneref02_Bad.calls (l.length + 40) A c l _ w hr hc (by unfold periluneref02_Bad.f; exact refBad_loop l hb (by omega) l.length 0 _ (by omega) (by omega))
theorem Same_loop (l : List Int) (hl : l.length ≤ 140737488351232) : ∀ d (i : Nat) k, i + d = l.length → 2 * d + 3 < k → periluneref02_Same.l0 k l l (i : Int) = some true
  | 0, i, k, h, hk => by
    obtain ⟨k, rfl⟩ : ∃ m, k = m + 2 := ⟨k - 2, by omega⟩
    simp only [periluneref02_Same.l0, periluneref02_Same.j1]
    rw [if_neg (by omega), if_neg (by decide), beq_self_eq_true]
  | d + 1, i, k, h, hk => by
    obtain ⟨k, rfl⟩ : ∃ m, k = m + 2 := ⟨k - 2, by omega⟩
    have hw : wrap64 ((i : Int) + 1) = ((i + 1 : Nat) : Int) := by rw [w64 (by omega) (by omega)]; omega
    have hi : (i : Int) < (l.length : Int) := by omega
    simp only [periluneref02_Same.l0, periluneref02_Same.j1]
    rw [if_pos hi, decide_eq_true hi, if_pos rfl, if_pos (by omega), if_pos hi, if_pos hi, if_pos trivial, hw]
    exact Same_loop l hl d (i + 1) k (by omega) (by omega)
theorem Same_c (A0 : Option Addr) (c0 : Nat) (A1 : Option Addr) (c1 : Nat) (l : List Int) (n0 n1 : Nat) (e0 : l.length = n0) (e1 : l.length = n1) (w : World) (hr0 : Kd.C (Kd.int .u16) w A0 l.length l) (hc0 : l.length ≤ c0) (hr1 : Kd.C (Kd.int .u16) w A1 l.length l) (hc1 : l.length ≤ c1) (hl : l.length ≤ 140737488351232) :
    Calls Try.prog 21 #[.slice A0 n0 c0, .slice A1 n1 c1] w fun e w' => e = .returned (.bool true) ∧ Drawn0 w w' := by
  subst e0; subst e1
  exact periluneref02_Same.calls (2 * l.length + 10) A0 c0 l A1 c1 l true w hr0 hc0 hr1 hc1 (by unfold periluneref02_Same.f; exact Same_loop l hl l.length 0 _ (by omega) (by omega))
theorem Ints_loop (l : List Int) (hl : l.length ≤ 140737488351232) : ∀ d (i : Nat) k, i + d = l.length → 2 * d + 3 < k → periluneref02_Ints.l0 k l l (i : Int) = some true
  | 0, i, k, h, hk => by
    obtain ⟨k, rfl⟩ : ∃ m, k = m + 2 := ⟨k - 2, by omega⟩
    simp only [periluneref02_Ints.l0, periluneref02_Ints.j1]
    rw [if_neg (by omega), if_neg (by decide), beq_self_eq_true]
  | d + 1, i, k, h, hk => by
    obtain ⟨k, rfl⟩ : ∃ m, k = m + 2 := ⟨k - 2, by omega⟩
    have hw : wrap64 ((i : Int) + 1) = ((i + 1 : Nat) : Int) := by rw [w64 (by omega) (by omega)]; omega
    have hi : (i : Int) < (l.length : Int) := by omega
    simp only [periluneref02_Ints.l0, periluneref02_Ints.j1]
    rw [if_pos hi, decide_eq_true hi, if_pos rfl, if_pos (by omega), if_pos hi, if_pos hi, if_pos trivial, hw]
    exact Ints_loop l hl d (i + 1) k (by omega) (by omega)
theorem Ints_c (A0 : Option Addr) (c0 : Nat) (A1 : Option Addr) (c1 : Nat) (l : List Int) (n0 n1 : Nat) (e0 : l.length = n0) (e1 : l.length = n1) (w : World) (hr0 : Kd.C (Kd.int .i64) w A0 l.length l) (hc0 : l.length ≤ c0) (hr1 : Kd.C (Kd.int .i64) w A1 l.length l) (hc1 : l.length ≤ c1) (hl : l.length ≤ 140737488351232) :
    Calls Try.prog 23 #[.slice A0 n0 c0, .slice A1 n1 c1] w fun e w' => e = .returned (.bool true) ∧ Drawn0 w w' := by
  subst e0; subst e1
  exact periluneref02_Ints.calls (2 * l.length + 10) A0 c0 l A1 c1 l true w hr0 hc0 hr1 hc1 (by unfold periluneref02_Ints.f; exact Ints_loop l hl l.length 0 _ (by omega) (by omega))
theorem Words_loop (l : List Int) (hl : l.length ≤ 140737488351232) : ∀ d (i : Nat) k, i + d = l.length → 2 * d + 3 < k → periluneref02_Words.l0 k l l (i : Int) = some true
  | 0, i, k, h, hk => by
    obtain ⟨k, rfl⟩ : ∃ m, k = m + 2 := ⟨k - 2, by omega⟩
    simp only [periluneref02_Words.l0, periluneref02_Words.j1]
    rw [if_neg (by omega), if_neg (by decide), beq_self_eq_true]
  | d + 1, i, k, h, hk => by
    obtain ⟨k, rfl⟩ : ∃ m, k = m + 2 := ⟨k - 2, by omega⟩
    have hw : wrap64 ((i : Int) + 1) = ((i + 1 : Nat) : Int) := by rw [w64 (by omega) (by omega)]; omega
    have hi : (i : Int) < (l.length : Int) := by omega
    simp only [periluneref02_Words.l0, periluneref02_Words.j1]
    rw [if_pos hi, decide_eq_true hi, if_pos rfl, if_pos (by omega), if_pos hi, if_pos hi, if_pos trivial, hw]
    exact Words_loop l hl d (i + 1) k (by omega) (by omega)
theorem Words_c (A0 : Option Addr) (c0 : Nat) (A1 : Option Addr) (c1 : Nat) (l : List Int) (n0 n1 : Nat) (e0 : l.length = n0) (e1 : l.length = n1) (w : World) (hr0 : Kd.C (Kd.int .u16) w A0 l.length l) (hc0 : l.length ≤ c0) (hr1 : Kd.C (Kd.int .u16) w A1 l.length l) (hc1 : l.length ≤ c1) (hl : l.length ≤ 140737488351232) :
    Calls Try.prog 25 #[.slice A0 n0 c0, .slice A1 n1 c1] w fun e w' => e = .returned (.bool true) ∧ Drawn0 w w' := by
  subst e0; subst e1
  exact periluneref02_Words.calls (2 * l.length + 10) A0 c0 l A1 c1 l true w hr0 hc0 hr1 hc1 (by unfold periluneref02_Words.f; exact Words_loop l hl l.length 0 _ (by omega) (by omega))
end Go.Proofs.Ytjinijaegfolbaa.L02
