/- Plain laws for CounterCounts: plus and minus pulses are counted without loss while the queue is served; no program in sight. -/
import Derived.Test.YtebnodldfddbnaaCnt17
namespace Go.Proofs.Ytebnodldfddbnaa.Cnt
open Go.RowKit Go.Proofs.Ytebnodldfddbnaa.PAll Go.Proofs.YtebnodldfddbnaaW.PrintWords Go.Proofs.YtebnodldfddbnaaW.PrintLast Go.Proofs.YtebnodldfddbnaaW.PrintMore Go.Proofs.Ytebnodldfddbnaa.Plain Go.Proofs.Ytebnodldfddbnaa.One
set_option linter.unusedVariables false
set_option linter.unusedSimpArgs false
/-- A plus (or minus) pulse moves the value and the signal by one unit. -/
theorem ap_plus (n : Int) (h0 : 0 ≤ n) (h1 : n < 32768) : valI (apN n 1) + 16384 * apS n 1 = valI n + 1 ∧ -1 ≤ apS n 1 ∧ apS n 1 ≤ 1 := by
  have e1 : apN n 1 = if n = 16383 then 0 else addI n 1 := by unfold apN; rw [if_pos rfl]
  have e2 : apS n 1 = if n = 16383 then 1 else 0 := by unfold apS; rw [if_pos rfl]
  rw [e1, e2]
  by_cases c : n = 16383
  · subst c; decide
  · rw [if_neg c, if_neg c]
    unfold addI valI
    refine ⟨?_, by decide, by decide⟩
    rw [show n % 32768 = n by omega, show (1 : Int) % 32768 = 1 by decide]
    split
    · split <;> split <;> omega
    · split <;> split <;> omega
theorem ap_minus (n : Int) (h0 : 0 ≤ n) (h1 : n < 32768) : valI (apN n 2) + 16384 * apS n 2 = valI n - 1 ∧ -1 ≤ apS n 2 ∧ apS n 2 ≤ 1 := by
  have e1 : apN n 2 = if n = 16384 then 32767 else addI n 32766 := by unfold apN; rw [if_neg (by decide), if_pos rfl]
  have e2 : apS n 2 = if n = 16384 then -1 else 0 := by unfold apS; rw [if_neg (by decide), if_pos rfl]
  rw [e1, e2]
  by_cases c : n = 16384
  · subst c; decide
  · rw [if_neg c, if_neg c]
    unfold addI valI
    refine ⟨?_, by decide, by decide⟩
    rw [show n % 32768 = n by omega, show (32766 : Int) % 32768 = 32766 by decide]
    split
    · split <;> split <;> omega
    · split <;> split <;> omega
theorem valI_mod (x : Int) : valI (x % 32768) = valI x := by unfold valI; rw [show x % 32768 % 32768 = x % 32768 by omega]
def K12 (l : List S26) : Prop := ∀ p ∈ l, p.f1 = 1 ∨ p.f1 = 2
/-- While pulses are served: what is counted and what is left are what was, with the whole queue. -/
def CNT (W : Int → Int) (Q l : List S26) (er sg : List Int) : Prop :=
  VQ l ∧ K12 l ∧ (∀ j, 20 ≤ j → j < 48 → valI (rd er j) + 16384 * rd sg j + tot j l = valI (W j) + tot j Q) ∧ (∀ j, 0 ≤ j → j < 48 → 0 ≤ rd er j ∧ rd er j < 65536) ∧ ∀ j, 0 ≤ j → j < 48 → -64 ≤ rd sg j - l.length ∧ rd sg j + l.length ≤ 64
theorem CNT_start {W : Int → Int} {Q : List S26} {er : List Int} (hv : VQ Q) (hk : K12 Q) (hl : Q.length ≤ 64) (he : ∀ j, 20 ≤ j → j < 48 → rd er j = W j % 32768) (hr : ∀ j, 0 ≤ j → j < 48 → 0 ≤ rd er j ∧ rd er j < 65536) : CNT W Q Q er (List.replicate (Int.toNat 48) 0) :=
  ⟨hv, hk, fun j h1 h2 => by rw [he j h1 h2, rd_rep, valI_mod]; omega, hr, fun j h1 h2 => by rw [rd_rep]; omega⟩
theorem CNT_next {W : Int → Int} {Q l : List S26} {er sg : List Int} (h : CNT W Q l er sg) (hp : 0 < l.length) (he : er.length = 48) (hs : sg.length = 48) :
    sE l er = 0 ∧ (20 ≤ sA l er ∧ sA l er ≤ 47) ∧ (sL l er).length + 1 = l.length ∧ (-1 ≤ sS l er ∧ sS l er ≤ 1) ∧ CNT W Q (sL l er) (er.set (sA l er).toNat (sW l er)) (sg.set (sA l er).toNat (rd sg (sA l er) + sS l er)) := by
  obtain ⟨hv, hk, hc, hr, hb⟩ := h
  obtain ⟨a, b, e, eL1, e0, eA, eW, eS, -, -⟩ := serve_ok_all l er hp hv he
  obtain ⟨v1, v2, v3⟩ := VQ_serve l er hp hv he
  have hm : pS l ∈ l := by have q := List.mem_append_right a (List.mem_cons_self (a := pS l) (l := b)); rwa [← e] at q
  have hv0 := hv _ hm
  have hk0 := hk _ hm
  have hra := hr (sA l er) (by rw [eA]; omega) (by rw [eA]; omega)
  rw [eA] at hra
  have ha : valI (sW l er) + 16384 * sS l er = valI (rd er (pS l).f0) + one (pS l).f0 (pS l) ∧ -1 ≤ sS l er ∧ sS l er ≤ 1 := by
    rw [eW, eS]
    unfold one
    rw [if_pos rfl]
    rcases hk0 with k1 | k2
    · rw [k1, if_pos rfl]
      have := ap_plus (rd er (pS l).f0 % 32768) (by omega) (by omega)
      rw [valI_mod] at this
      exact this
    · rw [k2, if_neg (by decide), if_pos rfl]
      have := ap_minus (rd er (pS l).f0 % 32768) (by omega) (by omega)
      rw [valI_mod] at this
      exact this
  have hwr : 0 ≤ sW l er ∧ sW l er < 65536 := by
    rw [eW]
    have := apN_range (rd er (pS l).f0 % 32768) (pS l).f1 (by omega) (by omega)
    omega
  refine ⟨e0, by rw [eA]; omega, v2, ha.2, v1, fun p hp' => hk p (by rw [e]; rw [eL1] at hp'; rcases List.mem_append.1 hp' with q | q; exact List.mem_append_left _ q; exact List.mem_append_right _ (List.mem_cons_of_mem _ q)), fun j h1 h2 => ?_, fun j h1 h2 => ?_, fun j h1 h2 => ?_⟩
  · have hj := hc j h1 h2
    have ht := tot_serve l er hp hv he j
    rw [Own.rd_set he (sA l er) (sW l er) (by omega) (by omega) j (by omega), Own.rd_set hs (sA l er) _ (by omega) (by omega) j (by omega)]
    by_cases q : j = sA l er
    · rw [if_pos q, if_pos q]
      rw [q, eA] at hj ht ⊢
      have := ha.1
      omega
    · rw [if_neg q, if_neg q]
      have : one j (pS l) = 0 := by unfold one; rw [if_neg (fun x => q (by rw [eA]; exact x.symm))]
      omega
  · rw [Own.rd_set he (sA l er) (sW l er) (by omega) (by omega) j h1]
    split
    · exact hwr
    · exact hr j h1 h2
  · have hj := hb j h1 h2
    rw [Own.rd_set hs (sA l er) _ (by omega) (by omega) j h1]
    split
    · rename_i q
      rw [q] at hj
      have := ha.2
      omega
    · omega
theorem CNT_end {W : Int → Int} {Q l : List S26} {er sg : List Int} (h : CNT W Q l er sg) (hl : l.length = 0) (j : Int) (h1 : 20 ≤ j) (h2 : j < 48) : valI (rd er j) + 16384 * rd sg j = valI (W j) + tot j Q ∧ -64 ≤ rd sg j ∧ rd sg j ≤ 64 := by
  have hj := h.2.2.1 j h1 h2
  have hb := h.2.2.2.2 j (by omega) h2
  rw [List.eq_nil_of_length_eq_zero hl] at hj
  have : tot j ([] : List S26) = 0 := rfl
  omega
end Go.Proofs.Ytebnodldfddbnaa.Cnt
