/- What serving does to a queue of pulses: order, and what is counted. Plain lists; no program. -/
import Derived.Test.YtebnodldfddbnaaCnt13
namespace Go.Proofs.Ytebnodldfddbnaa.Cnt
open Go.RowKit Go.Proofs.Ytebnodldfddbnaa.PAll Go.Proofs.YtebnodldfddbnaaW.PrintWords Go.Proofs.YtebnodldfddbnaaW.PrintLast Go.Proofs.YtebnodldfddbnaaW.PrintMore Go.Proofs.Ytebnodldfddbnaa.Plain Go.Proofs.Ytebnodldfddbnaa.One Go.Proofs.Ytebnodldfddbnaa.Lit
set_option linter.unusedVariables false
set_option linter.unusedSimpArgs false
/-- The word of counter i after the pulses of a list. -/
def fo (i : Int) : Int → List S26 → Int
  | x, [] => x
  | x, p :: l => fo i (if p.f0 = i then apN (x % 32768) p.f1 else x) l
theorem fo_app (i : Int) : ∀ (l m : List S26) (x : Int), fo i x (l ++ m) = fo i (fo i x l) m
  | [], _, _ => rfl
  | p :: l, m, x => by simp only [List.cons_append, fo]; exact fo_app i l m _
theorem fo_none (i : Int) : ∀ (l : List S26) (x : Int), (∀ p ∈ l, p.f0 ≠ i) → fo i x l = x
  | [], _, _ => rfl
  | p :: l, x, h => by
    simp only [fo]
    rw [if_neg (h p (by simp))]
    exact fo_none i l x fun q hq => h q (List.mem_cons_of_mem _ hq)
theorem nx_min (l : List S26) : ∀ i : Nat, ∀ k : Nat, k < i → (rd_T26 l (nxT l i)).f0 ≤ (rd_T26 l (k : Int)).f0
  | 0, k, h => absurd h (Nat.not_lt_zero k)
  | i + 1, k, h => by
    have ih := nx_min l i
    simp only [nxT]
    by_cases c : (rd_T26 l (i : Int)).f0 < (rd_T26 l (nxT l i)).f0
    · rw [if_pos c]
      by_cases e : k = i
      · subst e; exact Int.le_refl _
      · have := ih k (by omega); omega
    · rw [if_neg c]
      by_cases e : k = i
      · subst e; omega
      · exact ih k (by omega)
theorem nx_first (l : List S26) : ∀ i : Nat, ∀ k : Nat, (k : Int) < nxT l i → (rd_T26 l (nxT l i)).f0 < (rd_T26 l (k : Int)).f0
  | 0, k, h => by simp only [nxT] at h; omega
  | i + 1, k, h => by
    simp only [nxT] at h ⊢
    by_cases c : (rd_T26 l (i : Int)).f0 < (rd_T26 l (nxT l i)).f0
    · rw [if_pos c] at h ⊢
      have := nx_min l i k (by omega)
      omega
    · rw [if_neg c] at h ⊢
      exact nx_first l i k h
theorem rd_nat (l : List S26) (k : Nat) (h : k < l.length) : rd_T26 l (k : Int) = l[k] := by
  unfold rd_T26; rw [Int.toNat_natCast, List.getD_eq_getElem?_getD, List.getElem?_eq_getElem h]; rfl
theorem serve_split (l : List S26) (h : 0 < l.length) : ∃ a b, l = a ++ pS l :: b ∧ l.take (nxT l l.length).toNat ++ l.drop (nxT l l.length + 1).toNat = a ++ b ∧ (∀ p ∈ a, (pS l).f0 < p.f0) ∧ (∀ p ∈ l, (pS l).f0 ≤ p.f0) := by
  obtain ⟨n0, n1⟩ := nxT_range l l.length (Nat.le_refl _)
  have n1 := n1 h
  have hf := nx_first l l.length
  have hm := nx_min l l.length
  have ep : rd_T26 l (nxT l l.length) = pS l := rfl
  rw [ep] at hf hm
  obtain ⟨j, hj⟩ := Int.eq_ofNat_of_zero_le n0
  rw [hj] at ep n1 hf ⊢
  have hjl : j < l.length := by omega
  rw [rd_nat l j hjl] at ep
  refine ⟨l.take j, l.drop (j + 1), ?_, ?_, ?_, ?_⟩
  · rw [← ep, ← List.drop_eq_getElem_cons hjl, List.take_append_drop]
  · rw [Int.toNat_natCast, show ((j : Int) + 1).toNat = j + 1 by omega]
  · intro p hp
    obtain ⟨k, hk, rfl⟩ := List.mem_iff_getElem.mp hp
    rw [List.length_take] at hk
    have := hf k (by omega)
    rw [rd_nat l k (by omega)] at this
    rw [List.getElem_take]; exact this
  · intro p hp
    obtain ⟨k, hk, rfl⟩ := List.mem_iff_getElem.mp hp
    have := hm k hk
    rw [rd_nat l k hk] at this
    exact this
/-- A queue whose pulses are known and address the 28 counters. -/
def VQ (l : List S26) : Prop := ∀ p ∈ l, 20 ≤ p.f0 ∧ p.f0 ≤ 47 ∧ 1 ≤ p.f1 ∧ p.f1 ≤ 7
theorem rd_set (er : List Int) (a x : Int) (h0 : 0 ≤ a) (h1 : a < (er.length : Int)) (i : Int) (i0 : 0 ≤ i) : rd (er.set a.toNat x) i = if i = a then x else rd er i := by
  unfold rd
  rw [List.getD_eq_getElem?_getD, List.getD_eq_getElem?_getD, List.getElem?_set]
  by_cases e : i = a
  · subst e; rw [if_pos rfl, if_pos (by omega), if_pos rfl]; rfl
  · rw [if_neg (by omega), if_neg e]
theorem serve_ok_all (l : List S26) (er : List Int) (h : 0 < l.length) (hv : VQ l) (he : er.length = 48) : ∃ a b, l = a ++ pS l :: b ∧ sL l er = a ++ b ∧ sE l er = 0 ∧ sA l er = (pS l).f0 ∧ sW l er = apN (rd er (pS l).f0 % 32768) (pS l).f1 ∧ sS l er = apS (rd er (pS l).f0 % 32768) (pS l).f1 ∧ (∀ p ∈ a, (pS l).f0 < p.f0) ∧ (∀ p ∈ l, (pS l).f0 ≤ p.f0) := by
  obtain ⟨a, b, e, e2, h1, h2⟩ := serve_split l h
  have hm : pS l ∈ l := by have q := List.mem_append_right a (List.mem_cons_self (a := pS l) (l := b)); rwa [← e] at q
  have hp := hv _ hm
  have e0 : sE l er = 0 := by unfold sE apE; rw [if_neg (by omega), if_neg (by omega), if_pos ⟨hp.2.2.1, hp.2.2.2⟩]
  refine ⟨a, b, e, ?_, e0, ?_, ?_, ?_, h1, h2⟩
  · unfold sL; rw [if_pos e0, e2]
  · unfold sA; rw [if_pos e0]
  · unfold sW; rw [if_pos e0]
  · unfold sS; rw [if_pos e0]
theorem fo_serve (l : List S26) (er : List Int) (h : 0 < l.length) (hv : VQ l) (he : er.length = 48) (i : Int) (i0 : 0 ≤ i) : fo i (rd (er.set (sA l er).toNat (sW l er)) i) (sL l er) = fo i (rd er i) l := by
  obtain ⟨a, b, e, eL, -, eA, eW, -, h1, -⟩ := serve_ok_all l er h hv he
  have hm : pS l ∈ l := by have q := List.mem_append_right a (List.mem_cons_self (a := pS l) (l := b)); rwa [← e] at q
  have hp := hv _ hm
  rw [eL, eA, eW, rd_set er _ _ (by omega) (by omega) i i0, fo_app]
  conv => rhs; rw [e, fo_app, fo]
  by_cases c : i = (pS l).f0
  · have ha : ∀ p ∈ a, p.f0 ≠ i := fun p hp => by have := h1 p hp; omega
    rw [if_pos c, if_pos c.symm, fo_none i a _ ha, fo_none i a _ ha, c]
  · rw [if_neg c, if_neg (fun q => c q.symm)]
theorem one_at (a : Int) (p : S26) : tot a [p] = one a p := by simp [tot]
theorem tot_serve (l : List S26) (er : List Int) (h : 0 < l.length) (hv : VQ l) (he : er.length = 48) (i : Int) : tot i l = tot i (sL l er) + one i (pS l) := by
  obtain ⟨a, b, e, eL, -⟩ := serve_ok_all l er h hv he
  have := congrArg (tot i) e
  rw [this, eL, tot_app, tot_app, show pS l :: b = [pS l] ++ b from rfl, tot_app, one_at]; omega
theorem VQ_serve (l : List S26) (er : List Int) (h : 0 < l.length) (hv : VQ l) (he : er.length = 48) : VQ (sL l er) ∧ (sL l er).length + 1 = l.length ∧ ∀ p ∈ sL l er, (sA l er) ≤ p.f0 := by
  obtain ⟨a, b, e, eL, -, eA, -, -, -, h2⟩ := serve_ok_all l er h hv he
  have hs : ∀ p ∈ sL l er, p ∈ l := by intro p hp; rw [eL] at hp; rw [e]; simp only [List.mem_append, List.mem_cons] at hp ⊢; rcases hp with q | q; exact Or.inl q; exact Or.inr (Or.inr q)
  refine ⟨fun p hp => hv p (hs p hp), ?_, fun p hp => by rw [eA]; exact h2 p (hs p hp)⟩
  have := congrArg List.length e
  rw [List.length_append, List.length_cons] at this
  rw [eL, List.length_append]; omega
end Go.Proofs.Ytebnodldfddbnaa.Cnt
