/- Chapter 5: a part of its proof (cut by program out of OpensA); no condition. -/
import Derived.OpenShut
import Derived.Test.YthfobpkdloejfaaGreatDb45
section
namespace Go.Proofs.YthfobpkdloejfaaGreat.Opens
open Go.RowKit Go.ChangeShapes Go.WideShapes Go.Deep Go.Proofs.YthfobpkdloejfaaGreatW.PrintWords Go.Proofs.YthfobpkdloejfaaGreatW.PrintMore
set_option linter.unusedVariables false
theorem cells_of {k : IntKind} : ∀ (n : Nat) (cs : List Value), cs.length = n → (∀ i, i < n → ∃ y, (cs.drop i).take 1 = [.int k y] ∧ (Lit.int k y).wf = true) → ∃ ws : List Int, cs = ws.map (Value.int k) ∧ ws.length = n ∧ ∀ y ∈ ws, (Lit.int k y).wf = true
  | 0, cs, h, _ => ⟨[], List.eq_nil_of_length_eq_zero h, rfl, fun y hy => by cases hy⟩
  | n + 1, [], h, _ => by simp at h
  | n + 1, c :: cs, h, hi => by
    obtain ⟨y, hy, hw⟩ := hi 0 (Nat.zero_lt_succ n)
    obtain ⟨ws, e, hl, hws⟩ := cells_of (k := k) n cs (by simpa using h) (fun i hlt => by obtain ⟨y, h1, h2⟩ := hi (i + 1) (Nat.succ_lt_succ hlt); exact ⟨y, by simpa using h1, h2⟩)
    have e1 : c = .int k y := by simpa using hy
    refine ⟨y :: ws, by rw [e1, e]; rfl, by rw [List.length_cons, hl], fun z hz => ?_⟩
    rcases List.mem_cons.1 hz with q | q
    · rw [q]; exact hw
    · exact hws z q
section
variable {H : Type} {enc : TypeId × Value → H} {P : Program} {w : World} {base : Nat} {spare : Nat → Bool} {held : Bool}
theorem open_ints_array {t e : TypeId} {k : IntKind} {n : Nat} {v : Value} {x : DataW H} {ps : List MemPlace} (ht : P.underlying t = some (.array n e)) (hc : P.cellsOf t = n) (he : P.cellsOf e = 1) (hk : P.underlying e = some (.int k)) {cs : List Value} (hv : v = .agg ⟨cs⟩)
    (h : DataW.Trod enc P w base spare held t v x ps) : ∃ ws : List Int, v = .agg (ws.map (Value.int k)).toArray ∧ ws.length = n ∧ ∀ y ∈ ws, (Lit.int k y).wf = true := by
  subst hv
  obtain ⟨fuel, hf⟩ := h
  obtain ⟨xs, m, _, _, hl, hxl, hx⟩ := DataW.trod_array ht hf
  have hl' : cs.length = n := by rw [hc] at hl; simpa [Value.cells] using hl
  obtain ⟨ws, e1, e2, e3⟩ := cells_of (k := k) n cs hl' (fun i hi => by
    have h1 := hx i hi
    rw [he, Nat.mul_one] at h1
    have hlt : i < xs.length := by rw [hxl]; exact hi
    rw [List.getElem?_eq_getElem hlt] at h1
    obtain ⟨y, h2, _, h3⟩ := DataW.trod_int hk h1
    exact ⟨y, by simpa [Value.cells] using h2, h3⟩)
  exact ⟨ws, by rw [e1], e2, e3⟩
theorem okWide_array {r : Reach} {t e : TypeId} {n : Nat} {v : Value} (ht : P.underlying t = some (.array n e)) (h : Value.okWide P w r base t v) : ∃ cs, v = .agg cs := by
  simp only [Value.okWide, ht] at h
  obtain ⟨cs, h1, _⟩ := h
  exact ⟨cs, h1⟩
theorem open_ints {t e : TypeId} {k : IntKind} {n : Nat} {r : Reach} {b0 : Nat} {v : Value} {x : DataW H} {ps : List MemPlace} (ht : P.underlying t = some (.array n e)) (hc : P.cellsOf t = n) (he : P.cellsOf e = 1) (hk : P.underlying e = some (.int k)) (hv : Value.okWide P w r b0 t v)
    (h : DataW.Trod enc P w base spare held t v x ps) : ∃ ws : List Int, v = .agg (ws.map (Value.int k)).toArray ∧ ws.length = n ∧ ∀ y ∈ ws, (Lit.int k y).wf = true := by
  obtain ⟨⟨cs⟩, e0⟩ := okWide_array ht hv
  exact open_ints_array ht hc he hk e0 h
end
end Go.Proofs.YthfobpkdloejfaaGreat.Opens
end
